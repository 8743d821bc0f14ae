import PyProof.Rows.All
import Wide.All
import OpenK.AllK
import Wide.FinOn
import HandS.ForMost
import HandS.ForExc
import HandS.Flow
import HandS.IsInst
import PyProof.ReprRoads
import HandS.ExcInit
import HandS.ExcField
import HandS.ExcIs
import HandS.MakeKwOnly
import HandS.ExcValue
import HandS.More
import HandS.HeadHook3
import HandS.Star
import HandS.MakeKw
import HandS.Zip
import KE.KDictZip
import HandS.TupAny
import HandS.Walk
import HandS.TryMany
import HandS.RaiseMore
import HandS.WordsExc
import HandS.Deep
import HandS.OwnEq
import HandS.SortInts
import HandS.NoneIn
import PySem.Challenge.RW_treequill_k04_fields_of_kinds
set_option Elab.async false
set_option linter.all false
set_option maxRecDepth 100000
set_option maxHeartbeats 4000000
/-! ### Tq: a def's promise where no repr runs around it (the guards are known to be none), and the end of a law by it -/
namespace Tq
open PySem L2 PySem.Spec PyProof.Rows
abbrev Quiet (A : Around) : Prop := A.guards = some []
/-- as FnOk, asked only where no repr is running -/
structure FnG (P : Program) (w : World) (K : PySem.W.Frag) (mg : Str → Option Value) (base : Heap) (CX : CXT) (k : Nat) (f : Addr)
    (fd : FuncData) (ps : List Str) (sp : Sp) : Prop where
  len : ∀ vs H Q E, sp vs H Q E → vs.length = ps.length
  run : ∀ (A : Around) (outer : List Env) (s : Shared) (H : Hp) (args : Args) (us : List Value) (vs : List V) (Q : VK) (E : XK),
    Quiet A → Room k A → Env0 P w K mg base A outer s H → BindsTo s fd args (ps.zip us) → Vals vs us → sp vs H Q E →
    codeAny (model P w) A (.call (.ref f) args) (CR CX outer P w H s Q E) s
section
variable {P : Program} {w : World} {K : PySem.W.Frag} {mg : Str → Option Value} {base : Heap} {CX : CXT} {j k : Nat} {f : Addr}
  {fd : FuncData} {N ps : List Str} {sp sp' : Sp}
theorem FnG.of (F : FnOk P w K mg base CX k f fd ps sp) : FnG P w K mg base CX k f fd ps sp :=
  ⟨F.len, fun A o s H a us vs Q E _ => F.run A o s H a us vs Q E⟩
theorem FnG.up (F : FnG P w K mg base CX j f fd ps sp) (h : j ≤ k) : FnG P w K mg base CX k f fd ps sp :=
  ⟨F.len, fun A o s H a us vs Q E g hr => F.run A o s H a us vs Q E g (hr.mono h)⟩
theorem FnG.imp (F : FnG P w K mg base CX k f fd ps sp) (h : ∀ vs H Q E, sp' vs H Q E → sp vs H Q E) : FnG P w K mg base CX k f fd ps sp' :=
  ⟨fun vs H Q E q => F.len vs H Q E (h _ _ _ _ q), fun A o s H a us vs Q E g hr e b v q => F.run A o s H a us vs Q E g hr e b v (h _ _ _ _ q)⟩
/-- a def by its body, where no repr runs -/
theorem okG {x qual : Str} {st : Stmt} (F : Fun K x qual st f fd) (S : FnScope N ps (defScope st)) (len : ∀ vs H Q E, sp vs H Q E → vs.length = ps.length)
    (body : ∀ (cdv : Value) (A : Around) (outer : List Env) (s : Shared) (H : Hp) (vs : List V) (Q : VK) (E : XK),
      Quiet (A.deeper (envOfC qual (defScope st) s.heap.objs.size f cdv)) → Room k (A.deeper (envOfC qual (defScope st) s.heap.objs.size f cdv)) → sp vs H Q E →
      ∃ t, PSs (cxOf CX P w K mg base N qual (defScope st) f cdv A outer s H E) (defBody st) t ∧
        t { nx := fun _ H' => Q .non H', rt := Q } (start N vs) H) : FnG P w K mg base CX (k + 1) f fd ps sp := by
  obtain ⟨oc, od, kV, doc, pm, an, cdv, ct, osl, rfl, lk, hcd⟩ := F.ex
  refine ⟨len, fun A outer s H args us vs Q E hq hr e0 hb r hsp => ?_⟩
  have hlen := len _ _ _ _ hsp
  have keepB : ∀ b o, base.get? b = some o → s.heap.get? b = some o := fun b o e => (e0.bs b o e).1
  have KX : K.In s.heap := e0.mod.kin.keeps keepB
  have noLim : s.heap.NoLimit := e0.mod.nolimit.keeps keepB
  have kinds : ∀ y ∈ ps.zip us, (defScope st).names.lookup y.1 = some .local ∨
      ((defScope st).names.lookup y.1 = some .cell ∧ ((cellsFrom (s.heap.objs.size + 1) (defScope st).names []).lookup y.1).isSome = true) := by
    rintro ⟨n, v⟩ hy
    rcases S.par n (List.of_mem_zip hy).1 with q | q
    · exact Or.inl q
    · exact Or.inr ⟨q, PySem.W.cellsFrom_some _ _ _ (Or.inl q)⟩
  refine codeAny_call_function hr.depth (KX _ _ lk) rfl S.co S.gen rfl (PySem.W.codeRec_of KX hcd) (hb _ _ _ _ ?_)
  refine wpAny_newFunctionEnv_cells S.kind kinds fun env he s1 x => ?_
  subst he
  refine ⟨noLim.keeps x.toInCall.keep, codeAny_func ?_⟩
  obtain ⟨t, ht, hq2⟩ := body cdv A outer s H vs Q E hq (hr.deeper _) hsp
  have I : Inv (cxOf CX P w K mg base N qual (defScope st) f cdv A outer s H E) [] (start N vs) H s1 := inv_start S hr.hd e0 hlen r x
  refine wpAny_mono (ht.run [] s1 (start N vs) H _ I hq2) (fun fl s' hs => ?_) fun e s' hs => hs
  cases fl with
  | ret u =>
    obtain ⟨v, σ', H', J, rv, q⟩ := hs
    exact ⟨v, H', J.os, J.bare, J.base, J.hok, rv, q⟩
  | next =>
    obtain ⟨σ', H', J, q⟩ := hs
    exact ⟨V.non, H', J.os, J.bare, J.base, J.hok, (rfl : Value.none = Value.none), q⟩
  | brk =>
    obtain ⟨_, _, _, q⟩ := hs
    exact q.elim
  | cont =>
    obtain ⟨_, _, _, q⟩ := hs
    exact q.elim
end
section
variable {P : Program} {w : World} {K : PySem.W.Frag} {mg : Str → Option Value} {base : Heap} {k : Nat} {f : Addr} {fd : FuncData} {N ps : List Str} {sp : Sp}
/-- a def that lets no error out -/
theorem okG0 {x qual : Str} {st : Stmt} (F : Fun K x qual st f fd) (S : FnScope N ps (defScope st)) (len : ∀ vs H Q E, sp vs H Q E → vs.length = ps.length)
    (body : ∀ (cdv : Value) (A : Around) (outer : List Env) (s : Shared) (H : Hp) (vs : List V) (Q : VK) (E : XK),
      Quiet (A.deeper (envOfC qual (defScope st) s.heap.objs.size f cdv)) → Room k (A.deeper (envOfC qual (defScope st) s.heap.objs.size f cdv)) → sp vs H Q E →
      ∃ t, PSs (cxOf CX0 P w K mg base N qual (defScope st) f cdv A outer s H E).nox (defBody st) t ∧
        t { nx := fun _ H' => Q .non H', rt := Q } (start N vs) H) : FnG P w K mg base CX0 (k + 1) f fd ps sp :=
  okG F S len fun cdv A outer s H vs Q E hq hr h => let ⟨t, h1, h2⟩ := body cdv A outer s H vs Q E hq hr h; ⟨t, h1.nox, h2⟩
end
/-- a def of the top by its name, packed -/
structure Df (P : Program) (w : World) (K : PySem.W.Frag) (mg : Str → Option Value) (base : Heap) (CX : CXT) (k : Nat) (x : Str) (sp : Sp) : Prop where
  ex : ∃ (f : Addr) (fd : FuncData) (ps : List Str), mg x = some (.ref f) ∧ PySem.W.keepIn K (.ref f) = true ∧ Binds K fd ps [] ∧ FnG P w K mg base CX k f fd ps sp
section
variable {X : Cx} {CX : CXT} {j k : Nat} {sp : Sp} {E : XK} {x : Str} {p pos : Pos} {e : Expr} {es : List Expr} {t : TA}
theorem run_df {pins : List (Addr × Obj)} {σ : L2.St} {H : Hp} {s : Shared} {Q : VK} {us : List Value} {vs : List V} {f : Addr} {fd : FuncData} {ps : List Str}
    (F : FnG X.prog X.w X.K X.mg X.base CX k f fd ps sp) (hq : Quiet X.A) (hr : Room k X.A) (hb : Binds X.K fd ps []) (hx : Passes CX X E)
    (I : Inv X pins σ H s) (r : Vals vs us) (h : sp vs H Q E) : wpAny (model X.prog X.w) X.A (call (.ref f) us) (EP X pins σ Q) X.xe s := by
  have hl : us.length = ps.length := by rw [← r.length]; exact F.len _ _ _ _ h
  have hb2 := hb s us I.kIn (by rw [List.append_nil]; exact hl)
  rw [List.append_nil] at hb2
  refine wpAny_call (codeAny_mono (F.run X.A X.stack s H ⟨us, []⟩ us vs Q E hq hr I.env0 hb2 r h) fun r s' hq => ?_)
  cases r with
  | error e => exact hx pins σ H s e s' I hq
  | ok fl =>
    cases fl with
    | ret u => exact I.after hq
    | next => exact hq.elim
    | brk => exact hq.elim
    | cont => exact hq.elim
def tDf (sp : Sp) (E : XK) (t : TA) : TE := fun σ H Q => t σ H fun vs H1 => sp vs H1 Q E
/-- f(e, ..), f a def of the top -/
theorem pe_df (c : Df X.prog X.w X.K X.mg X.base CX k x sp) (hq : Quiet X.A) (hr : Room j X.A) (hx : Passes CX X E) (ha : PA X (e :: es) t)
    (hk : k ≤ j := by omega) (hg : Gl X x := by rfl) (hdb : (x == ("__debug__" : Str)) = false := by decide)
    (he : starEach (e :: es) X.env = (false, eval e X.env) :: starEach es X.env := by rfl) (hpl : (backTo pos (starEach es X.env)).any (·.1) = false := by rfl) :
    PE X (.Call (.Name x p) (e :: es) [] pos) (tDf sp E t) := by
  obtain ⟨f, fd, ps, hm, hkp, hb, F⟩ := c.ex
  refine ⟨fun pins s σ H Q I h => ?_⟩
  refine wpAny_Call_Name_kw (ld_glob I hg hm ?_ hdb)
  refine PySem.W.callWith_K (h₀ := X.base) I.ok.mod.kin hkp (thn (ha.run pos pins s σ H _ I h) fun us s1 hh => ?_) he hpl
  obtain ⟨vs, H1, I1, r1, q1⟩ := hh
  exact ⟨I1.kIn, run_df F hq (hr.mono hk) hb hx I1 r1 q1⟩
end
/-! ### the end of a law -/
theorem lawG {P : Program} {w : World} {K : PySem.W.Frag} {mg mb : Str → Option Value} {CX : CXT} {k : Nat} {fa a : Addr} {fd : FuncData} {x : Str} {sp : Sp}
    {s₁ : Shared} {vs : List Value} {ns : List Int} (KX : K.In s₁.heap) (hns : s₁.heap.Ns mainGlobals mg) (hb : s₁.heap.Ns builtinsNs mb)
    (hbb : ∀ x : Str, x ≠ "__name__" → mb x = bootBuiltins x) (hlim : s₁.heap.NoLimit) (hg : s₁.gens = #[])
    (ha : s₁.heap.get? a = some { cls := .type "list", data := .seq vs.toArray }) (hi : IntsAre vs ns) (hl : ns.length ≤ sizeLine) (hr : Room k callerA)
    (F : ∀ base : Heap, K.In base → base.Ns mainGlobals mg → FnG P w K mg base CX k fa fd [x] sp)
    (hbind : ∀ (s : Shared) (u : Value), BindsTo s fd ⟨[u], []⟩ [(x, u)])
    (hsp : ∀ H : Hp, Only H → SqL K H a (ns.map V.int) → sp [.ref a] H (fun v _ => v = .bl true) fun _ _ _ => False)
    (hCX : ∀ H e s', CX [] H s₁ (fun _ _ _ => False) e s' → False) :
    codeAny (model P w) callerA (.call (.ref fa) ⟨[.ref a], []⟩)
      (fun r s' => r = .ok (.ret (.bool true)) ∧ OldK s₁.heap s'.heap ∧ s'.os = s₁.os ∧ AllBare s'.gens) s₁ := by
  have rels := vals_ints hi
  have lenV := hi.length
  have main : ∀ H : Hp, Only H → SqL K H a (ns.map V.int) → HOk P w H s₁.heap → (∀ b, H b ≠ none → b = a) → (H a ≠ none → K.lookup a = none) →
      codeAny (model P w) callerA (.call (.ref fa) ⟨[.ref a], []⟩)
        (fun r s' => r = .ok (.ret (.bool true)) ∧ OldK s₁.heap s'.heap ∧ s'.os = s₁.os ∧ AllBare s'.gens) s₁ := by
    intro H hO hS hok hA hK
    have none_or : ∀ b, H b = none ∨ b = a := fun b => by
      by_cases q : H b = none
      · exact Or.inl q
      · exact Or.inr (hA b q)
    have noDict : ∀ {b : Addr} {o : Obj} {es : Array DictEntry} {ep : Nat}, s₁.heap.get? b = some o → o.data = .dict es ep → H b = none := by
      intro b o es ep e d
      rcases none_or b with q | q
      · exact q
      · rw [q, ha] at e
        cases e
        exact nomatch d
    have nsK : ∀ {b : Addr} {m : Str → Option Value}, s₁.heap.Ns b m → (hidT s₁.heap H).Ns b m := by
      rintro b m ⟨o, es, ep, e, d, r⟩
      exact ⟨o, es, ep, hidT_get e (noDict e d), d, r⟩
    have inB : K.In (hidT s₁.heap H) := by
      intro b o e
      refine hidT_get (KX b o e) ?_
      rcases none_or b with q | q
      · exact q
      · by_cases z : H b = none
        · exact z
        · rw [q] at z e
          rw [hK z] at e
          cases e
    have modB : Mod K mg (hidT s₁.heap H) := by
      obtain ⟨mc, l1, l2⟩ := hlim
      exact ⟨inB, nsK hns, ⟨mb, nsK hb, hbb⟩, ⟨mc, nsK l1, l2⟩⟩
    have e0 : Env0 P w K mg (hidT s₁.heap H) callerA [] s₁ H :=
      ⟨rfl, modB, fun b o e => of_hidT e, Nat.le_of_eq (hidT_size _ _), trivial, fun b hb => absurd (show b ∈ ([] : List Addr) from hb) (by simp), hok, .of_eq hg⟩
    have run := (F _ inB (nsK hns)).run callerA [] s₁ H ⟨[.ref a], []⟩ [.ref a] [.ref a] _ _ rfl hr e0 (hbind s₁ (.ref a)) (.cons rfl .nil) (hsp H hO hS)
    refine codeAny_mono run fun r s' h => ?_
    cases r with
    | error e => exact (hCX H e s' h).elim
    | ok fl =>
      cases fl with
      | next => exact h.elim
      | brk => exact h.elim
      | cont => exact h.elim
      | ret u =>
        obtain ⟨v, H', os, bare, un, hok', r', q⟩ := h
        obtain rfl : v = V.bl true := q
        obtain rfl : u = Value.bool true := r'
        refine ⟨rfl, OldK.of_keep fun b o e => ?_, os, bare⟩
        cases q : H b with
        | none => exact un.keep b o e q (fun z => absurd (show b ∈ ([] : List Addr) from z) (by simp)) (by simp)
        | some u =>
          rcases hO b with z | ⟨ob, xs, z⟩
          · rw [q] at z
            cases z
          · have e1 := (hok b _ z).1
            have e2 := (hok' b _ (un.frzs b ob _ z)).1
            rw [e] at e1
            cases e1
            exact e2
  cases hk : K.lookup a with
  | some o =>
    have e := KX a o hk
    rw [ha] at e
    cases e
    refine main (fun _ => none) (fun _ => Or.inl rfl) (Or.inr ⟨_, vs.toArray, _, hk, rfl, rfl, rfl, ?_, by simpa using rels⟩) (fun b u z => nomatch z)
      (fun b z => absurd rfl z) fun z => absurd rfl z
    rw [List.size_toArray, lenV]
    exact hl
  | none =>
    refine main (fun b => if b = a then some (.frz { cls := .type "list", data := .seq vs.toArray } (.lst (ns.map V.int))) else none) (fun b => ?_)
      (Or.inl (Or.inr ⟨{ cls := .type "list", data := .seq vs.toArray }, if_pos rfl⟩)) (fun b u z => ?_) (fun b z => ?_) fun _ => hk
    · by_cases h : b = a
      · exact Or.inr ⟨_, _, if_pos h⟩
      · exact Or.inl (if_neg h)
    · by_cases h : b = a
      · have z2 := (if_pos h).symm.trans z
        cases z2
        rw [h]
        exact ⟨ha, by rw [List.length_map]; exact hl, vs, _, rels, ha⟩
      · exact nomatch (if_neg h).symm.trans z
    · by_cases h : b = a
      · exact h
      · exact absurd (if_neg h) z
theorem walkG {l : PySem.W.OpenLaw} {n k : Nat} {q : Program} {loose : List Str} {XP : (Str → Option Value) → Heap → Prop} {YP : World → Heap → Prop} {d : DefRec}
    {K : Params → PySem.W.Frag} {CX : World → CXT} {sp : PySem.W.Frag → Sp} {x : Str}
    (hn : l.most = some n) (hn2 : n ≤ sizeLine) (hdf : d.params.defaults = []) (hr : Room k callerA) (hY : ∀ (w : World) (h : Heap), YP w h → (K w.params).In h)
    (F : ∀ (w : World) (mg : Str → Option Value) (fa : Addr) (h : Heap), (K w.params).In h → h.Ns mainGlobals mg → mg d.name = some (.ref fa) →
      ∃ fd : FuncData, (∀ (s : Shared) (u : Value), BindsTo s fd ⟨[u], []⟩ [(x, u)]) ∧
        ∀ base : Heap, (K w.params).In base → base.Ns mainGlobals mg → FnG l.prog w (K w.params) mg base (CX w) k fa fd [x] (sp (K w.params)))
    (hsp : ∀ (K : PySem.W.Frag) (H : Hp) (a : Addr) (ns : List Int), ns.length ≤ n → Only H → SqL K H a (ns.map V.int) → sp K [.ref a] H (fun v _ => v = .bl true) fun _ _ _ => False)
    (hCX : ∀ (w : World) (H : Hp) (s : Shared) (e : Value) (s' : Shared), CX w [] H s (fun _ _ _ => False) e s' → False) :
    PySem.W.WalkO q loose XP YP l.row.toRowW d [] (fun f vs => PySem.call f vs) := by
  refine Att.attach_call hn hdf fun w s₀ s₁ mg mb fa o pm cd doc a vs ns G Y ho hd hcd hmg hobj hints hlen hg => ?_
  have KX := hY w _ Y
  obtain ⟨fd, hb, hF⟩ := F w mg fa _ KX G.T.g hmg
  exact lawG KX G.T.g G.T.b G.T.builtins G.T.nolimit hg hobj hints (Nat.le_trans hlen hn2) hr hF hb (fun H hO hS => hsp _ H a ns hlen hO hS) fun H e s' => hCX w H s₁ e s'
/-! ### repr of data -/
def rRepr (K : PySem.W.Frag) : List V → Hp → VK → Prop := fun xs H Q =>
  ∃ (a : Addr) (d : PyData), xs = [.ref a] ∧ Dp K H (.ref a) d ∧ d.showable = true ∧ d.hasDict = false ∧ d.depth ≤ 60 ∧ d.shown.length ≤ sizeLine ∧ Q (.str d.shown) H
theorem call_repr {X : Cx} {k : Nat} (hq : Quiet X.A) (hr : Room k X.A) : CallR X (.builtin "repr") (rRepr X.K) := by
  intro pins s σ H xs us Q I r h
  obtain ⟨a, d, rfl, hd, hs, hn, hp, hz, q⟩ := h
  cases r with
  | cons rv rn =>
    cases rn
    cases rv
    obtain ⟨as, rd⟩ := Dp.reads I d (.ref a) (.ref a) hd rfl
    have hu := hr.un
    refine repr_of_reads' rd hs (fun z => by rw [hn] at z; cases z) hq (by omega) (fun _ _ e => e) (fun h' u tk kp => ?_) hz
    exact ⟨.str d.shown, H, I.kept kp, ⟨u, rfl⟩, q⟩
end Tq

/-! ### the stream of draws -/
namespace Tq
open PySem L2
/-- a def of the text, by its name -/
structure Fn1 (K : PySem.W.Frag) (mg : Str → Option Value) (x : Str) (st : Stmt) : Prop where
  ex : ∃ (f : Addr) (fd : FuncData), mg x = some (.ref f) ∧ Fun K x x st f fd
theorem fn1 {K : PySem.W.Frag} {h : Heap} {mg : Str → Option Value} {x : Str} {st : Stmt} {f : Addr} {oc : Value} {od an : Option Addr} {osl : Array (Option Value)}
    {kV doc pm cdv ct : Value} (X : K.In h) (G : h.Ns mainGlobals mg) (a : PySem.W.nsIn K mainGlobals x = some (some (.ref f)))
    (l : K.lookup f = some ⟨oc, od, .func (PySem.W.fnOf x x (defArgs st) (defBody st) (defScope st) .none kV doc pm an cdv ct), osl⟩)
    (c : PySem.W.codeIn K cdv x = true) (k : PySem.W.keepIn K (.ref f) = true) : Fn1 K mg x st := ⟨f, _, PySem.W.mg_of X G a, fun_mk l c k⟩
theorem df_of {P : Program} {w : World} {K : PySem.W.Frag} {mg : Str → Option Value} {base : Heap} {CX : CXT} {k : Nat} {x : Str} {st : Stmt} {sp : Sp} {ps : List Str}
    (F : Fn1 K mg x st) (hb : ∀ (kV doc pm : Value) (an : Option Addr) (cdv ct : Value) (us : List Value), us.length = ps.length →
      bindArgs (PySem.W.fnOf x x (defArgs st) (defBody st) (defScope st) .none kV doc pm an cdv ct) ⟨us, []⟩ = pure (ps.zip us))
    (ok : ∀ (f : Addr) (fd : FuncData), Fun K x x st f fd → FnG P w K mg base CX k f fd ps sp) : Df P w K mg base CX k x sp := by
  obtain ⟨f, fd, hm, F⟩ := F.ex
  exact ⟨f, fd, ps, hm, F.kp, F.binds hb, ok f fd F⟩

/-- a heap without two of its places -/
def off (a l : Addr) (H : Hp) : Hp := fun b => if b = a ∨ b = l then none else H b
theorem off_sub {a l : Addr} {H : Hp} : Same (off a l H) H := fun b o e => by
  unfold off at e
  split at e
  · cases e
  · exact e
theorem off_of {a l b : Addr} {H : Hp} {o : HO} (h : H b = some o) (h1 : b ≠ a) (h2 : b ≠ l) : off a l H b = some o := by
  unfold off
  rw [if_neg (fun z => z.elim h1 h2)]
  exact h
theorem off_ne {a l b : Addr} {H : Hp} {o : HO} (h : off a l H b = some o) : b ≠ a ∧ b ≠ l ∧ H b = some o := by
  unfold off at h
  split at h
  · cases h
  · rename_i n
    exact ⟨fun e => n (Or.inl e), fun e => n (Or.inr e), h⟩
/-- what stood beside the stream stands -/
def Nx (a l : Addr) (H H' : Hp) : Prop := Same (off a l H) (off a l H')
theorem Nx.refl {a l : Addr} {H : Hp} : Nx a l H H := Same.refl _
theorem Nx.trans {a l : Addr} {H H1 H2 : Hp} (x : Nx a l H H1) (y : Nx a l H1 H2) : Nx a l H H2 := Same.trans x y
theorem Nx.get {a l b : Addr} {H H' : Hp} {o : HO} (x : Nx a l H H') (h : H b = some o) (h1 : b ≠ a) (h2 : b ≠ l) : H' b = some o := off_sub b o (x b o (off_of h h1 h2))
theorem Nx.of_same {a l : Addr} {H H' : Hp} (x : Same H H') : Nx a l H H' := fun b o e => by
  obtain ⟨h1, h2, h3⟩ := off_ne e
  exact off_of (x b o h3) h1 h2
theorem Nx.upd_a {a l : Addr} {H : Hp} {o : HO} : Nx a l H (upd H a o) := fun b u e => by
  obtain ⟨h1, h2, h3⟩ := off_ne e
  exact off_of (by rw [upd_ne h1]; exact h3) h1 h2
theorem Nx.upd_l {a l : Addr} {H : Hp} {o : HO} : Nx a l H (upd H l o) := fun b u e => by
  obtain ⟨h1, h2, h3⟩ := off_ne e
  exact off_of (by rw [upd_ne h2]; exact h3) h1 h2
theorem Nx.new {a l p : Addr} {H : Hp} {o : HO} (hp : H p = none) : Nx a l H (upd H p o) := Nx.of_same fun b u e => by
  rw [upd_ne (ne_of_none e hp)]
  exact e
/-- the stream at a, its cells at l, with at most c draws made -/
structure Strm (H : Hp) (a l : Addr) (c : Nat) : Prop where
  ex : ∃ (ns : List Int) (x k m : Int), H a = some (.lst [.ref l, .int x, .int k, .int m]) ∧ H l = some (.lst (ns.map V.int)) ∧ 0 ≤ x ∧ 0 ≤ k ∧ k ≤ c ∧ 0 ≤ m ∧ m < 2147483647
theorem Strm.mono {H : Hp} {a l : Addr} {c d : Nat} (s : Strm H a l c) (h : c ≤ d) : Strm H a l d := by
  obtain ⟨ns, x, k, m, h1, h2, h3, h4, h5, h6⟩ := s.ex
  exact ⟨ns, x, k, m, h1, h2, h3, h4, by omega, h6⟩
theorem strm_ne {H : Hp} {a l : Addr} {ns : List Int} {x k m : Int} (h1 : H a = some (.lst [.ref l, .int x, .int k, .int m])) (h2 : H l = some (.lst (ns.map V.int))) : a ≠ l := by
  rintro rfl
  rw [h1] at h2
  cases ns with
  | nil => cases h2
  | cons n r => cases h2
theorem Strm.dom {H : Hp} {a l : Addr} {c : Nat} (s : Strm H a l c) : H a ≠ none ∧ H l ≠ none := by
  obtain ⟨ns, x, k, m, h1, h2, _⟩ := s.ex
  rw [h1, h2]
  exact ⟨nofun, nofun⟩
theorem Strm.keep {H H' : Hp} {a l : Addr} {c : Nat} (s : Strm H a l c) (h1 : H' a = H a) (h2 : H' l = H l) : Strm H' a l c := by
  obtain ⟨ns, x, k, m, e1, e2, r⟩ := s.ex
  exact ⟨ns, x, k, m, h1.trans e1, h2.trans e2, r⟩
theorem Strm.new {H : Hp} {a l p : Addr} {c : Nat} {o : HO} (s : Strm H a l c) (hp : H p = none) : Strm (upd H p o) a l c :=
  s.keep (upd_ne fun e => s.dom.1 (e ▸ hp)) (upd_ne fun e => s.dom.2 (e ▸ hp))
/-- what is new behind was new ahead -/
theorem Nx.free {a l p : Addr} {H H' : Hp} {c : Nat} (x : Nx a l H H') (s : Strm H' a l c) (hp : H' p = none) : H p = none := by
  cases q : H p with
  | none => rfl
  | some o =>
    have h1 : p ≠ a := fun e => s.dom.1 (e ▸ hp)
    have h2 : p ≠ l := fun e => s.dom.2 (e ▸ hp)
    rw [x.get q h1 h2] at hp
    cases hp
theorem eqv_nil (ns : List Int) : PyData.eqv (.list (ns.map PyData.int)) (.list []) = ns.isEmpty := by
  cases ns with
  | nil => rfl
  | cons n r => simp [PyData.eqv, PyData.eqvAll]
theorem dpAll_ints {K : PySem.W.Frag} {H : Hp} : ∀ ns : List Int, DpAll K H (ns.map V.int) (ns.map PyData.int)
  | [] => .nil
  | n :: r => .cons (.int n) (dpAll_ints r)
theorem canLay_ints : ∀ ns : List Int, PyData.canLayAll0 (ns.map PyData.int) = true
  | [] => rfl
  | n :: r => by
    rw [List.map_cons, PyData.canLayAll0, canLay_ints r]
    rfl
theorem depth_ints : ∀ ns : List Int, PyData.depthAll (ns.map PyData.int) ≤ 1
  | [] => by simp [PyData.depthAll]
  | n :: r => by
    rw [List.map_cons, PyData.depthAll]
    have := depth_ints r
    simp [PyData.depth]
    omega
theorem shaped_ints (ns : List Int) : SeqAt.shaped (.list (ns.map PyData.int)) = true := by
  unfold SeqAt.shaped
  rw [Bool.and_eq_true]
  refine ⟨by rw [PyData.canLay0]; exact canLay_ints ns, ?_⟩
  have := depth_ints ns
  rw [PyData.depth]
  exact decide_eq_true (by omega)
/-! within a comprehension's block the written part is named -/
theorem castIx {X : Cx} {K : PySem.W.Frag} {r : PySem.W.Frag → R2} (i : IxR X (r X.K)) (h : X.K = K := by rfl) : IxR X (r K) := h ▸ i
theorem castOp {X : Cx} {K : PySem.W.Frag} {f : Value → Value → Sem Value} {r : PySem.W.Frag → R2} (i : OpR X f (r X.K)) (h : X.K = K := by rfl) : OpR X f (r K) := h ▸ i
theorem castCall {X : Cx} {K : PySem.W.Frag} {f : Value} {r : PySem.W.Frag → List V → Hp → VK → Prop} (i : CallR X f (r X.K)) (h : X.K = K := by rfl) : CallR X f (r K) := h ▸ i
theorem castPE {X : Cx} {K : PySem.W.Frag} {e : PySem.Expr} {r : PySem.W.Frag → TE} (i : PE X e (r X.K)) (h : X.K = K := by rfl) : PE X e (r K) := h ▸ i
theorem if1 {b : Bool} {A B : Prop} (hb : b = true) (h : A) : if b = true then A else B := by rw [if_pos hb]; exact h
theorem if0 {b : Bool} {A B : Prop} (hb : b = false) (h : B) : if b = true then A else B := by rw [hb, if_neg Bool.false_ne_true]; exact h
theorem ix0 (y : Int) (r : List Int) : seqIndex? 0 ((y :: r).map V.int).length = some 0 := by
  simp [seqIndex?]
theorem while_split {c : TT} {tb u : TS} {D : Ends} {σ : St} {H : Hp} (J : St → Hp → Prop) (hJ : ∀ σ H, J σ H → u D σ H)
    (h : (∀ σ H, J σ H → u D σ H) → tWhile c tb { D with nx := u D } σ H) : tSeq (tWhile c tb) u D σ H := h hJ
/-- draw(stream, n): some number from 0 to n - 1 -/
def spDraw : Sp := fun vs H Q _ => ∃ (a l : Addr) (n : Int) (c : Nat), vs = [.ref a, .int n] ∧ 0 < n ∧ n < 1000000000 ∧ c < 4000000 ∧ Strm H a l c ∧
  ∀ (r : Int) (H' : Hp), 0 ≤ r → r < n → Strm H' a l (c + 1) → Nx a l H H' → Q (.int r) H'
end Tq

/-! ### own errors held as values: made by place or by name, their fields, isinstance -/
namespace Tq
open PySem L2 PySem.Spec PyProof.Rows PySem.HandSPX
/-! the making, with keywords -/
section
variable {prog : Program} {w : World} {A : Around} {E : Value → Shared → Prop} {R : Result → Shared → Prop} {h : Heap} {g : Array GenState} {d : Drawn} {t : Nat} {os : OsState}
variable {nm q : Str} {C N : Addr} {bs bm bmB : List Value} {hdct : Bool} {sn : List Str} {sub : List Value} {ab : Bool} {col : Option Bool} {dd : Option Addr}
  {k0 k1 k2 k3 k5 : Option Value} {B newId initId : String} {kw : List (Str × Value)}
theorem check_newK {M : Model} (F : ExcBaseFacts B newId initId bmB) (hT : ∀ X : String, bm.contains (.type X) = bmB.contains (.type X)) {rest : List Value} {Q : Unit → Shared → Prop}
    (hC : h.get? C = some (excClassObj nm q C N bs bm hdct sn sub ab col dd k0 k1 k2 k3 k5 newId)) (hq : Q () ⟨h, g, d, t, os⟩) :
    wpAny M A (checkBuiltinCall newId ⟨.ref C :: rest, kw⟩) Q E ⟨h, g, d, t, os⟩ := by
  have inB : (Value.ref C :: bm).contains (.type B) = true := by rw [List.contains_cons, hT, F.hasB, Bool.or_true]
  have star := F.noStar
  simp only [checkBuiltinCall, F.newKind, F.newSplit, F.newRow]
  repeat (first
    | refine wpAny_loadPart_at hC ?_
    | (refine wpAny_isSubtype_exc hC ?_; rw [inB])
    | refine wpAny_staticBase_exc hC ?_
    | refine wpAny_madeBy_exc hC ?_
    | simp only [bne_self_eq_false, Bool.false_eq_true, if_false]
    | wp_step)
  exact hq
theorem newK (F : ExcBaseFacts B newId initId bmB) (hT : ∀ X : String, bm.contains (.type X) = bmB.contains (.type X)) {rest : List Value}
    (hC : h.get? C = some (excClassObj nm q C N bs bm hdct sn sub ab col dd k0 k1 k2 k3 k5 newId))
    (hq : R (.ok (.ret (.ref (h.objs.size + 1)))) ⟨(h.push { cls := .type "tuple", data := .seq rest.toArray }).push
      { cls := .ref C, data := .fields #[.ref h.objs.size, .none, .none, .none, .bool false, .none] }, g, d, t, os⟩) (hrest : rest.length ≤ sizeLine) :
    codeAny (model prog w) A (.builtin newId ⟨.ref C :: rest, kw⟩) R ⟨h, g, d, t, os⟩ := by
  have ends := F.ends
  have inB : (Value.ref C :: bm).contains (.type B) = true := by rw [List.contains_cons, hT, F.hasB, Bool.or_true]
  have noA : (Value.ref C :: bm).contains (.type "AttributeError") = false := by rw [List.contains_cons, hT, F.noAttr]; rfl
  have noN : (Value.ref C :: bm).contains (.type "NameError") = false := by rw [List.contains_cons, hT, F.noName]; rfl
  refine codeAny_builtinAt F.entry ?_
  unfold Builtin.«BaseException.__new__»
  refine PySem.wpAt_bind ?_
  show PySem.wpAt _ _ _ (stack >>= _) _ _ _
  refine PySem.wpAt_bind (PySem.wpAt_stack fun p below => PySem.wpAt_of_wpAny ?_)
  wp_walk
  refine PySem.wpAt_of_wpAny ?_
  rw [F.owner]
  repeat (first
    | with_reducible refine wpAny_madeHere_exc F.canon hC ?_
    | with_reducible refine wpAny_loadPart_at hC ?_
    | (with_reducible refine wpAny_isSubtype_exc hC ?_; first | rw [inB] | rw [noA] | rw [noN])
    | wp_step)
  show R _ _
  rw [Heap.size_push]
  exact hq
theorem typeCallK (F : ExcBaseFacts B newId initId bmB) (hT : ∀ X : String, bm.contains (.type X) = bmB.contains (.type X)) {rest : List Value} {fI : Addr} {Q : Fin → Shared → Prop}
    (hC : h.get? C = some (excClassObj nm q C N bs bm hdct sn sub ab col dd k0 k1 k2 k3 k5 newId))
    (hi : W.Looks (model prog w) h (typeLookup (.ref C) "__init__") (some (.ref fI))) (hb : ∀ self, W.Looks (model prog w) h (bindSpecial (.ref fI) self) (.ref fI, [self]))
    (hrest : rest.length ≤ sizeLine)
    (hq : codeAny (model prog w) A (.call (.ref fI) ⟨.ref (h.objs.size + 1) :: rest, kw⟩)
      (fun r s' => match r with | .ok (.ret v) => v = .none ∧ Q (.done (.ret (.ref (h.objs.size + 1)))) s' | .ok _ => False | .error e => E e s')
      ⟨(h.push (W.kdv_tup rest)).push (excO C h.objs.size), g, d, t, os⟩) :
    wpAny (model prog w) A (Builtin.«type.__call__» ⟨.ref C :: rest, kw⟩) Q E ⟨h, g, d, t, os⟩ := by
  repeat (first
    | with_reducible refine wpAny_loadPart_at hC ?_
    | with_reducible refine wpAny_madeBy_exc hC ?_
    | wp_step)
  refine codeAny_call_builtin_code (Code.quiet_builtin _ F.quiet) (check_newK F hT hC ?_)
  refine newK F hT hC ?_ hrest
  show wpAny _ _ _ _ _ _
  have k : ∀ b o, h.get? b = some o → ((h.push (W.kdv_tup rest)).push (excO C h.objs.size)).get? b = some o := fun b o e => Heap.get?_push_of_some _ (Heap.get?_push_of_some _ e)
  have hC1 := k _ _ hC
  have hget : ((h.push (W.kdv_tup rest)).push (excO C h.objs.size)).get? (h.objs.size + 1) = some (excO C h.objs.size) := by heap_get
  have inC : (Value.ref C :: bm).contains (.ref C) = true := by simp
  have i1 := hi.keeps k
  have b1 := (hb (.ref (h.objs.size + 1))).keeps k
  unfold isInstance
  repeat (first
    | with_reducible refine wpAny_loadPart_at hget ?_
    | (with_reducible refine wpAny_isSubtype_exc hC1 ?_; rw [inC])
    | wp_step)
  show wpAny _ _ (typeLookup (.ref C) _) _ _ _
  refine i1.at ?_
  refine wpAny_holding (wpAny_bind (b1.at ?_))
  refine wpAny_bind (wpAny_call (codeAny_mono hq fun r s' z => ?_))
  rcases r with e | (v | _ | _ | _) <;> first | exact z | exact z.elim | skip
  obtain ⟨rfl, z⟩ := z
  first
    | exact wpAny_pure (wpAny_pure z)
    | (wp_walk; exact z)
theorem callK (F : ExcBaseFacts B newId initId bmB) (hT : ∀ X : String, bm.contains (.type X) = bmB.contains (.type X)) {rest : List Value} {fI : Addr}
    (hC : h.get? C = some (excClassObj nm q C N bs bm hdct sn sub ab col dd k0 k1 k2 k3 k5 newId))
    (hi : W.Looks (model prog w) h (typeLookup (.ref C) "__init__") (some (.ref fI))) (hb : ∀ self, W.Looks (model prog w) h (bindSpecial (.ref fI) self) (.ref fI, [self]))
    (hrest : rest.length ≤ sizeLine)
    (hq : codeAny (model prog w) (A.under (.builtin "type.__call__" ⟨.ref C :: rest, kw⟩)) (.call (.ref fI) ⟨.ref (h.objs.size + 1) :: rest, kw⟩) (W.InitBack (h.objs.size + 1) R)
      ⟨(h.push (W.kdv_tup rest)).push (excO C h.objs.size), g, d, t, os⟩) :
    codeAny (model prog w) A (.call (.ref C) ⟨rest, kw⟩) R ⟨h, g, d, t, os⟩ := by
  have f1 := tc_lookup
  have f2 := tc_bind (.ref C)
  have hTy : (⟨h, g, d, t, os⟩ : Shared).TypeIs (.ref C) "type" := ⟨_, hC, rfl⟩
  refine codeAny_of_tree ?_
  show wpAny _ _ (callAny (.ref C) _) _ _ _
  repeat (any_goals (first
    | assumption
    | with_reducible refine wpAny_loadPart_at hC ?_
    | wp_step))
  refine ⟨rfl, ?_⟩
  refine codeAny_call_builtin_at (Code.quiet_builtin _ (by decide +kernel)) entry_typeCall (wpAny_check_type_call_sub hC (typeCallK F hT hC hi hb hrest ?_))
  refine codeAny_mono hq fun r s' z => ?_
  rcases r with e | (v | _ | _ | _) <;> exact z
end
end Tq

namespace Tq
open PySem L2 PySem.Spec PyProof.Rows PySem.HandSPX
/-! readings and rules -/
/-- C(..) by the own __init__ of C; the new error is held -/
def tExI (C : Addr) (sp : Sp) (gV : List V → List V) (ta : TA) : TE := fun σ H Q => ta σ H fun vs H1 => vs.length ≤ 1000 ∧
  ∀ a, H1 a = none → sp (.ref a :: gV vs) (upd H1 a (exo a C none)) (fun v H2 => v = .non ∧ Q (.ref a) H2) E0
/-- what is known of an own error class and its __init__ -/
structure ExCl (K : PySem.W.Frag) (mg : Str → Option Value) (x : Str) (C : Addr) : Prop where
  gC : mg x = some (.ref C)
  ox : OexC K C
  ec : ExcC K C
theorem ExCl.xf {K : PySem.W.Frag} {mg : Str → Option Value} {x : Str} {C : Addr} (T : ExCl K mg x C) : XfC K C := ⟨T.ec.hg, T.ec.hk, T.ec.hs, T.ec.hd⟩
structure ExIn (K : PySem.W.Frag) (C fI : Addr) : Prop where
  iC : PySem.W.findIn K (.ref C) "__init__" = some (some (.ref fI))
  tI : PySem.W.typeIn K (.ref fI) = some (.type "function")
section
variable {X : Cx} {C fI : Addr} {k : Nat} {fd : FuncData} {ps : List Str} {sp : Sp} {x : Str} {p pos : Pos} {e : Expr} {es : List Expr} {ta : TA}
theorem run_ex {pins : List (Addr × Obj)} {σ : L2.St} {H1 : Hp} {s1 : Shared} {Q : VK} {us ys : List Value} {xs : List V} {kw : List (Str × Value)} (T : OexC X.K C) (J : ExIn X.K C fI)
    (F1 : FnOk X.prog X.w X.K X.mg X.base CX0 k fI fd ps sp) (hr : Room (k + 1) X.A) (I1 : Inv X pins σ H1 s1) (rel : Vals xs ys)
    (bind : ∀ (s : Shared) (a : Addr), X.K.In s.heap → (Value.ref a :: ys).length = ps.length → BindsTo s fd ⟨Value.ref a :: us, kw⟩ (ps.zip (Value.ref a :: ys)))
    (hus : us.length ≤ 1000) (q1 : ∀ a, H1 a = none → sp (.ref a :: xs) (upd H1 a (exo a C none)) (fun v H2 => v = .non ∧ Q (.ref a) H2) E0) :
    wpAny (model X.prog X.w) X.A (call (.ref C) us kw) (EP X pins σ Q) X.xe s1 := by
  obtain ⟨nm, q, N, bs, bm, sn, sub, ab, col, dd, k0, k1, k2, k3, k5, hC, hbm⟩ := T.cls
  obtain ⟨hp, g, dr, tk, os⟩ := s1
  have hsz : hp.objs.size ≤ hp.objs.size + 1 := Nat.le_succ _
  have hq := q1 (hp.objs.size + 1) (I1.hok.fresh hsz)
  have kk : ∀ b o, hp.get? b = some o → ((hp.push (PySem.W.kdv_tup us)).push (excO C hp.objs.size)).get? b = some o := fun b o e => Heap.get?_push_of_some _ (Heap.get?_push_of_some _ e)
  have hget : ((hp.push (PySem.W.kdv_tup us)).push (excO C hp.objs.size)).get? (hp.objs.size + 1) = some (excO C hp.objs.size) := by heap_get
  have I2 : Inv X pins σ (upd H1 (hp.objs.size + 1) (exo (hp.objs.size + 1) C none)) ⟨(hp.push (PySem.W.kdv_tup us)).push (excO C hp.objs.size), g, dr, tk, os⟩ :=
    I1.laid (t' := tk) (a := hp.objs.size + 1) (o := exo (hp.objs.size + 1) C none) kk hsz (exo_ok hget)
  have r2 : Vals (V.ref (hp.objs.size + 1) :: xs) (Value.ref (hp.objs.size + 1) :: ys) := .cons rfl rel
  have hl : (Value.ref (hp.objs.size + 1) :: ys).length = ps.length := by
    rw [← r2.length]
    exact F1.len _ _ _ _ hq
  have hz : us.length ≤ sizeLine := Nat.le_trans hus (by rw [sizeLine_eq]; decide)
  refine wpAny_call (callK F.excBase_ValueError (fun Y => refsVE_contains Y bm hbm) (I1.kIn _ _ hC) (PySem.W.looks_findIn I1.kIn J.iC) (fun self => PySem.W.bind_fn I1.kIn self J.tI) hz
    (codeAny_mono (F1.run _ X.stack _ _ ⟨Value.ref (hp.objs.size + 1) :: us, kw⟩ (Value.ref (hp.objs.size + 1) :: ys) _ _ E0 (hr.make C us kw) (I2.env0.make C us kw) (bind _ _ I2.kIn hl) r2 hq) fun r s' hq' => ?_))
  cases r with
  | error er => exact hq'.elim
  | ok fl =>
    cases fl with
    | ret u =>
      obtain ⟨v, H', I3, rv, ev, q3⟩ := I2.after hq'
      subst ev
      exact ⟨rv, ⟨V.ref (hp.objs.size + 1), H', I3, rfl, q3⟩⟩
    | next => exact hq'.elim
    | brk => exact hq'.elim
    | cont => exact hq'.elim
/-- C(e, ..) -/
theorem pe_exI (T : ExCl X.K X.mg x C) (J : ExIn X.K C fI) (F1 : FnOk X.prog X.w X.K X.mg X.base CX0 k fI fd ps sp) (hb : Binds X.K fd ps []) (hr : Room (k + 1) X.A) (ha : PA X (e :: es) ta)
    (hg : Gl X x := by rfl) (hdb : (x == ("__debug__" : Str)) = false := by decide)
    (he : starEach (e :: es) X.env = (false, eval e X.env) :: starEach es X.env := by rfl) (hpl : (backTo pos (starEach es X.env)).any (·.1) = false := by rfl) :
    PE X (.Call (.Name x p) (e :: es) [] pos) (tExI C sp id ta) := by
  refine ⟨fun pins s σ H Q I h => ?_⟩
  refine wpAny_Call_Name_kw (ld_glob I hg T.gC ?_ hdb)
  refine PySem.W.callWith_K (h₀ := X.base) I.ok.mod.kin T.ox.kC (thn (ha.run pos pins s σ H _ I h) fun us s1 hh => ?_) he hpl
  obtain ⟨vs, H1, I1, r1, hz, q1⟩ := hh
  refine ⟨I1.kIn, run_ex T.ox J F1 hr I1 r1 (fun s a hk hl => ?_) (by show us.length ≤ 1000; rw [← r1.length]; exact hz) q1⟩
  have z := hb s (Value.ref a :: us) hk (by rw [List.append_nil]; exact hl)
  rw [List.append_nil] at z
  exact z
/-- C(k = e, ..), all fields by their names: g puts them in order -/
theorem pe_exK {kws : List Keyword} {ks : List Str} {g : List Value → List Value} {gV : List V → List V} (T : ExCl X.K X.mg x C) (J : ExIn X.K C fI) (F1 : FnOk X.prog X.w X.K X.mg X.base CX0 k fI fd ps sp)
    (hgr : ∀ {vs : List V} {us : List Value}, Vals vs us → Vals (gV vs) (g us))
    (hb : ∀ (s : Shared) (u : Value) (ws : List Value), (u :: g ws).length = ps.length → BindsTo s fd ⟨[u], ks.zip ws⟩ (ps.zip (u :: g ws))) (hr : Room (k + 1) X.A) (hkw : PK X kws ta)
    (hg : Gl X x := by rfl) (hall : (backToKw pos (keywordEach kws X.env)).all (·.1.isSome) = true := by rfl) (hks : (backToKw pos (keywordEach kws X.env)).filterMap (·.1) = ks := by rfl)
    (hdb : (x == ("__debug__" : Str)) = false := by decide) (hpl : ((backTo pos (starEach [] X.env)).any (·.1) || (backToKw pos (keywordEach kws X.env)).any (·.1.isNone)) = false := by rfl) :
    PE X (.Call (.Name x p) [] kws pos) (tExI C sp gV ta) := by
  refine ⟨fun pins s σ H Q I h => ?_⟩
  refine wpAny_Call_Name_kw (ld_glob I hg T.gC ?_ hdb)
  refine PySem.W.callWith_KW0 (h₀ := X.base) I.ok.mod.kin T.ox.kC hall ?_ hpl
  refine thn (hkw.run pos pins s σ H _ I h) fun ws s2 hh => ?_
  obtain ⟨zs, H2, I2, rz, hz, q2⟩ := hh
  refine ⟨I2.kIn, ?_⟩
  rw [hks]
  exact run_ex (us := []) T.ox J F1 hr I2 (hgr rz) (fun s a hk hl => hb s (.ref a) ws hl) (by simp) q2
/-- C(), no own __init__ -/
def tEx0 (C : Addr) : TE := fun _ H Q => ∀ a, H a = none → Q (.ref a) (upd H a (exo a C none))
theorem pe_ex0 {bmB : List Value} {B newId initId : String} (F : ExcBaseFacts B newId initId bmB) (q : PySem.W.excIn X.K C bmB newId = true) (T : ExCl X.K X.mg x C) (hg : Gl X x := by rfl)
    (hdb : (x == ("__debug__" : Str)) = false := by decide) : PE X (.Call (.Name x p) [] [] pos) (tEx0 C) := by
  refine ⟨fun pins s σ H Q I h => ?_⟩
  refine wpAny_Call_Name_kw (ld_glob I hg T.gC ?_ hdb)
  refine PySem.W.callWith_K0 I.kIn T.ox.kC ?_
  show wpAny _ _ (call (.ref C) []) _ _ _
  obtain ⟨bm, N, nm, qn, bs, hdct, sn, sub, ab, col, dd, k0, k1, k2, k3, k5, mN, hC, hN, hni, T2⟩ := exc_obj I.kIn q
  refine wpAny_call_exc_subT F T2 hC hN hni (fun h' a hm => ?_) (by rw [sizeLine_eq]; decide)
  have hn : H a = none := I.hok.gone hm.new
  obtain ⟨t, ht, _, _⟩ := hm.there
  exact ⟨.ref a, upd H a (exo a C none), I.un (Un.laidN hm.keeps hm.new hn) (I.hok.laidN hm.keeps hn (exo_ok ht)), rfl, h a hn⟩
/-- e.f, e an error that is held -/
def tXfl (K : PySem.W.Frag) (f : Str) (te : TE) : TE := fun σ H Q => te σ H fun x H1 => ∃ (a C dx : Addr) (fs : List (Str × V)) (v : V), x = .ref a ∧ H1 a = some (exo a C (some dx)) ∧
  H1 dx = some (exd dx fs) ∧ XfC K C ∧ PySem.W.findIn K (.ref C) f = some none ∧ fs.lookup f = some v ∧ Q v H1
theorem pe_xfl {te : TE} {n : Str} (he : PE X e te) (hb : attributeBase e n X.env (eval e X.env) = eval e X.env := by rfl) : PE X (.Attribute e n pos) (tXfl X.K n te) := by
  refine ⟨fun pins s σ H Q I h => ?_⟩
  refine attr_of hb (thn (he.run pins s σ H _ I h) fun u s1 hh => ?_)
  obtain ⟨x, H1, I1, rx, a, C, dx, fs, v, ex, ea, ed, T, hno, l, q⟩ := hh
  subst ex
  obtain rfl : u = Value.ref a := rx
  obtain ⟨t1, ho⟩ := exo_at I1.hok ea
  obtain ⟨mA, hns, hr⟩ := exd_at I1.hok ed
  obtain ⟨od, hod, hl⟩ := lookIn_ns hns
  obtain ⟨u, hu, ru⟩ := RelO.some_of (v := v) (o := mA n) (by rw [← l]; exact hr n)
  have J : PySem.W.InstAt s1.heap a { cls := .ref C, dict := some dx, data := .fields #[.ref t1, .none, .none, .none, .bool false, .none] } C (some od) := ⟨ho, rfl, rfl, hod⟩
  exact HandSPX.exc_get I1.kIn J T.ga T.gg T.exC (PySem.W.findObj_own T.hdC hno rfl (by rw [hl, hu])) (handed_of ru) ⟨v, H1, I1.tok _, ru, q⟩
end
/-! isinstance of an error that is held -/
end Tq
namespace PySem.W
open PySem PySem.Spec PySem.Calls PyProof.Rows
section
variable {prog : Program} {w : World} {A : Around} {E : Value → Shared → Prop} {s : Shared} {K : Frag} {x D : Addr} {ox : Obj} {od : Option Obj}
theorem tq_findObj {C : Addr} {name : Str} {a g : Value} (hc : (clsIn K C).isSome = true) (ha : findIn K (.ref C) name = some (some a)) (hg : specialIn K a "__get__" = some (some g))
    (ht : takesIn K a = some true) : findObj K C od name = some (.bind g a) := by
  obtain ⟨cd, hc⟩ := Option.isSome_iff_exists.mp hc
  unfold findObj
  rw [hc, Option.bind_some, ha, Option.bind_some]
  simp [hg, ht]
theorem tq_class {Q : Option Value → Shared → Prop} (T : L2.ExcC K D) (X : K.In s.heap) (I : InstAt s.heap x ox D od) (h : Q (some (.ref D)) { s with toks := s.toks + 1 }) :
    wpAny (model prog w) A (getAttr? (.ref x) "__class__") Q E s := by
  obtain ⟨hga, hgt, hsub, hdct, ha, hn, htk, hm⟩ := T
  have hf : findObj K D od "__class__" = some (.bind (.builtin "getset_descriptor.__get__") (.builtin "object.__class__")) :=
    tq_findObj (by obtain ⟨cd, hc, _⟩ := any_some hdct; rw [hc]; rfl) ha hn htk
  obtain ⟨hp, g, d, t, os⟩ := s
  have L0 := I.type (M := model prog w)
  have L1 := looks_findIn (M := model prog w) X hga
  have L2 := looks_findIn (M := model prog w) X hgt
  have L3 := looks_find (M := model prog w) X I hf
  have sub : Looks (model prog w) hp (isInstance (.ref x) (.type "BaseException")) true := L0.andThen (looks_subIn X hsub)
  have x0 : (false && onTheHeap (Value.builtin "BaseException.__getattribute__")) = false := rfl
  have x2 : (Value.builtin "BaseException.__getattribute__" == Value.builtin "object.__getattribute__") = false := by decide +kernel
  have x1 : (onTheHeap (Value.ref D) && Value.builtin "BaseException.__getattribute__" == Value.builtin "object.__getattribute__") = false := by rw [x2]; rfl
  unfold getAttr? getAttrBy? getAttrBy
  refine wpAny_bind (wpAny_mkText (wpAny_bind (wpAny_attempt (wpAny_holding (wpAny_bind (L0.at (wpAny_bind (L1.at ?_))))))))
  show wpAny _ _ (if (onTheHeap (Value.ref D) && Value.builtin "BaseException.__getattribute__" == Value.builtin "object.__getattribute__") = true then _ else _) _ _ _
  rw [x1, if_neg Bool.false_ne_true]
  unfold getAttrByItsOwn hookBefore
  refine wpAny_bind ?_
  rw [if_pos (show onTheHeap (Value.ref D) = true from rfl)]
  refine L2.at ?_
  refine wpAny_bind (wpAny_attempt (wpAny_holding ?_))
  unfold callGetattribute
  rw [x0, if_neg Bool.false_ne_true]
  unfold boundAndCalled
  rw [PySem.F.excAttr_ValueError.ga.bind (.ref x)]
  refine wpAny_bind (wpAny_pure ?_)
  show wpAny _ _ (call (.builtin "BaseException.__getattribute__") [.ref x, .str "__class__" t]) _ _ _
  refine wpAny_call (codeAny_call_builtin PySem.F.excAttr_ValueError.ga.plain PySem.F.entry_bexc_ga ?_)
  refine @check_slot (model prog w) _ _ ⟨hp, g, d, t + 1, os⟩ "BaseException.__getattribute__" "BaseException" "__getattribute__" (.ref x) [.str "__class__" t] [] _
    (by decide +kernel) (by decide +kernel) sub (PySem.F.args_bexc_ga (.ref x) (.str "__class__" t)) ?_
  unfold Builtin.«object.__getattribute__»
  refine wpAny_bind (wpAny_of_eq (a := ((Value.ref x : Value), [Value.str "__class__" t])) (by first | rfl | (simp only [slotArgs]; rfl)) ?_)
  refine wpAny_bind (wpAny_pure (wpAny_bind (L0.at (wpAny_bind (L3.at ?_)))))
  show wpAny _ _ (holding [Value.builtin "object.__class__"] (call (.builtin "getset_descriptor.__get__") [.builtin "object.__class__", .ref x, .ref D]) >>= ret) _ _ _
  refine wpAny_bind (wpAny_holding (wpAny_call (class_get (s := ⟨hp, g, d, t + 1, os⟩) (ox := ox) (od := od) X I hm ?_)))
  refine wpAny_pure ?_
  show wpAny _ _ (handedOut (.ref D)) _ _ _
  rw [handedOut_of (v := .ref D) rfl]
  first
    | exact wpAny_pure (wpAny_pure h)
    | exact wpAny_pure h
    | exact wpAny_pure (wpAny_bind (wpAny_pure (wpAny_pure h)))
theorem tq_kitx (T : L2.ExcC K D) : KitX K (.ref x) (.ref D) (fun h => InstAt h x ox D od) where
  ty := fun _ _ _ I => I.type
  it := fun _ _ X _ => by
    obtain ⟨cdD, hcD, _⟩ := any_some T.hd
    unfold clsIn at hcD
    split at hcD
    · rename_i ho
      intro A' Q' E' s' k q
      unfold isType loadHead
      exact wpAny_bind (wpAny_loadPart (k _ _ (X _ _ ho)) (wpAny_pure q))
    · cases hcD
  ne := fun h tp dd its n sl X htp => by
    obtain ⟨cdD, hcD, _⟩ := any_some T.hd
    refine Bool.eq_false_iff.mpr fun q => ?_
    have e : D = tp := Value.ref.inj (beq_iff_eq.mp q)
    subst e
    unfold clsIn at hcD
    split at hcD
    · rename_i ho
      cases (X _ _ ho).symm.trans htp
    · cases hcD
  ca := fun X I k => tq_class T X I k
end
end PySem.W
namespace Tq
open PySem L2
def rIsX (K : PySem.W.Frag) : List V → Hp → VK → Prop := fun xs H Q => ∃ (a C : Addr) (d : Option Addr) (c : V) (u : Value) (b : Bool), xs = [.ref a, c] ∧ H a = some (exo a C d) ∧
  (∀ dx, d = some dx → ∃ fs, H dx = some (exd dx fs)) ∧ ExcC K C ∧ ClsV c u ∧ PySem.W.kitOne K (.ref C) u = some b ∧ Q (.bl b) H
theorem call_isX {X : Cx} : CallR X (.builtin "isinstance") (rIsX X.K) := by
  intro pins s σ H xs us Q I r h
  obtain ⟨a, C, d, c, u, b, rfl, ha, hd, T, k, e, q⟩ := h
  obtain ⟨u1, u2, rfl, r1, r2⟩ := vals2 r
  have e2 := k.eq r2
  subst e2
  obtain rfl : u1 = Value.ref a := r1
  obtain ⟨t1, ho⟩ := exo_at I.hok ha
  have J : ∃ od, PySem.W.InstAt s.heap a { cls := .ref C, dict := d, data := .fields #[.ref t1, .none, .none, .none, .bool false, .none] } C od := by
    cases d with
    | none => exact ⟨none, ho, rfl, rfl, trivial⟩
    | some dx =>
      obtain ⟨fs, hx⟩ := hd dx rfl
      obtain ⟨mA, ⟨o, es, ep, h1, _⟩, _⟩ := exd_at I.hok hx
      exact ⟨some o, ho, rfl, rfl, h1⟩
  obtain ⟨od, J⟩ := J
  exact PySem.W.kia_one (PySem.W.tq_kitx T) I.kIn J e (fun z => nomatch z) fun tk => ⟨.bl b, H, I.tok tk, rfl, q⟩
end Tq

/-! ### data: what is read of a value, how long its text is -/
namespace Tq
open PySem L2
theorem sqL_same {K : PySem.W.Frag} {H H' : Hp} {a : Addr} {xs : List V} (e : Same H H') (h : SqL K H a xs) : SqL K H' a xs := e.seq h
theorem sqT_same {K : PySem.W.Frag} {H H' : Hp} {a : Addr} {xs : List V} (e : Same H H') (h : SqT K H a xs) : SqT K H' a xs := by
  rcases h with (h | ⟨o, h⟩) | h
  · exact .inl (.inl (e _ _ h))
  · exact .inl (.inr ⟨o, e _ _ h⟩)
  · exact .inr h
section
variable {K : PySem.W.Frag} {H H' : Hp}
mutual
theorem dp_same (e : Same H H') : ∀ (d : PyData) (v : V), Dp K H v d → Dp K H' v d
  | .none, _, h => by cases h; exact .non
  | .bool b, _, h => by cases h; exact .bl b
  | .int i, _, h => by cases h; exact .int i
  | .str x, _, h => by cases h; exact .str x
  | .list ds, _, h => by
    cases h with
    | lst hs ha => exact .lst (sqL_same e hs) (dpAll_same e ds _ ha)
  | .tuple ds, _, h => by
    cases h with
    | tup hs ha => exact .tup (sqT_same e hs) (dpAll_same e ds _ ha)
  | .dict _, _, h => by cases h
theorem dpAll_same (e : Same H H') : ∀ (ds : List PyData) (vs : List V), DpAll K H vs ds → DpAll K H' vs ds
  | [], _, h => by cases h; exact .nil
  | d :: ds, _, h => by
    cases h with
    | cons h1 h2 => exact .cons (dp_same e d _ h1) (dpAll_same e ds _ h2)
end
end
/-! a bound of the text -/
mutual
def tx : PyData → Nat
  | .list xs => 2 + txAll xs
  | .tuple xs => 3 + txAll xs
  | .none => 4
  | .bool _ => 5
  | .int i => (toString i : Str).length
  | .str x => (reprText x).length
  | .dict _ => 0
def txAll : List PyData → Nat
  | [] => 0
  | x :: xs => tx x + 2 + txAll xs
end
theorem listText_len (ts : List Str) : (listText ts).length ≤ 2 + piled ts := by
  cases ts with
  | nil => decide +kernel
  | cons t r =>
    have h := textFrom_length_pos r 1 (("[" : Str) ++ (if (0 : Nat) > 0 then ", " else "" : String) ++ t) (Nat.succ_pos 0)
    have e : ((("[" : Str) ++ (if (0 : Nat) > 0 then ", " else "" : String) ++ t)).length = 1 + t.length := by
      rw [strLen_append, strLen_append]; rfl
    have hY : (textFrom 0 "[" (t :: r)).length = (textFrom 1 (("[" : Str) ++ (if (0 : Nat) > 0 then ", " else "" : String) ++ t) r).length := rfl
    show (textFrom 0 "[" (t :: r) ++ "]").length ≤ _
    rw [strLen_append, hY, h, e, piled_cons]
    show 1 + t.length + piled r + 1 ≤ _
    omega
theorem tupleText_len (ts : List Str) : (tupleText ts).length ≤ 3 + piled ts := by
  have e3 : (((if ts.length == 1 then ",)" else ")" : String) : Str)).length ≤ 2 := by split <;> decide +kernel
  have e1 : ((("(" : String) : Str)).length = 1 := rfl
  unfold tupleText
  rw [strLen_append, strLen_append, e1]
  by_cases h : ts = []
  · subst h
    decide +kernel
  · have := join_length_add ts h
    omega
mutual
theorem shown_le : ∀ d : PyData, d.hasDict = false → d.shown.length ≤ tx d
  | .none, _ => by decide +kernel
  | .bool b, _ => by cases b <;> decide +kernel
  | .int i, _ => by rw [PyData.shown, tx]; exact Nat.le_refl _
  | .str x, _ => by rw [PyData.shown, tx]; exact Nat.le_refl _
  | .list xs, h => by
    rw [PyData.shown, tx]
    have := listText_len (PyData.shownAll xs)
    have := shownAll_le xs (by simpa [PyData.hasDict] using h)
    omega
  | .tuple xs, h => by
    rw [PyData.shown, tx]
    have := tupleText_len (PyData.shownAll xs)
    have := shownAll_le xs (by simpa [PyData.hasDict] using h)
    omega
  | .dict _, h => by simp [PyData.hasDict] at h
theorem shownAll_le : ∀ xs : List PyData, PyData.hasDictAll xs = false → piled (PyData.shownAll xs) ≤ txAll xs
  | [], _ => by rw [PyData.shownAll, txAll, piled_nil]; exact Nat.le_refl 0
  | x :: xs, h => by
    rw [PyData.hasDictAll, Bool.or_eq_false_iff] at h
    rw [PyData.shownAll, txAll, piled_cons]
    have := shown_le x h.1
    have := shownAll_le xs h.2
    omega
end
/-- plain data: no dict in it, its ints of a known size -/
structure Plain (d : PyData) (n m : Nat) : Prop where
  sh : d.showable = true
  nd : d.hasDict = false
  dp : d.depth ≤ n
  tx : tx d ≤ m
structure PlainAll (ds : List PyData) (n m : Nat) : Prop where
  sh : PyData.showableAll ds = true
  nd : PyData.hasDictAll ds = false
  dp : PyData.depthAll ds ≤ n
  tx : txAll ds ≤ m
theorem Plain.mono {d : PyData} {n m n' m' : Nat} (h : Plain d n m) (a : n ≤ n') (b : m ≤ m') : Plain d n' m' := ⟨h.sh, h.nd, Nat.le_trans h.dp a, Nat.le_trans h.tx b⟩
theorem PlainAll.mono {d : List PyData} {n m n' m' : Nat} (h : PlainAll d n m) (a : n ≤ n') (b : m ≤ m') : PlainAll d n' m' := ⟨h.sh, h.nd, Nat.le_trans h.dp a, Nat.le_trans h.tx b⟩
theorem PlainAll.nil {n m : Nat} : PlainAll [] n m := ⟨rfl, rfl, by simp [PyData.depthAll], by simp [txAll]⟩
theorem PlainAll.cons {d : PyData} {ds : List PyData} {n m k : Nat} (h : Plain d n m) (hs : PlainAll ds n k) : PlainAll (d :: ds) n (m + 2 + k) := by
  refine ⟨?_, ?_, ?_, ?_⟩
  · rw [PyData.showableAll, h.sh, hs.sh]; rfl
  · rw [PyData.hasDictAll, h.nd, hs.nd]; rfl
  · rw [PyData.depthAll]
    have := h.dp
    have := hs.dp
    omega
  · rw [txAll]
    have := h.tx
    have := hs.tx
    omega
theorem PlainAll.head {d : PyData} {ds : List PyData} {n m : Nat} (h : PlainAll (d :: ds) n m) : Plain d n m ∧ PlainAll ds n m := by
  obtain ⟨h1, h2, h3, h4⟩ := h
  rw [PyData.showableAll, Bool.and_eq_true] at h1
  rw [PyData.hasDictAll, Bool.or_eq_false_iff] at h2
  rw [PyData.depthAll] at h3
  rw [txAll] at h4
  exact ⟨⟨h1.1, h2.1, by omega, by omega⟩, ⟨h1.2, h2.2, by omega, by omega⟩⟩
theorem plain_list {ds : List PyData} {n m : Nat} (h : PlainAll ds n m) : Plain (.list ds) (n + 1) (m + 2) := by
  obtain ⟨h1, h2, h3, h4⟩ := h
  refine ⟨by rw [PyData.showable]; exact h1, by rw [PyData.hasDict]; exact h2, by rw [PyData.depth]; omega, by rw [Tq.tx]; omega⟩
theorem plain_tuple {ds : List PyData} {n m : Nat} (h : PlainAll ds n m) : Plain (.tuple ds) (n + 1) (m + 3) := by
  obtain ⟨h1, h2, h3, h4⟩ := h
  refine ⟨by rw [PyData.showable]; exact h1, by rw [PyData.hasDict]; exact h2, by rw [PyData.depth]; omega, by rw [Tq.tx]; omega⟩
/-- a value that may be told by repr -/
def Rep (K : PySem.W.Frag) (H : Hp) (v : V) (n m : Nat) : Prop := ∃ d, Dp K H v d ∧ Plain d n m
theorem Rep.mono {K : PySem.W.Frag} {H : Hp} {v : V} {n m n' m' : Nat} (h : Rep K H v n m) (a : n ≤ n') (b : m ≤ m') : Rep K H v n' m' := let ⟨d, h1, h2⟩ := h; ⟨d, h1, h2.mono a b⟩
theorem Rep.same {K : PySem.W.Frag} {H H' : Hp} {v : V} {n m : Nat} (h : Rep K H v n m) (e : Same H H') : Rep K H' v n m := let ⟨d, h1, h2⟩ := h; ⟨d, dp_same e d v h1, h2⟩
def RepAll (K : PySem.W.Frag) (H : Hp) (vs : List V) (n m : Nat) : Prop := ∃ ds, DpAll K H vs ds ∧ PlainAll ds n m
theorem RepAll.nil {K : PySem.W.Frag} {H : Hp} {n m : Nat} : RepAll K H [] n m := ⟨[], .nil, PlainAll.nil⟩
theorem RepAll.cons {K : PySem.W.Frag} {H : Hp} {v : V} {vs : List V} {n m k : Nat} (h : Rep K H v n m) (hs : RepAll K H vs n k) : RepAll K H (v :: vs) n (m + 2 + k) := by
  obtain ⟨d, h1, h2⟩ := h
  obtain ⟨ds, g1, g2⟩ := hs
  exact ⟨d :: ds, .cons h1 g1, .cons h2 g2⟩
theorem RepAll.same {K : PySem.W.Frag} {H H' : Hp} {vs : List V} {n m : Nat} (h : RepAll K H vs n m) (e : Same H H') : RepAll K H' vs n m := let ⟨d, h1, h2⟩ := h; ⟨d, dpAll_same e d vs h1, h2⟩
theorem RepAll.mono {K : PySem.W.Frag} {H : Hp} {vs : List V} {n m n' m' : Nat} (h : RepAll K H vs n m) (a : n ≤ n') (b : m ≤ m') : RepAll K H vs n' m' := let ⟨d, h1, h2⟩ := h; ⟨d, h1, h2.mono a b⟩
theorem dpAll_snoc {K : PySem.W.Frag} {H : Hp} : ∀ {vs : List V} {ds : List PyData} {v : V} {d : PyData}, DpAll K H vs ds → Dp K H v d → DpAll K H (vs ++ [v]) (ds ++ [d])
  | [], _, _, _, h, g => by cases h; exact .cons g .nil
  | _ :: _, _, _, _, h, g => by
    cases h with
    | cons h1 h2 => exact .cons h1 (dpAll_snoc h2 g)
theorem plain_snoc {d : PyData} {n m : Nat} (h : Plain d n m) : ∀ {ds : List PyData} {k : Nat}, PlainAll ds n k → PlainAll (ds ++ [d]) n (k + (m + 2))
  | [], k, g => (PlainAll.cons h PlainAll.nil (k := 0)).mono (Nat.le_refl _) (by omega)
  | e :: ds, k, g => by
    obtain ⟨g1, g2, g3, g4⟩ := g
    rw [PyData.showableAll, Bool.and_eq_true] at g1
    rw [PyData.hasDictAll, Bool.or_eq_false_iff] at g2
    rw [PyData.depthAll] at g3
    rw [txAll] at g4
    have ih := plain_snoc h (ds := ds) (k := txAll ds) ⟨g1.2, g2.2, by omega, Nat.le_refl _⟩
    exact (PlainAll.cons (d := e) (m := tx e) ⟨g1.1, g2.1, by omega, Nat.le_refl _⟩ ih).mono (Nat.le_refl _) (by omega)
theorem RepAll.snoc {K : PySem.W.Frag} {H : Hp} {v : V} {vs : List V} {n m k : Nat} (hs : RepAll K H vs n k) (h : Rep K H v n m) : RepAll K H (vs ++ [v]) n (k + (m + 2)) := by
  obtain ⟨d, h1, h2⟩ := h
  obtain ⟨ds, g1, g2⟩ := hs
  exact ⟨ds ++ [d], dpAll_snoc g1 h1, plain_snoc h2 g2⟩
theorem rep_list {K : PySem.W.Frag} {H : Hp} {a : Addr} {vs : List V} {n m : Nat} (h : SqL K H a vs) (hs : RepAll K H vs n m) : Rep K H (.ref a) (n + 1) (m + 2) := let ⟨ds, g1, g2⟩ := hs; ⟨.list ds, .lst h g1, plain_list g2⟩
theorem rep_tuple {K : PySem.W.Frag} {H : Hp} {a : Addr} {vs : List V} {n m : Nat} (h : SqT K H a vs) (hs : RepAll K H vs n m) : Rep K H (.ref a) (n + 1) (m + 3) := let ⟨ds, g1, g2⟩ := hs; ⟨.tuple ds, .tup h g1, plain_tuple g2⟩
theorem rep_non {K : PySem.W.Frag} {H : Hp} {n m : Nat} (h : 4 ≤ m) : Rep K H .non n m := ⟨.none, .non, rfl, rfl, Nat.zero_le _, h⟩
theorem rep_bl {K : PySem.W.Frag} {H : Hp} {b : Bool} {n m : Nat} (h : 5 ≤ m) : Rep K H (.bl b) n m := ⟨.bool b, .bl b, rfl, rfl, Nat.zero_le _, h⟩
theorem rep_int {K : PySem.W.Frag} {H : Hp} {i : Int} {n m : Nat} (h1 : i.natAbs.log2 < 1920) (h : (toString i : Str).length ≤ m) : Rep K H (.int i) n m :=
  ⟨.int i, .int i, by rw [PyData.showable]; exact decide_eq_true h1, rfl, Nat.zero_le _, h⟩
theorem rep_str {K : PySem.W.Frag} {H : Hp} {x : Str} {n m : Nat} (h : (reprText x).length ≤ m) : Rep K H (.str x) n m := ⟨.str x, .str x, rfl, rfl, Nat.zero_le _, h⟩
/-! one list gets another item -/
mutual
theorem dp_app {K : PySem.W.Frag} {H : Hp} {b : Addr} {xs : List V} {y : V} {e : PyData} (hb : H b = some (.lst xs)) (he : ∀ H' : Hp, Dp K H' y e) (e1 : Plain e 0 2) :
    ∀ (d : PyData) (v : V) (n : Nat), Dp K H v d → Plain d n (tx d) → ∃ d', Dp K (upd H b (.lst (xs ++ [y]))) v d' ∧ Plain d' n (4 * tx d)
  | .none, _, _, h, p => by cases h; exact ⟨.none, .non, p.mono (Nat.le_refl _) (by omega)⟩
  | .bool c, _, _, h, p => by cases h; exact ⟨.bool c, .bl c, p.mono (Nat.le_refl _) (by omega)⟩
  | .int i, _, _, h, p => by cases h; exact ⟨.int i, .int i, p.mono (Nat.le_refl _) (by omega)⟩
  | .str x, _, _, h, p => by cases h; exact ⟨.str x, .str x, p.mono (Nat.le_refl _) (by omega)⟩
  | .list ds, _, n, h, p => by
    cases h with
    | @lst a zs _ hs ha =>
      obtain ⟨p1, p2, p3, p4⟩ := p
      rw [PyData.showable] at p1
      rw [PyData.hasDict] at p2
      rw [PyData.depth] at p3
      cases n with
      | zero => omega
      | succ n =>
        obtain ⟨ds', g1, g2⟩ := dpAll_app hb he e1 ds zs n ha ⟨p1, p2, by omega, Nat.le_refl _⟩
        have old : SqL K (upd H b (.lst (xs ++ [y]))) a zs ∨ (a = b ∧ zs = xs) := by
          by_cases hab : a = b
          · subst hab
            rcases hs with (hs | ⟨o, hs⟩) | hs
            · rw [hb] at hs
              cases hs
              exact Or.inr ⟨rfl, rfl⟩
            · rw [hb] at hs
              cases hs
            · exact Or.inl (.inr hs)
          · rcases hs with (hs | ⟨o, hs⟩) | hs
            · exact Or.inl (.inl (.inl (by rw [upd_ne hab]; exact hs)))
            · exact Or.inl (.inl (.inr ⟨o, by rw [upd_ne hab]; exact hs⟩))
            · exact Or.inl (.inr hs)
        rcases old with hs' | ⟨rfl, rfl⟩
        · refine ⟨.list ds', .lst hs' g1, (plain_list g2).mono (Nat.le_refl _) ?_⟩
          rw [tx]
          omega
        · refine ⟨.list (ds' ++ [e]), .lst (SqL.of upd_same) (dpAll_snoc g1 (he _)), (plain_list (plain_snoc (e1.mono (Nat.zero_le n) (Nat.le_refl _)) g2)).mono (Nat.le_refl _) ?_⟩
          rw [tx]
          omega
  | .tuple ds, _, n, h, p => by
    cases h with
    | @tup a zs _ hs ha =>
      obtain ⟨p1, p2, p3, p4⟩ := p
      rw [PyData.showable] at p1
      rw [PyData.hasDict] at p2
      rw [PyData.depth] at p3
      cases n with
      | zero => omega
      | succ n =>
        obtain ⟨ds', g1, g2⟩ := dpAll_app hb he e1 ds zs n ha ⟨p1, p2, by omega, Nat.le_refl _⟩
        have hs' : SqT K (upd H b (.lst (xs ++ [y]))) a zs := by
          rcases hs with (hs | ⟨o, hs⟩) | hs
          · exact .inl (.inl (by rw [upd_ne (ne_of hs hb (by intro z; cases z))]; exact hs))
          · exact .inl (.inr ⟨o, by rw [upd_ne (ne_of hs hb (by intro z; cases z))]; exact hs⟩)
          · exact .inr hs
        refine ⟨.tuple ds', .tup hs' g1, (plain_tuple g2).mono (Nat.le_refl _) ?_⟩
        rw [tx]
        omega
  | .dict _, _, _, h, _ => by cases h
theorem dpAll_app {K : PySem.W.Frag} {H : Hp} {b : Addr} {xs : List V} {y : V} {e : PyData} (hb : H b = some (.lst xs)) (he : ∀ H' : Hp, Dp K H' y e) (e1 : Plain e 0 2) :
    ∀ (ds : List PyData) (vs : List V) (n : Nat), DpAll K H vs ds → PlainAll ds n (txAll ds) → ∃ ds', DpAll K (upd H b (.lst (xs ++ [y]))) vs ds' ∧ PlainAll ds' n (4 * txAll ds)
  | [], _, _, h, _ => by cases h; exact ⟨[], .nil, PlainAll.nil⟩
  | d :: ds, _, n, h, p => by
    cases h with
    | cons h1 h2 =>
      obtain ⟨p1, p2, p3, p4⟩ := p
      rw [PyData.showableAll, Bool.and_eq_true] at p1
      rw [PyData.hasDictAll, Bool.or_eq_false_iff] at p2
      rw [PyData.depthAll] at p3
      obtain ⟨d', q1, q2⟩ := dp_app hb he e1 d _ n h1 ⟨p1.1, p2.1, by omega, Nat.le_refl _⟩
      obtain ⟨ds', r1, r2⟩ := dpAll_app hb he e1 ds _ n h2 ⟨p1.2, p2.2, by omega, Nat.le_refl _⟩
      refine ⟨d' :: ds', .cons q1 r1, (PlainAll.cons q2 r2).mono (Nat.le_refl _) ?_⟩
      rw [txAll]
      omega
end
theorem Rep.app {K : PySem.W.Frag} {H : Hp} {b : Addr} {xs : List V} {y : V} {e : PyData} {v : V} {n m : Nat} (hb : H b = some (.lst xs)) (he : ∀ H' : Hp, Dp K H' y e) (e1 : Plain e 0 2) (h : Rep K H v n m) :
    Rep K (upd H b (.lst (xs ++ [y]))) v n (4 * m) := by
  obtain ⟨d, h1, h2⟩ := h
  obtain ⟨d', g1, g2⟩ := dp_app hb he e1 d v n h1 ⟨h2.sh, h2.nd, h2.dp, Nat.le_refl _⟩
  have := h2.tx
  exact ⟨d', g1, g2.mono (Nat.le_refl _) (by omega)⟩
end Tq

/-! ### errors that are held, by their class and fields -/
namespace Tq
open PySem L2 PyProof.Rows
/-- an error of the class at C with these fields -/
def Er (H : Hp) (C : Addr) (v : V) (fs : List (Str × V)) : Prop := ∃ (a : Addr) (d : Option Addr), v = .ref a ∧ H a = some (exo a C d) ∧ ((d = none ∧ fs = []) ∨ ∃ dx, d = some dx ∧ H dx = some (exd dx fs))
theorem Er.same {H H' : Hp} {C : Addr} {v : V} {fs : List (Str × V)} (h : Er H C v fs) (e : Same H H') : Er H' C v fs := by
  obtain ⟨a, d, rfl, h1, h2⟩ := h
  refine ⟨a, d, rfl, e _ _ h1, ?_⟩
  rcases h2 with h2 | ⟨dx, h3, h4⟩
  · exact Or.inl h2
  · exact Or.inr ⟨dx, h3, e _ _ h4⟩
/-- a class below TreeError (at TE), as the top has made it -/
structure Kl (K : PySem.W.Frag) (mg : Str → Option Value) (x : Str) (C TE : Addr) : Prop where
  g : mg x = some (.ref C)
  lk : ∃ q N bs sn sub ab col dd k0 k1 k2 k3 k5, K.lookup C = some (excClassObj x q C N bs [.ref TE, .type "ValueError", .type "Exception", .type "BaseException", .type "object"] true sn sub ab col dd k0 k1 k2 k3 k5 "ValueError.__new__")
  ec : ExcC K C
  sa : PySem.W.findIn K (.ref C) "__setattr__" = some (some (.builtin "object.__setattr__"))
  ty : PySem.W.typeIn K (.ref C) = some (.type "type")
  kp : PySem.W.keepIn K (.ref C) = true
theorem kl_mk {K : PySem.W.Frag} {h : Heap} {mg : Str → Option Value} {x : Str} {C TE : Addr} {q : Str} {N : Addr} {bs : List Value} {sn : List Str} {sub : List Value} {ab : Bool} {col : Option Bool} {dd : Option Addr}
    {k0 k1 k2 k3 k5 : Option Value} (X : K.In h) (G : h.Ns mainGlobals mg) (a : PySem.W.nsIn K mainGlobals x = some (some (.ref C)))
    (l : K.lookup C = some (excClassObj x q C N bs [.ref TE, .type "ValueError", .type "Exception", .type "BaseException", .type "object"] true sn sub ab col dd k0 k1 k2 k3 k5 "ValueError.__new__"))
    (h1 : PySem.W.findIn K (.ref C) "__getattribute__" = some (some (.builtin "BaseException.__getattribute__"))) (h2 : PySem.W.findIn K (.ref C) "__getattr__" = some none)
    (h3 : PySem.W.subIn K (.ref C) (.type "BaseException") = some true) (h4 : PySem.W.hasDictIn K C = true) (h5 : PySem.W.findIn K (.ref C) "__class__" = some (some (.builtin "object.__class__")))
    (h6 : PySem.W.specialIn K (.builtin "object.__class__") "__get__" = some (some (.builtin "getset_descriptor.__get__"))) (h7 : PySem.W.takesIn K (.builtin "object.__class__") = some true)
    (h8 : PySem.W.mroIn K C (.type "object") = some true) (sa : PySem.W.findIn K (.ref C) "__setattr__" = some (some (.builtin "object.__setattr__")))
    (ty : PySem.W.typeIn K (.ref C) = some (.type "type")) (kp : PySem.W.keepIn K (.ref C) = true) : Kl K mg x C TE :=
  ⟨PySem.W.mg_of X G a, ⟨q, N, bs, sn, sub, ab, col, dd, k0, k1, k2, k3, k5, l⟩, ⟨h1, h2, h3, h4, h5, h6, h7, h8⟩, sa, ty, kp⟩
section
variable {K : PySem.W.Frag} {mg : Str → Option Value} {x y : Str} {C D TE : Addr}
theorem Kl.cl (T : Kl K mg x C TE) : ExCl K mg x C := by
  obtain ⟨q, N, bs, sn, sub, ab, col, dd, k0, k1, k2, k3, k5, l⟩ := T.lk
  exact ⟨T.g, ⟨⟨_, q, N, bs, _, sn, sub, ab, col, dd, k0, k1, k2, k3, k5, l, rfl⟩, T.sa, T.ec.hs, T.ty, T.kp⟩, T.ec⟩
theorem Kl.sub (T : Kl K mg x C TE) (b : Value) : PySem.W.subIn K (.ref C) b = some ([Value.ref C, .ref TE, .type "ValueError", .type "Exception", .type "BaseException", .type "object"].contains b) := by
  obtain ⟨q, N, bs, sn, sub, ab, col, dd, k0, k1, k2, k3, k5, l⟩ := T.lk
  show PySem.W.mroIn K C b = _
  unfold PySem.W.mroIn PySem.W.clsIn
  rw [l]
  rfl
theorem Kl.cls (T : Kl K mg x C TE) : (PySem.W.clsIn K C).isSome = true := by
  obtain ⟨q, N, bs, sn, sub, ab, col, dd, k0, k1, k2, k3, k5, l⟩ := T.lk
  unfold PySem.W.clsIn
  rw [l]
  rfl
theorem Kl.ne (T : Kl K mg x C TE) (U : Kl K mg y D TE) (h : x ≠ y) : C ≠ D := by
  rintro rfl
  obtain ⟨q, N, bs, sn, sub, ab, col, dd, k0, k1, k2, k3, k5, l⟩ := T.lk
  obtain ⟨q', N', bs', sn', sub', ab', col', dd', k0', k1', k2', k3', k5', l'⟩ := U.lk
  rw [l] at l'
  have e := congrArg (fun o : Option Obj => o.map (·.data)) l'
  simp only [excClassObj, Option.map_some, Option.some.injEq] at e
  injection e with e
  injection e with e
  exact h e
theorem Kl.kit_own (T : Kl K mg x C TE) : PySem.W.kitOne K (.ref C) (.ref C) = some true := by
  unfold PySem.W.kitOne
  rw [if_pos (beq_self_eq_true _)]
theorem Kl.kit_other (T : Kl K mg x C TE) (U : Kl K mg y D TE) (h : x ≠ y) (hD : D ≠ TE) : PySem.W.kitOne K (.ref C) (.ref D) = some false := by
  have ne := T.ne U h
  unfold PySem.W.kitOne
  rw [if_neg (by simpa using ne)]
  unfold PySem.W.kitCls
  simp only [U.cls, U.ty, T.sub]
  rw [if_pos (by decide)]
  have n1 : (Value.ref D == Value.ref C) = false := by simpa using Ne.symm ne
  have n2 : (Value.ref D == Value.ref TE) = false := by simpa using hD
  have n3 : ∀ s, (Value.ref D == Value.type s) = false := fun s => by simp
  simp [List.contains_cons, Ne.symm ne, hD]
theorem Kl.kit_ve (T : Kl K mg x C TE) : PySem.W.kitOne K (.ref C) (.type "ValueError") = some true := by
  unfold PySem.W.kitOne
  rw [if_neg (by simp)]
  show (if PySem.W.kitMeta "ValueError" = true then PySem.W.subIn K (.ref C) (.type "ValueError") else none) = some true
  rw [if_pos (by decide +kernel), T.sub]
  simp [List.contains_cons]
/-- TreeError itself -/
structure KT (K : PySem.W.Frag) (mg : Str → Option Value) (TE : Addr) : Prop where
  g : mg "TreeError" = some (.ref TE)
  cls : (PySem.W.clsIn K TE).isSome = true
  ty : PySem.W.typeIn K (.ref TE) = some (.type "type")
  nm : ∃ o, K.lookup TE = some o ∧ ∀ nm q N bs bm h sn sub ab col dd k0 k1 k2 k3 k5, o = excClassObj nm q TE N bs bm h sn sub ab col dd k0 k1 k2 k3 k5 "ValueError.__new__" → nm = "TreeError"
theorem Kl.kit_te (T : Kl K mg x C TE) (U : KT K mg TE) : PySem.W.kitOne K (.ref C) (.ref TE) = some true := by
  unfold PySem.W.kitOne
  split
  · rfl
  · unfold PySem.W.kitCls
    simp only [U.cls, U.ty, T.sub]
    rw [if_pos (by decide)]
    simp [List.contains_cons]
theorem Kl.ne_te (T : Kl K mg x C TE) (U : KT K mg TE) (h : x ≠ "TreeError") : C ≠ TE := by
  rintro rfl
  obtain ⟨q, N, bs, sn, sub, ab, col, dd, k0, k1, k2, k3, k5, l⟩ := T.lk
  obtain ⟨o, l', e⟩ := U.nm
  rw [l] at l'
  exact h (e _ _ _ _ _ _ _ _ _ _ _ _ _ _ _ _ (Option.some.inj l').symm)
end
/-- the own __init__ of a class, which keeps the fields by these names -/
def spI (K : PySem.W.Frag) (names : List Str) : Sp := fun vs H Q _ => ∃ (a C : Addr) (ws : List V), vs = .ref a :: ws ∧ ws.length = names.length ∧ OexC K C ∧ (∀ f ∈ names, PySem.W.findIn K (.ref C) f = some none) ∧
  H a = some (exo a C none) ∧ ∀ (H' : Hp) (dx : Addr), H dx = none → dx ≠ a → H' a = some (exo a C (some dx)) → H' dx = some (exd dx (names.zip ws).reverse) →
    (∀ b o, H b = some o → b ≠ a → H' b = some o) → Q .non H'
structure In1 (K : PySem.W.Frag) (C : Addr) (qual : Str) (st : Stmt) (names : List Str) : Prop where
  ex : ∃ (f : Addr) (fd : FuncData), ExIn K C f ∧ Fun K "__init__" qual st f fd
  no : ∀ f ∈ names, PySem.W.findIn K (.ref C) f = some none
theorem in1_mk {K : PySem.W.Frag} {C : Addr} {qual : Str} {st : Stmt} {names : List Str} {f : Addr} {oc : Value} {od an : Option Addr} {osl : Array (Option Value)} {kV doc pm cdv ct : Value}
    (a : PySem.W.findIn K (.ref C) "__init__" = some (some (.ref f))) (t : PySem.W.typeIn K (.ref f) = some (.type "function"))
    (l : K.lookup f = some ⟨oc, od, .func (PySem.W.fnOf "__init__" qual (defArgs st) (defBody st) (defScope st) .none kV doc pm an cdv ct), osl⟩)
    (c : PySem.W.codeIn K cdv qual = true) (k : PySem.W.keepIn K (.ref f) = true) (no : ∀ f ∈ names, PySem.W.findIn K (.ref C) f = some none) : In1 K C qual st names := ⟨⟨f, _, ⟨a, t⟩, fun_mk l c k⟩, no⟩
/-- an error class whose __init__ keeps its promise, made by place -/
structure Mk1 (P : Program) (w : World) (K : PySem.W.Frag) (mg : Str → Option Value) (base : Heap) (C : Addr) (names ps ks : List Str) (g : List Value → List Value) : Prop where
  ex : ∃ (f : Addr) (fd : FuncData), ExIn K C f ∧ L2.Binds K fd ps [] ∧ (∀ (s : Shared) (u : Value) (ws : List Value), (u :: g ws).length = ps.length → BindsTo s fd ⟨[u], ks.zip ws⟩ (ps.zip (u :: g ws))) ∧
    FnOk P w K mg base CX0 1 f fd ps (spI K names)
  no : ∀ f ∈ names, PySem.W.findIn K (.ref C) f = some none
section
variable {X : Cx} {C : Addr} {x : Str} {names ps ks : List Str} {g : List Value → List Value} {p pos : Pos} {e : Expr} {es : List Expr} {ta : TA}
/-- X(e, ..): what is left -/
def tEr (C : Addr) (names : List Str) (gV : List V → List V) (ta : TA) : TE := fun σ H Q => ta σ H fun vs H1 => (gV vs).length = names.length ∧ vs.length ≤ 1000 ∧ ∀ (v : V) (H2 : Hp), Same H1 H2 → Er H2 C v (names.zip (gV vs)).reverse → Q v H2
theorem tEr_of {K : PySem.W.Frag} {gV : List V → List V} (T : OexC K C) (no : ∀ f ∈ names, PySem.W.findIn K (.ref C) f = some none) {vs : List V} {H1 : Hp} {Q : VK} (hl : (gV vs).length = names.length)
    (h : ∀ (v : V) (H2 : Hp), Same H1 H2 → Er H2 C v (names.zip (gV vs)).reverse → Q v H2) (a : Addr) (ha : H1 a = none) : spI K names (.ref a :: gV vs) (upd H1 a (exo a C none)) (fun v H2 => v = .non ∧ Q (.ref a) H2) E0 := by
  refine ⟨a, C, gV vs, rfl, hl, T, no, upd_same, fun H' dx hd hne h1 h2 h3 => ⟨rfl, h _ _ (fun b o e => ?_) ⟨a, some dx, rfl, h1, Or.inr ⟨dx, rfl, h2⟩⟩⟩⟩
  have hb : b ≠ a := ne_of_none e ha
  exact h3 b o (by rw [upd_ne hb]; exact e) hb
/-- X(), no own __init__ -/
def tEr0 (C : Addr) : TE := fun _ H Q => ∀ (v : V) (H2 : Hp), Same H H2 → Er H2 C v [] → Q v H2
theorem pe_er0 (q : PySem.W.excIn X.K C [.type "ValueError", .type "Exception", .type "BaseException", .type "object"] "ValueError.__new__" = true) (T : ExCl X.K X.mg x C) (hg : Gl X x := by rfl)
    (hdb : (x == ("__debug__" : Str)) = false := by decide) : PE X (.Call (.Name x p) [] [] pos) (tEr0 C) := by
  have R := pe_ex0 (p := p) (pos := pos) PySem.F.excBase_ValueError q T hg hdb
  refine ⟨fun pins s σ H Q I h => R.run pins s σ H Q I fun a ha => h _ _ (fun b o e => ?_) ⟨a, none, rfl, upd_same, Or.inl ⟨rfl, rfl⟩⟩⟩
  rw [upd_ne (ne_of_none e ha)]
  exact e
theorem pe_er (T : ExCl X.K X.mg x C) (M : Mk1 X.prog X.w X.K X.mg X.base C names ps ks g) (hr : Room 2 X.A) (ha : PA X (e :: es) ta)
    (hg : Gl X x := by rfl) (hdb : (x == ("__debug__" : Str)) = false := by decide)
    (he : starEach (e :: es) X.env = (false, eval e X.env) :: starEach es X.env := by rfl) (hpl : (backTo pos (starEach es X.env)).any (·.1) = false := by rfl) :
    PE X (.Call (.Name x p) (e :: es) [] pos) (tEr C names id ta) := by
  obtain ⟨f, fd, J, hb, _, F⟩ := M.ex
  refine ⟨fun pins s σ H Q I h => ?_⟩
  refine wpAny_Call_Name_kw (ld_glob I hg T.gC ?_ hdb)
  refine PySem.W.callWith_K (h₀ := X.base) I.ok.mod.kin T.ox.kC (thn (ha.run pos pins s σ H _ I h) fun us s1 hh => ?_) he hpl
  obtain ⟨vs, H1, I1, r1, hl, hz, q1⟩ := hh
  refine ⟨I1.kIn, run_ex T.ox J F hr I1 r1 (fun s a hk hl => ?_) (by show us.length ≤ 1000; rw [← r1.length]; exact hz) (tEr_of (gV := id) T.ox M.no hl q1)⟩
  have z := hb s (Value.ref a :: us) hk (by rw [List.append_nil]; exact hl)
  rw [List.append_nil] at z
  exact z
/-- .. made by the names of the fields -/
theorem pe_erK {kws : List Keyword} {gV : List V → List V} (T : ExCl X.K X.mg x C) (M : Mk1 X.prog X.w X.K X.mg X.base C names ps ks g)
    (hgr : ∀ {vs : List V} {us : List Value}, Vals vs us → Vals (gV vs) (g us))
    (hr : Room 2 X.A) (hkw : PK X kws ta)
    (hg : Gl X x := by rfl) (hall : (backToKw pos (keywordEach kws X.env)).all (·.1.isSome) = true := by rfl) (hks : (backToKw pos (keywordEach kws X.env)).filterMap (·.1) = ks := by rfl)
    (hdb : (x == ("__debug__" : Str)) = false := by decide) (hpl : ((backTo pos (starEach [] X.env)).any (·.1) || (backToKw pos (keywordEach kws X.env)).any (·.1.isNone)) = false := by rfl) :
    PE X (.Call (.Name x p) [] kws pos) (tEr C names gV ta) := by
  obtain ⟨f, fd, J, _, kb, F⟩ := M.ex
  refine ⟨fun pins s σ H Q I h => ?_⟩
  refine wpAny_Call_Name_kw (ld_glob I hg T.gC ?_ hdb)
  refine PySem.W.callWith_KW0 (h₀ := X.base) I.ok.mod.kin T.ox.kC hall ?_ hpl
  refine thn (hkw.run pos pins s σ H _ I h) fun ws s2 hh => ?_
  obtain ⟨zs, H2, I2, rz, hl, hz, q2⟩ := hh
  refine ⟨I2.kIn, ?_⟩
  rw [hks]
  exact run_ex (us := []) T.ox J F hr I2 (hgr rz) (fun s a hk hl => kb s (.ref a) ws hl) (by simp) (tEr_of T.ox M.no hl q2)
end
end Tq

/-! ### what is new in a heap -/
namespace Tq
open PySem L2
/-- the part of H' that H has not -/
def nw (H H' : Hp) : Hp := fun b => if H b = none then H' b else none
theorem nw_of {H H' : Hp} {b : Addr} {o : HO} (h : H b = none) (h' : H' b = some o) : nw H H' b = some o := by
  unfold nw
  rw [if_pos h]
  exact h'
theorem of_nw {H H' : Hp} {b : Addr} {o : HO} (h : nw H H' b = some o) : H b = none ∧ H' b = some o := by
  unfold nw at h
  split at h
  · exact ⟨by assumption, h⟩
  · cases h
theorem nw_sub {H H' : Hp} : Same (nw H H') H' := fun b o e => (of_nw e).2
/-- the new part stands, if H grows to G and H' to G' beside it -/
theorem nw_same {H H' G G' : Hp} (h1 : ∀ b, H b = none → H' b ≠ none → G b = none) (h2 : ∀ b o, H b = none → H' b = some o → G' b = some o) : Same (nw H H') (nw G G') := fun b o e => by
  obtain ⟨e1, e2⟩ := of_nw e
  exact nw_of (h1 b e1 (by rw [e2]; exact nofun)) (h2 b o e1 e2)
/-- pick(stream, some) -/
def spPick (K : PySem.W.Frag) : Sp := fun vs H Q _ => ∃ (a l p : Addr) (xs : List V) (c : Nat), vs = [.ref a, .ref p] ∧ c < 4000000 ∧ Strm H a l c ∧ SqL K (off a l H) p xs ∧ xs ≠ [] ∧ xs.length < 1000000000 ∧
  ∀ (v : V) (H' : Hp), v ∈ xs → Strm H' a l (c + 1) → Nx a l H H' → Q v H'
/-- a statement and what follows it, by a word J between them -/
theorem seq_split {s rest : TS} {D : Ends} {σ : St} {H : Hp} (J : St → Hp → Prop) (hJ : ∀ σ H, J σ H → rest D σ H) (h : (∀ σ H, J σ H → rest D σ H) → s { D with nx := rest D } σ H) : tSeq s rest D σ H := h hJ
theorem seq_if {c : TT} {t u rest : TS} {D : Ends} {σ : St} {H : Hp} (J : St → Hp → Prop) (hJ : ∀ σ H, J σ H → rest D σ H) (h : (∀ σ H, J σ H → rest D σ H) → tIfS c t u { D with nx := rest D } σ H) : tSeq (tIfS c t u) rest D σ H := h hJ
theorem seq_for {wi : TI} {g : TG} {tb rest : TS} {D : Ends} {σ : St} {H : Hp} (J : St → Hp → Prop) (hJ : ∀ σ H, J σ H → rest D σ H) (h : (∀ σ H, J σ H → rest D σ H) → tFor wi g tb { D with nx := rest D } σ H) : tSeq (tFor wi g tb) rest D σ H := h hJ
theorem nm {i : Nat} {v : V} {σ : St} {H : Hp} {Q : St → Hp → Prop} (h : Q (σ.set i (some v)) H) : gName i v σ H Q := h
theorem yes {σ : St} {H : Hp} {A B : Hp → Prop} (h : A H) : tYes σ H (fun b H3 => if b = true then A H3 else B H3) := by
  show if true = true then A H else B H
  rw [if_pos rfl]
  exact h
theorem same_new {H : Hp} {p : Addr} {o : HO} (hp : H p = none) : Same H (upd H p o) := fun b u e => by
  rw [upd_ne (ne_of_none e hp)]
  exact e
/-- a new object: its heap by a letter -/
theorem alloc {Q : VK} {H : Hp} {o : HO} (h : ∀ p H', H p = none → Same H H' → H' p = some o → Q (.ref p) H') : ∀ p, H p = none → Q (.ref p) (upd H p o) := fun p hp => h p _ hp (same_new hp) upd_same
theorem atI_mem {xs : List V} {r : Int} (h0 : 0 ≤ r) (h1 : r < xs.length) : ∃ v, atI xs r = some v ∧ v ∈ xs := by
  have h : r.toNat < xs.length := by omega
  refine ⟨xs[r.toNat], ?_, List.getElem_mem h⟩
  exact at_of (j := r.toNat) (by omega) (List.getElem?_eq_getElem h)
end Tq

/-! ### tables of the top: dicts with text keys whose values are tuples of texts -/
namespace Tq
open PySem L2 PyProof.Rows
/-- a tuple of texts in the written part -/
structure KTx (K : PySem.W.Frag) (a : Addr) (rows : List Str) : Prop where
  ex : ∃ (o : Obj) (its : Array Value) (n : Nat), K.lookup a = some o ∧ o.cls = .type "tuple" ∧ o.data = .seq its n ∧ its.size ≤ sizeLine ∧ Vals (rows.map V.str) its.toList
theorem KTx.sq {K : PySem.W.Frag} {a : Addr} {rows : List Str} (h : KTx K a rows) (H : Hp) : SqT K H a (rows.map V.str) := .inr h.ex
def strsB : List Value → List Str → Bool
  | [], [] => true
  | .str x _ :: r, y :: s => decide (x = y) && strsB r s
  | _, _ => false
theorem strsB_ok : ∀ {us : List Value} {rows : List Str}, strsB us rows = true → Vals (rows.map V.str) us
  | [], [], _ => .nil
  | .str x t :: r, y :: s, h => by
    rw [strsB, Bool.and_eq_true] at h
    exact .cons ⟨t, by rw [of_decide_eq_true h.1]⟩ (strsB_ok h.2)
  | [], _ :: _, h => by simp [strsB] at h
  | .str _ _ :: _, [], h => by simp [strsB] at h
  | .none :: _, _, h => by simp [strsB] at h
  | .bool _ :: _, _, h => by simp [strsB] at h
  | .int _ _ :: _, _, h => by simp [strsB] at h
  | .float _ _ :: _, _, h => by simp [strsB] at h
  | .bytes _ _ :: _, _, h => by simp [strsB] at h
  | .ref _ :: _, _, h => by simp [strsB] at h
  | .type _ :: _, _, h => by simp [strsB] at h
  | .builtin _ :: _, _, h => by simp [strsB] at h
  | .ellipsis :: _, _, h => by simp [strsB] at h
  | .notImplemented :: _, _, h => by simp [strsB] at h
def ktxB (K : PySem.W.Frag) (a : Addr) (rows : List Str) : Bool := match K.lookup a with
  | some ⟨.type c, _, .seq its _, _⟩ => decide (c = "tuple") && (decide (its.size ≤ 1000) && strsB its.toList rows)
  | _ => false
theorem ktxB_ok {K : PySem.W.Frag} {a : Addr} {rows : List Str} (h : ktxB K a rows = true) : KTx K a rows := by
  unfold ktxB at h
  split at h
  · rename_i c od its n sl q
    rw [Bool.and_eq_true, Bool.and_eq_true] at h
    exact ⟨_, its, n, q, by rw [of_decide_eq_true h.1], rfl, Nat.le_trans (of_decide_eq_true h.2.1) (by rw [sizeLine_eq]; decide), strsB_ok h.2.2⟩
  · cases h
def entB (K : PySem.W.Frag) : List DictEntry → List (Str × List Str) → Bool
  | [], [] => true
  | e :: r, p :: s => (match e.key, e.val with | .str x _, .ref a => decide (x = p.1) && ktxB K a p.2 | _, _ => false) && entB K r s
  | _, _ => false
def EntOk (K : PySem.W.Frag) : DictEntry → Str × List Str → Prop := fun e p => (∃ t, e.key = .str p.1 t) ∧ ∃ a, e.val = .ref a ∧ KTx K a p.2
theorem entB_ok {K : PySem.W.Frag} : ∀ {l : List DictEntry} {tb : List (Str × List Str)}, entB K l tb = true → Paired (EntOk K) l tb
  | [], [], _ => .nil
  | e :: r, p :: s, h => by
    rw [entB, Bool.and_eq_true] at h
    refine .cons ?_ (entB_ok h.2)
    have h1 := h.1
    split at h1
    · rename_i x t a q1 q2
      rw [Bool.and_eq_true] at h1
      exact ⟨⟨t, by rw [q1, of_decide_eq_true h1.1]⟩, a, q2, ktxB_ok h1.2⟩
    · cases h1
  | [], _ :: _, h => by simp [entB] at h
  | _ :: _, [], h => by simp [entB] at h
/-- the table stands at d -/
structure STab (K : PySem.W.Frag) (w : World) (d : Addr) (tb : List (Str × List Str)) : Prop where
  ex : ∃ es n, KDict K w d es n ∧ Paired (EntOk K) es.toList tb
def stabB (K : PySem.W.Frag) (d : Addr) (tb : List (Str × List Str)) : Bool := match K.lookup d with
  | some ⟨_, _, .dict es _, _⟩ => entB K es.toList tb
  | _ => false
theorem stab_of {K : PySem.W.Frag} {w : World} {d : Addr} {tb : List (Str × List Str)} {ks : List Str} (h1 : He.dicW K d = some (He.keysIn w.params ks)) (h2 : stabB K d tb = true) : STab K w d tb := by
  obtain ⟨es, n, D⟩ := He.dicW_ok h1
  refine ⟨es, n, D, ?_⟩
  unfold stabB at h2
  rw [D.at_] at h2
  exact entB_ok h2
theorem find_ent {K : PySem.W.Frag} {z : Str} : ∀ {l : List DictEntry} {tb : List (Str × List Str)}, Paired (EntOk K) l tb →
    (∀ rows, tb.lookup z = some rows → ∃ e a, l.find? (·.key.isStr z) = some e ∧ e.val = .ref a ∧ KTx K a rows) ∧ (tb.lookup z = none → l.find? (·.key.isStr z) = none) ∧ l.any (·.refKey) = false
  | _, _, .nil => ⟨fun rows h => by simp at h, fun _ => rfl, rfl⟩
  | e :: l, (x, rs) :: tb, .cons h t => by
    obtain ⟨⟨tk, hk⟩, a, hv, hx⟩ := h
    obtain ⟨i1, i2, i3⟩ := find_ent (z := z) t
    have hs : e.key.isStr z = decide (x = z) := by
      rw [hk, PySem.W.isStr_of]
      simp only [Value.isStrOf]
      exact Bool.beq_eq_decide_eq _ _
    have hr : e.refKey = false := by
      unfold DictEntry.refKey
      rw [hk]
    by_cases c : x = z
    · subst c
      have hl : ((x, rs) :: tb).lookup x = some rs := by simp [List.lookup]
      refine ⟨fun rows h => ?_, fun h => ?_, by simp [hr]; simpa using i3⟩
      · rw [hl] at h
        cases h
        exact ⟨e, a, by rw [List.find?_cons_of_pos (by rw [hs]; simp)], hv, hx⟩
      · rw [hl] at h
        cases h
    · have hl : ((x, rs) :: tb).lookup z = tb.lookup z := by
        have : (z == x) = false := by simpa using Ne.symm c
        simp [List.lookup, this]
      have hf : (e :: l).find? (·.key.isStr z) = l.find? (·.key.isStr z) := List.find?_cons_of_neg (by rw [hs]; simpa using c)
      rw [hl, hf]
      exact ⟨i1, i2, by simp [hr]; simpa using i3⟩
theorem STab.got {K : PySem.W.Frag} {w : World} {d : Addr} {tb : List (Str × List Str)} (T : STab K w d tb) {z : Str} {rows : List Str} (h : tb.lookup z = some rows) : ∃ a, PySem.W.nsIn K d z = some (some (.ref a)) ∧ KTx K a rows := by
  obtain ⟨es, n, D, P⟩ := T.ex
  obtain ⟨e, a, h1, h2, h3⟩ := (find_ent (z := z) P).1 rows h
  refine ⟨a, ?_, h3⟩
  unfold PySem.W.nsIn
  rw [D.at_]
  simp only [h1, h2]
theorem STab.miss {K : PySem.W.Frag} {w : World} {d : Addr} {tb : List (Str × List Str)} (T : STab K w d tb) {z : Str} (h : tb.lookup z = none) : PySem.W.nsIn K d z = some none := by
  obtain ⟨es, n, D, P⟩ := T.ex
  obtain ⟨_, h1, h2⟩ := find_ent (z := z) P
  unfold PySem.W.nsIn
  rw [D.at_]
  simp only [h1 h, h2]
  rfl
/-- z in D, D a table -/
theorem op_in_tab {X : Cx} {d : Addr} {tb : List (Str × List Str)} (T : STab X.K X.w d tb) : OpR X (compareOp .In) (fun x y H Q => ∃ z, x = .str z ∧ y = .ref d ∧ Q (.bl (tb.lookup z).isSome) H) := by
  intro pins s σ H x y v u Q I rx ry h
  obtain ⟨z, rfl, rfl, q⟩ := h
  obtain ⟨es, n, D, _⟩ := T.ex
  cases e : tb.lookup z with
  | none =>
    rw [e] at q
    exact op_in_kd D pins s σ H _ _ v u Q I rx ry ⟨z, _, rfl, rfl, T.miss e, q⟩
  | some rows =>
    rw [e] at q
    obtain ⟨a, h1, _⟩ := T.got e
    exact op_in_kd D pins s σ H _ _ v u Q I rx ry ⟨z, _, rfl, rfl, h1, q⟩
/-- D[z] -/
theorem ix_tab {X : Cx} {d : Addr} {tb : List (Str × List Str)} (T : STab X.K X.w d tb) : IxR X (fun x y H Q => ∃ z rows, x = .ref d ∧ y = .str z ∧ tb.lookup z = some rows ∧ ∀ a, KTx X.K a rows → Q (.ref a) H) := by
  intro value slice pins s σ H x y v u Q I rx ry h hs
  obtain ⟨z, rows, rfl, rfl, e, q⟩ := h
  obtain ⟨es, n, D, _⟩ := T.ex
  obtain ⟨a, h1, h2⟩ := T.got e
  exact ix_kdict value slice pins s σ H _ _ v u Q I rx ry ⟨d, z, .ref a, rfl, rfl, ⟨es, n, _, D.at_, D.lit, h1, rfl⟩, q a h2⟩ hs
/-- for k in D: its keys -/
def Itkd (ks : List Str) : It := ⟨fun i _ => i < ks.length, fun i H x H' => H' = H ∧ ∃ k, ks[i]? = some k ∧ x = .str k, fun i _ => ks.length ≤ i⟩
theorem ent_key {K : PySem.W.Frag} : ∀ {l : List DictEntry} {tb : List (Str × List Str)}, Paired (EntOk K) l tb → ∀ {i : Nat} {k : Str}, (tb.map (·.1))[i]? = some k → ∃ e t, l[i]? = some e ∧ e.key = .str k t
  | _, _, .nil, i, k, h => by simp at h
  | e :: l, p :: tb, .cons h t, 0, k, hk => by
    obtain ⟨⟨tk, q⟩, _⟩ := h
    have : p.1 = k := by simpa using hk
    exact ⟨e, tk, rfl, by rw [q, this]⟩
  | e :: l, p :: tb, .cons h t, i + 1, k, hk => by
    obtain ⟨e', t', h1, h2⟩ := ent_key t (i := i) (k := k) (by simpa using hk)
    exact ⟨e', t', by simpa using h1, h2⟩
theorem turn_kd {P : Program} {w : World} {K : PySem.W.Frag} {tg : Expr} {d : Addr} {es : Array DictEntry} {n : Nat} {tb : List (Str × List Str)} (it : Addr) (D : KDict K w d es n) (hp : Paired (EntOk K) es.toList tb) :
    Turn P w K tg (Itkd (tb.map (·.1))) [it] it (fun i h => h.IsKeyIter it d i es.size n) where
  mem := by simp
  obj := fun i h st b hb => by
    obtain rfl : b = it := by simpa using hb
    obtain ⟨oi, e, c, dd⟩ := st
    exact ⟨oi, e, fun v z => by rw [dd] at z; cases z⟩
  keep := fun i h h' st k => st.at fun oi e => k it (by simp) oi e
  item := by
    intro X hP hw hK hc i pins s σ H E I hf st hg
    subst hP hw hK
    obtain ⟨f0, f1, f2, f3, f4, f5⟩ := hf it (by simp)
    obtain ⟨k, hk⟩ : ∃ k, (tb.map (·.1))[i]? = some k := ⟨(tb.map (·.1))[i]'hg, List.getElem?_eq_getElem hg⟩
    obtain ⟨en, t, h1, h2⟩ := ent_key hp hk
    refine next_key_item (en := en) st (I.kIn _ _ D.at_) rfl rfl (by simpa using h1) fun h' st' sb => ?_
    have I1 : Inv X pins σ H { s with heap := h' } := I.turned (t' := s.toks) (fun b ob hb e => (sb.2 b hb).trans e) f0 f1 f3 f4 f5
    obtain ⟨oi, e, c, dd⟩ := id st'
    exact ⟨en.key, rfl, go_of (s := { s with heap := h' }) e c dd (by decide) ⟨.str k, H, I1, ⟨t, h2⟩, ⟨rfl, k, hk, rfl⟩, st', fun b hb => (hf b hb).1⟩⟩
  done := by
    intro X hP hw hK hc i pins s σ H E I hf st hg
    subst hP hw hK
    obtain ⟨f0, f1, f2, f3, f4, f5⟩ := hf it (by simp)
    have hl : es.size = tb.length := by
      have := Paired.length hp
      simpa using this
    refine next_key_end (I.ok.hd hc) st (I.kIn _ _ D.at_) rfl rfl ?_ fun h' eb => ⟨rfl, I.turned (t' := s.toks) (fun b ob hb e => eb b ob hb e) f0 f1 f3 f4 f5⟩
    have : (tb.map (·.1)).length ≤ i := hg
    rw [List.length_map] at this
    omega
  self := fun A i s Q E st h => wpAny_pyIter_keyiter st h
theorem pi_kd {X : Cx} {tg e : Expr} {td : TE} {d : Addr} {tb : List (Str × List Str)} (T : STab X.K X.w d tb) (he : PE X e td) : PI X tg e (fun σ H R => td σ H fun x H1 => x = .ref d ∧ R (Itkd (tb.map (·.1))) H1) := by
  obtain ⟨es, n, D, P⟩ := T.ex
  refine ⟨fun pins s σ H R I h => ?_⟩
  refine thn (he.run pins s σ H _ I h) fun u s1 hh => ?_
  obtain ⟨x, H1, I1, rx, ex, q⟩ := hh
  subst ex
  obtain rfl : u = Value.ref d := rx
  exact iter_keys D.low (I1.kIn _ _ D.at_) ⟨rfl, rfl, rfl⟩ rfl (pi_one (tk := s1.toks) I1 _ (turn_kd _ D P) ⟨_, Heap.get?_push_size _ rfl, rfl, rfl⟩ q)
/-- a comprehension over such keys -/
theorem lc_kd {ks : List Str} {g : TG} {tt : TT} {te : TE} {vs : List Nat} {σ : L2.St} {H1 : Hp} {D : Addr} {Qd : Hp → Prop} (Pv : Nat → Hp → Prop) (h0 : Pv 0 (upd H1 D (.lst [])))
    (hs : ∀ i k H, ks[i]? = some k → Pv i H → g (.str k) (wipe σ vs) H fun σ2 H2 => wipe σ2 vs = wipe σ vs ∧ tt σ2 H2 fun b H3 =>
      if b = true then te σ2 H3 fun y H4 => ∃ acc, H4 D = some (.lst acc) ∧ acc.length < sizeLine ∧ Pv (i + 1) (upd H4 D (.lst (acc ++ [y]))) else Pv (i + 1) H3) (hd : ∀ H, Pv ks.length H → Qd H) :
    ∃ W : Nat → Nat → Hp → Prop, (∃ m, W 0 m (upd H1 D (.lst []))) ∧ ∀ i m H, W i m H →
      ((Itkd ks).stop i H ∧ Qd H) ∨ ((Itkd ks).go i H ∧ ∃ Nx : Hp → Prop, (∀ H', Nx H' → ∃ m', m' < m ∧ W (i + 1) m' H') ∧ ∀ x H', (Itkd ks).yld i H x H' → g x (wipe σ vs) H' fun σ2 H2 => wipe σ2 vs = wipe σ vs ∧ tt σ2 H2 fun b H3 =>
        if b = true then te σ2 H3 fun y H4 => ∃ acc, H4 D = some (.lst acc) ∧ acc.length < sizeLine ∧ Nx (upd H4 D (.lst (acc ++ [y]))) else Nx H3) := by
  refine ⟨fun i m H => m = ks.length - i ∧ i ≤ ks.length ∧ Pv i H, ⟨ks.length, by simp, Nat.zero_le _, h0⟩, ?_⟩
  rintro i m H ⟨rfl, hi, p⟩
  by_cases hlt : i < ks.length
  · refine .inr ⟨hlt, Pv (i + 1), fun H' p' => ⟨ks.length - (i + 1), by omega, rfl, hlt, p'⟩, fun x H' y => ?_⟩
    obtain ⟨rfl, k, hk, rfl⟩ := y
    exact hs i k _ hk p
  · obtain rfl : i = ks.length := by omega
    exact .inl ⟨Nat.le_refl _, hd H p⟩
end Tq

/-! ### Tq: a method with *parts and **more: what a call with keywords binds -/
namespace Tq
open PySem L2 PySem.Spec PyProof.Rows
/-- a name written into a dict that does not hold it -/
theorem ns_dk {P : Program} {w : World} {A : Around} {E : Value → Shared → Prop} {s : Shared} {d : Addr} {vs : List (Key × Value)} {k : Str} {v : Value} {Q : Unit → Shared → Prop}
    (hm : s.heap.DictOf (mixKind P w) d vs) (hn : (Sum.inr k : Key) ∉ vs.map (·.1))
    (h : ∀ h', h'.DictOf (mixKind P w) d (vs ++ [(Sum.inr k, v)]) → Heap.SameBut d s.heap h' → Q () { s with heap := h', toks := s.toks + 1 }) :
    wpAny (model P w) A (nsSet d k v) Q E s := by
  obtain ⟨o, es, ep, ho, hc, hd, hk, hp, nd⟩ := hm
  obtain ⟨oc, od, dt, sl⟩ := o
  obtain rfl : dt = .dict es ep := hd
  have his : ∀ e ∈ es, e.key.isStr k = false := fun e he => by
    obtain ⟨k', hk', _⟩ := hk e he
    cases hz : e.key.isStr k with
    | false => rfl
    | true =>
      exfalso
      obtain ⟨i, hi⟩ := List.getElem?_of_mem (Array.mem_toList_iff.mpr he)
      have mem : ∀ {l : List DictEntry} {ks : List (Key × Value)}, Pairs (mixKind P w) l ks → ∀ x ∈ l, ∃ y ∈ ks, keyIs y.1 x.key = true := by
        intro l ks hpp
        induction hpp with
        | nil => exact fun x hx => nomatch hx
        | cons h1 _ _ ih =>
          intro x hx
          rcases List.mem_cons.mp hx with q | q
          · subst q; exact ⟨_, .head _, h1⟩
          · obtain ⟨y, hy, z⟩ := ih x q; exact ⟨y, .tail _ hy, z⟩
      obtain ⟨y, hy, z⟩ := mem hp e (Array.mem_toList_iff.mpr he)
      rcases keyIs_shape z with ⟨i, t, e1, e2⟩ | ⟨x, t, e1, e2⟩
      · rw [e2] at hz; exact nomatch hz
      · rw [e2] at hz
        have hx : x = k := by simpa [Value.isStr] using hz
        subst hx
        exact hn (List.mem_map.mpr ⟨y, hy, e1⟩)
  have hr : ∀ e ∈ es, e.refKey = false := fun e he => by
    obtain ⟨k', hk', _⟩ := hk e he
    rcases keyIs_shape hk' with ⟨i, t, e1, e2⟩ | ⟨x, t, e1, e2⟩ <;> (unfold DictEntry.refKey; rw [e2])
  have c : aRefKeyMayBeTheName k es = false := by
    rw [aRefKeyMayBeTheName_at]
    have : es.any (·.refKey) = false := by
      rw [Array.any_eq_false']
      intro e he
      rw [hr e he]
      exact Bool.false_ne_true
    rw [this, Bool.and_false]
  have put : ∀ (t : Tok), Obj.putName k (PyData.keyHash w.params k) (.str k t) v ⟨oc, od, .dict es ep, sl⟩ = ⟨oc, od, .dict (es.push ⟨PyData.keyHash w.params k, .str k t, v⟩) (ep + 1), sl⟩ := fun t => by
    rw [Obj.putName_eq]
    have : es.findIdx? (·.key.isStr k) = none := by
      rw [Array.findIdx?_eq_none_iff]
      exact his
    simp only [Obj.putNameByArray, this]
  unfold nsSet
  refine wpAny_bind (wpAny_bind (wpAny_askSetting (wpAny_pure (wpAny_bind (wpAny_mkText (wpAny_bind (wpAny_loadPart ho ?_)))))))
  dsimp only
  rw [c]
  refine wpAny_updatePart ho (h _ ⟨⟨oc, od, .dict (es.push ⟨PyData.keyHash w.params k, .str k s.toks, v⟩) (ep + 1), sl⟩, _, _, ?_, hc, rfl, hk.push (mixKind_str P w k s.toks) v, ?_, ?_⟩ (Heap.SameBut.update ..))
  · rw [← put]
    exact Heap.get?_update_self _ ho (congrArg Obj.isFreed (put s.toks))
  · have := hp.append (mixKind_str P w k s.toks) (PyData.keyHash w.params k) v
    obtain ⟨l⟩ := es
    simpa using this
  · rw [List.map_append, List.nodup_append]
    refine ⟨nd, by simp, ?_⟩
    intro a ha b hb
    simp only [List.map_cons, List.map_nil, List.mem_singleton] at hb
    subst hb
    exact fun e => hn (e ▸ ha)
theorem ns_fill {P : Program} {w : World} {A : Around} {E : Value → Shared → Prop} {d : Addr} : ∀ (kw : List (Str × Value)) (s : Shared) (vs : List (Key × Value)) (Q : PUnit → Shared → Prop),
    s.heap.DictOf (mixKind P w) d vs → (∀ x ∈ kw, (Sum.inr x.1 : Key) ∉ vs.map (·.1)) → (kw.map (·.1)).Nodup →
    (∀ h' t, h'.DictOf (mixKind P w) d (vs ++ kw.map fun x => (Sum.inr x.1, x.2)) → Heap.SameBut d s.heap h' → Q ⟨⟩ { s with heap := h', toks := t }) →
    wpAny (model P w) A (forIn kw PUnit.unit fun x _ => (nsSet d x.1 x.2 >>= fun _ => pure (ForInStep.yield PUnit.unit))) Q E s
  | [], s, vs, Q, hm, _, _, h => by
    rw [List.forIn_nil]
    refine wpAny_pure (h s.heap s.toks ?_ (.refl ..))
    simpa using hm
  | x :: r, s, vs, Q, hm, hf, hn, h => by
    obtain ⟨hn1, hn2⟩ := List.nodup_cons.mp (show (x.1 :: r.map (·.1)).Nodup from hn)
    rw [List.forIn_cons]
    refine wpAny_bind (wpAny_bind (ns_dk hm (hf x (.head _)) fun h' hm' hs => wpAny_pure ?_))
    refine ns_fill r { s with heap := h', toks := s.toks + 1 } _ Q hm' (fun y hy hz => ?_) hn2 fun h2 t hm2 hs2 => ?_
    · rw [List.map_append] at hz
      rcases List.mem_append.mp hz with q | q
      · exact hf y (.tail _ hy) q
      · have : y.1 = x.1 := by simpa using q
        exact hn1 (by rw [← this]; exact List.mem_map_of_mem hy)
    · refine h h2 t ?_ (hs.trans hs2)
      simpa using hm2
/-- the objects that a call's binding makes: a tuple of what is left over, a dict of the keywords -/
abbrev kdOf (ks : List Str) (zs : List V) : List (Key × V) := (ks.map Sum.inr).zip zs
structure FnKw (P : Program) (w : World) (K : PySem.W.Frag) (mg : Str → Option Value) (base : Heap) (CX : CXT) (k : Nat) (f : Addr) (ps : List Str) (sp : Sp) : Prop where
  run : ∀ (A : Around) (outer : List Env) (s : Shared) (H : Hp) (us rus ws : List Value) (vs rest zs : List V) (ks : List Str) (Q : VK) (E : XK),
    Quiet A → Room k A → Env0 P w K mg base A outer s H → Vals vs us → Vals rest rus → Vals zs ws → vs.length = ps.length → rest.length ≤ sizeLine → ks.length = zs.length → zs.length ≤ sizeLine → ks.Nodup → (∀ x ∈ ks, x ∉ ps) →
    (∀ p d, H p = none → H d = none → d ≠ p → sp (vs ++ [V.ref p, V.ref d]) (upd (upd H p (.tup rest)) d (.dK (kdOf ks zs))) Q E) →
    codeAny (model P w) A (.call (.ref f) ⟨us ++ rus, ks.zip ws⟩) (CR CX outer P w H s Q E) s
theorem kv_of : ∀ {ks : List Str} {zs : List V} {ws : List Value}, Vals zs ws → ks.length = zs.length → KV (kdOf ks zs) ((ks.zip ws).map fun x => (Sum.inr x.1, x.2))
  | [], [], _, .nil, _ => .nil
  | k :: ks, _, _, .cons a r, h => .cons ⟨rfl, a⟩ (kv_of r (by simpa using h))
/-- the loop of a call's binding over keywords that are no parameters -/
theorem bind_loop {β : Type} {f : (Str × Value) → β × List (Str × Value) → Sem (ForInStep (β × List (Str × Value)))} : ∀ (kw : List (Str × Value)) (sl : β) (ex : List (Str × Value)),
    (∀ x ∈ kw, ∀ sl ex, f x (sl, ex) = pure (.yield (sl, ex ++ [x]))) → forIn kw (sl, ex) f = pure (sl, ex ++ kw)
  | [], sl, ex, _ => by rw [List.forIn_nil, List.append_nil]
  | x :: r, sl, ex, h => by
    rw [List.forIn_cons, h x (.head _)]
    show (pure _ >>= _ : Sem _) = _
    rw [pure_bind]
    show forIn r (sl, ex ++ [x]) f = _
    rw [bind_loop r sl (ex ++ [x]) fun y hy => h y (.tail _ hy), List.append_assoc]
    rfl
theorem bind_kw {name qual : Str} {a1 a2 va ka : Arg} {body : List Stmt} {scope : Scope} {kV doc pm : Value} {an : Option Addr} {cdv ct : Value} (a b : Value) (rest : List Value) (kw : List (Str × Value))
    (h : ∀ x ∈ kw, x.1 ≠ a1.arg ∧ x.1 ≠ a2.arg) (hz : kw.length ≤ sizeLine) (hne : (a2.arg == a1.arg) = false) :
    bindArgs (PySem.W.fnOf name qual ⟨[], [a1, a2], some va, [], [], some ka, []⟩ body scope .none kV doc pm an cdv ct) ⟨a :: b :: rest, kw⟩ =
      (newTuple rest >>= fun t => (PySem.alloc ({ cls := .type "dict", data := .dict #[] } : Obj) : Sem Addr) >>= fun d => (forIn kw PUnit.unit fun x _ => (nsSet d x.1 x.2 >>= fun _ => pure (ForInStep.yield PUnit.unit))) >>= fun _ => pure [(a1.arg, a), (a2.arg, b), (va.arg, t), (ka.arg, Value.ref d)]) := by
  unfold bindArgs
  dsimp only [PySem.W.fnOf]
  rw [bind_loop]
  · have e0 : seqItems? Value.none = (pure none : Sem (Option (Array Value))) := rfl
    have hz2 : ¬ (sizeLine + 1 < kw.length) := by omega
    simp [e0, List.lookup, hne, hz2]
  · intro x hx sl ex
    obtain ⟨h1, h2⟩ := h x hx
    simp [h1, h2]
section
variable {P : Program} {w : World} {K : PySem.W.Frag} {mg : Str → Option Value} {base : Heap} {A : Around} {outer : List Env} {s : Shared} {H : Hp}
theorem env0_kept {h' : Heap} {t : Nat} {u : HO} (e0 : Env0 P w K mg base A outer s H) (kp : ∀ b x, s.heap.get? b = some x → h'.get? b = some x) (le : s.heap.objs.size ≤ h'.objs.size)
    (new : ObjOk P w (upd H s.heap.objs.size u) h' s.heap.objs.size u) :
    Env0 P w K mg base A outer { s with heap := h', toks := t } (upd H s.heap.objs.size u) := by
  refine ⟨e0.frames, e0.mod, fun b x e => ⟨kp b x (e0.bs b x e).1, ?_⟩, ?_, Heap.FunFrames.of_keeps (fun b x e _ => ⟨x, kp b x e, rfl⟩) e0.funs, fun b hb => ?_, e0.hok.laid kp (Nat.le_refl _) new, e0.bare⟩
  · rw [upd_ne (Nat.ne_of_lt (Heap.lt_size (e0.bs b x e).1))]
    exact (e0.bs b x e).2
  · exact Nat.le_trans e0.bsz le
  · obtain ⟨_, x, hx, _⟩ := e0.funs.mem hb
    rw [upd_ne (Nat.ne_of_lt (Heap.lt_size hx))]
    exact e0.frf b hb
end
/-- def f(self, kind, *parts, **more), by its body -/
theorem okKw {P : Program} {w : World} {K : PySem.W.Frag} {mg : Str → Option Value} {base : Heap} {CX : CXT} {k : Nat} {f : Addr} {x qual : Str} {st : Stmt} {fd : FuncData} {N : List Str} {sp : Sp} {a1 a2 va ka : Arg}
    (F : Fun K x qual st f fd) (hp : defArgs st = ⟨[], [a1, a2], some va, [], [], some ka, []⟩) (S : FnScope N [a1.arg, a2.arg, va.arg, ka.arg] (defScope st)) (hCX : StX.CXUp CX) (hne : (a2.arg == a1.arg) = false)
    (body : ∀ (cdv : Value) (A : Around) (outer : List Env) (s : Shared) (H : Hp) (vs : List V) (Q : VK) (E : XK),
      Quiet (A.deeper (envOfC qual (defScope st) s.heap.objs.size f cdv)) → Room k (A.deeper (envOfC qual (defScope st) s.heap.objs.size f cdv)) → sp vs H Q E →
      ∃ t, PSs (cxOf CX P w K mg base N qual (defScope st) f cdv A outer s H E) (defBody st) t ∧
        t { nx := fun _ H' => Q .non H', rt := Q } (start N vs) H) : FnKw P w K mg base CX (k + 1) f [a1.arg, a2.arg] sp := by
  obtain ⟨oc, od, kV, doc, pm, an, cdv, ct, osl, rfl, lk, hcd⟩ := F.ex
  refine ⟨fun A outer s H us rus ws vs rest zs ks Q E hq hr e0 r rr rz hl hz hk hkz hnd hno h => ?_⟩
  have hn : H s.heap.objs.size = Option.none := e0.hok.fresh (Nat.le_refl _)
  have hl1 : us.length = 2 := by rw [← r.length]; exact hl
  obtain ⟨a, b, rfl⟩ : ∃ a b, us = [a, b] := by
    match us, hl1 with
    | [a, b], _ => exact ⟨a, b, rfl⟩
  have hl2 : rus.length ≤ sizeLine := by rw [← rr.length]; exact hz
  have hw : ks.length = ws.length := by rw [hk, rz.length]
  refine StX.run_bnd lk hcd S hr e0 (G := fun xs H2 => ∃ p d, H p = Option.none ∧ H d = Option.none ∧ d ≠ p ∧ xs = vs ++ [V.ref p, V.ref d] ∧ H2 = upd (upd H p (.tup rest)) d (.dK (kdOf ks zs))) (fun A' Ex Q' hh => ?_) fun s2 H2 xs ⟨p, d, hp, hd, hne, ex, eH⟩ hr' => ?_
  · rw [hp]
    show wpAny (model P w) A' (bindArgs _ ⟨a :: b :: rus, ks.zip ws⟩) Q' Ex s
    rw [bind_kw a b rus (ks.zip ws) (fun y hy => by
      have := hno y.1 (List.of_mem_zip hy).1
      exact ⟨fun e => this (by rw [e]; exact .head _), fun e => this (by rw [e]; exact .tail _ (.head _))⟩) (by rw [List.length_zip, ← hw, Nat.min_self, hk]; exact hkz) hne]
    refine wpAny_bind (wpAny_newTuple (wpAny_bind (wpAny_alloc (wpAny_bind ?_))) hl2)
    have new : ObjOk P w (upd H s.heap.objs.size (.tup rest)) (s.heap.push ({ cls := .type "tuple", data := .seq rus.toArray } : Obj)) s.heap.objs.size (.tup rest) := ⟨hz, rus, rr, ⟨_, Heap.get?_push_size _ rfl, rfl, _, rfl⟩⟩
    have e1 := StX.env0_laid e0 new
    have un1 := StX.un_laid (fs := frs outer) (s := s) (o := ({ cls := .type "tuple", data := .seq rus.toArray } : Obj)) (u := .tup rest) hn
    generalize e0h : s.heap.push ({ cls := .type "tuple", data := .seq rus.toArray } : Obj) = h1 at e1 un1 ⊢
    have sz : h1.objs.size = s.heap.objs.size + 1 := by rw [← e0h]; exact Heap.size_push _ _
    have kp1 : ∀ b o, s.heap.get? b = some o → h1.get? b = some o := fun b o q => by rw [← e0h]; exact Heap.get?_push_of_some _ q
    have hn2 := e1.hok.fresh (Nat.le_refl _)
    have big := StX.env0_big e1
    refine ns_fill (ks.zip ws) _ [] _ (Heap.DictOf.new h1) (fun _ _ q => nomatch q) ?_ fun h' t dd hs => ?_
    · have : (ks.zip ws).map (·.1) = ks := by rw [← List.unzip_fst, List.unzip_zip hw]
      rw [this]
      exact hnd
    have kp2 : ∀ b o, h1.get? b = some o → h'.get? b = some o := fun b o q => by
      rw [hs.2 b (Nat.ne_of_lt (Heap.lt_size q))]
      exact Heap.get?_push_of_some _ q
    have le2 : h1.objs.size ≤ h'.objs.size := by
      have := hs.1
      have e := Heap.size_push h1 ({ cls := .type "dict", data := .dict #[] } : Obj)
      dsimp only at this
      omega
    have new2 : ObjOk P w (upd (upd H s.heap.objs.size (.tup rest)) h1.objs.size (.dK (kdOf ks zs))) h' h1.objs.size (.dK (kdOf ks zs)) :=
      dk_new (by rw [List.length_zip, List.length_map, hk, Nat.min_self]; exact hkz) (beq_eq_false_iff_ne.mpr (Nat.ne_of_gt big)) (kv_of rz hk) dd
    have e2 := env0_kept (t := t) e1 kp2 le2 new2
    have un2 := un1.trans (Un.laid (fs := frs outer) (ex := []) (o := .dK (kdOf ks zs)) kp2 (Nat.le_refl _) hn2)
    have ne : h1.objs.size ≠ s.heap.objs.size := by
      rw [sz]
      exact Nat.succ_ne_self _
    have hd : H h1.objs.size = Option.none := e0.hok.fresh (by rw [sz]; exact Nat.le_succ _)
    have z := hh _ _ (vs ++ [V.ref s.heap.objs.size, V.ref h1.objs.size]) ([a, b] ++ [Value.ref s.heap.objs.size, Value.ref h1.objs.size]) e2 un2 rfl
      (fun e s' => hCX outer s H _ _ E e s' un2 (fun b o q => kp2 b o (kp1 b o q)) rfl) (r.append (.cons rfl (.cons rfl .nil))) (by rw [List.length_append, hl] <;> rfl) ⟨_, _, hn, hd, ne, rfl, rfl⟩
    exact wpAny_pure z
  · subst ex eH
    exact body cdv A outer s2 _ _ Q E hq hr' (h p d hp hd hne)
/-- a class that is made by such an __init__ -/
structure Nd (P : Program) (w : World) (K : PySem.W.Frag) (mg : Str → Option Value) (base : Heap) (CX : CXT) (k : Nat) (x : Str) (C : Addr) (p1 p2 : Str) (sp : Sp) : Prop where
  ex : ∃ f, Mk K C f ∧ FnKw P w K mg base CX k f [p1, p2] sp
  mg : mg x = some (.ref C)
/-- C(e, rest.., k = v, ..) : the values vs are those of the positional arguments, zs those of the keywords ks -/
def tMakeW (C : Addr) (ks : List Str) (sp : Sp) (E : XK) (t tk : TA) : TE := fun σ H Q => t σ H fun vs H1 => tk σ H1 fun zs H2 => ∃ v rest, vs = v :: rest ∧ rest.length ≤ sizeLine ∧ zs.length = ks.length ∧
  ∀ x dx p d, H2 x = none → H2 dx = none → dx ≠ x → H2 p = none → H2 d = none → p ≠ x → p ≠ dx → d ≠ x → d ≠ dx → d ≠ p →
    sp [V.ref x, v, V.ref p, V.ref d] (upd (upd (upd (upd H2 dx (.own x)) x (.ins C dx [])) p (.tup rest)) d (.dK (kdOf ks zs))) (fun v H3 => v = .non ∧ Q (.ref x) H3) E
section
variable {X : Cx} {CX : CXT} {j k : Nat} {f C : Addr} {ks : List Str} {sp : Sp} {E : XK} {x p1 p2 : Str} {p pos : Pos} {e : Expr} {es : List Expr} {kws : List Keyword} {t tk : TA}
theorem run_makeW {pins : List (Addr × Obj)} {σ : L2.St} {H : Hp} {s : Shared} {Q : VK} {rus ws : List Value} {v : V} {u : Value} {rest zs : List V} (M : Mk X.K C f) (F : FnKw X.prog X.w X.K X.mg X.base CX k f [p1, p2] sp) (hq : Quiet X.A) (hr : Room (k + 1) X.A)
    (hx : Passes CX X E) (I : Inv X pins σ H s) (ru : RelV v u) (rr : Vals rest rus) (rz : Vals zs ws) (l1 : rest.length ≤ sizeLine) (l2 : ks.length = zs.length) (hnd : ks.Nodup) (hno : ∀ y ∈ ks, y ∉ [p1, p2]) (l3 : ks.length ≤ sizeLine)
    (h : ∀ x dx p d, H x = none → H dx = none → dx ≠ x → H p = none → H d = none → p ≠ x → p ≠ dx → d ≠ x → d ≠ dx → d ≠ p →
      sp [V.ref x, v, V.ref p, V.ref d] (upd (upd (upd (upd H dx (.own x)) x (.ins C dx [])) p (.tup rest)) d (.dK (kdOf ks zs))) (fun v H3 => v = .non ∧ Q (.ref x) H3) E) :
    wpAny (model X.prog X.w) X.A (call (.ref C) (u :: rus) (ks.zip ws)) (EP X pins σ Q) X.xe s := by
  have hq0 := h (s.heap.objs.size + 1) s.heap.objs.size
  have I2 := Inv.made (C := C) I
  refine wpAny_call (make_map (f := f) I.kIn M.makes M.init (beq_iff_eq.mp M.fn) (codeAny_mono (F.run _ X.stack _ _ [Value.ref (s.heap.objs.size + 1), u] rus ws [V.ref (s.heap.objs.size + 1), v] rest zs ks (fun v H3 => v = .non ∧ Q (.ref (s.heap.objs.size + 1)) H3) E ?_ (hr.make C (u :: rus) (ks.zip ws))
    (I2.env0.make C (u :: rus) (ks.zip ws)) (.cons rfl (.cons ru .nil)) rr rz rfl l1 l2 (l2 ▸ l3) hnd hno fun p d hp hd hne => ?_) fun r s' hq' => ?_))
  · have hg : (Code.builtin "type.__call__" ⟨Value.ref C :: u :: rus, ks.zip ws⟩).guards = [] := by simp [Code.guards, Code.isGuard, guardIds]
    show (X.A.under _).guards = some []
    unfold Around.under
    dsimp only
    rw [hg]
    exact hq
  · have nx : p ≠ s.heap.objs.size + 1 := fun e => by subst e; rw [upd_same] at hp; cases hp
    have ndx : p ≠ s.heap.objs.size := fun e => by subst e; rw [upd_ne nx, upd_same] at hp; cases hp
    have dx : d ≠ s.heap.objs.size + 1 := fun e => by subst e; rw [upd_same] at hd; cases hd
    have ddx : d ≠ s.heap.objs.size := fun e => by subst e; rw [upd_ne dx, upd_same] at hd; cases hd
    rw [upd_ne nx, upd_ne ndx] at hp
    rw [upd_ne dx, upd_ne ddx] at hd
    exact hq0 p d (I.hok.fresh (Nat.le_succ _)) (I.hok.fresh (Nat.le_refl _)) (Nat.ne_of_lt (Nat.lt_succ_self _)) hp hd nx ndx dx ddx hne
  · cases r with
    | error e => exact hx pins σ _ _ e s' I2 hq'
    | ok fl =>
      cases fl with
      | ret u =>
        obtain ⟨v, H', I3, rv, ev, q3⟩ := I2.after hq'
        subst ev
        exact ⟨rv, ⟨V.ref (s.heap.objs.size + 1), H', I3, rfl, q3⟩⟩
      | next => exact False.elim hq'
      | brk => exact False.elim hq'
      | cont => exact False.elim hq'
theorem pe_makeW (M : Nd X.prog X.w X.K X.mg X.base CX k x C p1 p2 sp) (hq : Quiet X.A) (hr : Room j X.A) (hx : Passes CX X E) (ha : PA X (e :: es) t) (hkw : PK X kws tk)
    (hnd : ks.Nodup := by decide) (hno : ∀ y ∈ ks, y ∉ [p1, p2] := by decide) (hkj : k + 1 ≤ j := by omega) (hg : Gl X x := by rfl)
    (hall : (backToKw pos (keywordEach kws X.env)).all (·.1.isSome) = true := by rfl) (hks : (backToKw pos (keywordEach kws X.env)).filterMap (·.1) = ks := by rfl)
    (hdb : (x == ("__debug__" : Str)) = false := by decide) (he : starEach (e :: es) X.env = (false, eval e X.env) :: starEach es X.env := by rfl)
    (hpl : ((backTo pos (starEach (e :: es) X.env)).any (·.1) || (backToKw pos (keywordEach kws X.env)).any (·.1.isNone)) = false := by rfl) (l3 : ks.length ≤ sizeLine := by decide) :
    PE X (.Call (.Name x p) (e :: es) kws pos) (tMakeW C ks sp E t tk) := by
  obtain ⟨f, mk, F⟩ := M.ex
  refine ⟨fun pins s σ H Q I h => ?_⟩
  refine wpAny_Call_Name_kw (ld_glob I hg M.mg ?_ hdb)
  refine PySem.W.callWith_KW (h₀ := X.base) I.ok.mod.kin mk.kp hall (thn (ha.run pos pins s σ H _ I h) fun us s1 ⟨vs, H1, I1, r, q⟩ => ?_) hpl he
  refine thn (hkw.run pos pins s1 σ H1 _ I1 q) fun ws s2 ⟨zs, H2, I2, rz, v, rest, ev, l1, l2, q2⟩ => ⟨I2.kIn, ?_⟩
  rw [hks]
  subst ev
  cases r with
  | cons ru rr => exact run_makeW mk F hq (hr.mono hkj) hx I2 ru rr rz l1 l2.symm hnd hno l3 q2
/-- C(e, rest..) -/
theorem pe_makeW0 (M : Nd X.prog X.w X.K X.mg X.base CX k x C p1 p2 sp) (hq : Quiet X.A) (hr : Room j X.A) (hx : Passes CX X E) (ha : PA X (e :: es) t)
    (hkj : k + 1 ≤ j := by omega) (hg : Gl X x := by rfl)
    (hdb : (x == ("__debug__" : Str)) = false := by decide) (he : starEach (e :: es) X.env = (false, eval e X.env) :: starEach es X.env := by rfl)
    (hpl : (backTo pos (starEach es X.env)).any (·.1) = false := by rfl) :
    PE X (.Call (.Name x p) (e :: es) [] pos) (tMakeW C [] sp E t tNil) := by
  obtain ⟨f, mk, F⟩ := M.ex
  refine ⟨fun pins s σ H Q I h => ?_⟩
  refine wpAny_Call_Name_kw (ld_glob I hg M.mg ?_ hdb)
  refine PySem.W.callWith_K (h₀ := X.base) I.ok.mod.kin mk.kp (thn (ha.run pos pins s σ H _ I h) fun us s1 ⟨vs, H1, I1, r, q⟩ => ⟨I1.kIn, ?_⟩) he hpl
  obtain ⟨v, rest, ev, l1, l2, q2⟩ := q
  subst ev
  cases r with
  | cons ru rr => exact run_makeW (ks := []) (ws := []) (zs := []) mk F hq (hr.mono hkj) hx I1 ru rr .nil l1 rfl List.nodup_nil (fun _ z => nomatch z) (Nat.zero_le _) q2
end
end Tq

/-! ### Tq: dict(zip(t, u)) of two tuples -/
namespace Tq
open PySem L2 PySem.Spec PyProof.Rows
section
variable {prog : Program} {w : World} {A : Around} {E : Value → Shared → Prop} {s : Shared}
/-- the next pair of two tuples, where the pair that was given out last is still there -/
theorem zt_item {z TI TO T i1 i2 l1 l2 : Addr} {f : Bool} {oT : Obj} {k1 k2 : Nat} {xs ys : Array Value} {x y : Value} {Q : Option Value → Shared → Prop} (D : ZipApart z TI TO i1 i2 l1 l2)
    (hz : IsZipHeld s.heap z TI TO T f) (hT : s.heap.get? T = some oT) (hTI : IsPair s.heap TI (.ref i1) (.ref i2))
    (h1 : s.heap.IsTupleIter i1 l1 k1) (h2 : s.heap.IsTupleIter i2 l2 k2) (hl1 : s.heap.IsTuple l1 xs) (hl2 : s.heap.IsTuple l2 ys) (hx : xs[k1]? = some x) (hy : ys[k2]? = some y)
    (hQ : ∀ h', IsZipHeld h' z TI TO T true → h'.IsTupleIter i1 l1 (k1 + 1) → h'.IsTupleIter i2 l2 (k2 + 1) → IsPair h' s.heap.objs.size x y → h'.objs.size = s.heap.objs.size + 1 →
      (∀ c o, c ≠ z → c ≠ i1 → c ≠ i2 → s.heap.get? c = some o → h'.get? c = some o) → Q (some (.ref s.heap.objs.size)) { s with heap := h' }) :
    wpAny (model prog w) A (pyNext (.ref z)) Q E s := by
  have hTy : s.TypeIs (.ref z) "zip" := ⟨_, hz, rfl⟩
  unfold pyNext
  refine wpAny_bind (wpAny_attempt (wpAny_callSpecial?_slot (name := Str.ofString "__next__") hTy F.slot_zip_next (wpAny_call_entry F.slot_zip_next hTy F.entry_zip_next ?_ (F.args_zip_next_1 _))))
  show wpAny _ _ (field (.ref z) 2 >>= _) _ _ _
  refine wpAny_bind (wpAny_field hz rfl (x := .bool false) rfl ?_)
  show wpAny _ _ (field (.ref z) 3 >>= _) _ _ _
  refine wpAny_bind (wpAny_field hz rfl (x := .ref TI) rfl (wpAny_bind (wpAny_seqItems hTI rfl ?_)))
  show wpAny _ _ (Builtin.SmallTypes.ownedTupleIsFree (.ref z) >>= _) _ _ _
  refine wpAny_bind (wpAny_tupleHeld_zip hz hT fun h₁ hz₁ b1 => ?_)
  simp only [Bool.false_eq_true, if_false]
  refine wpAny_bind ?_
  rw [← Array.forIn_toList]
  simp only [List.forIn_cons, List.forIn_nil]
  refine wpAny_bind (wpAny_bind (wpAny_holding ?_))
  show wpAny _ _ (Builtin.SmallTypes.nextOf (.ref i1) >>= _) _ _ _
  refine wpAny_bind (RZ.nextOf_tuple_item (s := { s with heap := h₁ }) (h1.at fun o q => b1.extBut _ _ D.i1z q) (hl1.at fun o q => b1.extBut _ _ D.l1z q) hx fun h₂ j1 b2 => wpAny_pure (wpAny_pure ?_))
  refine wpAny_bind (wpAny_bind (wpAny_holding ?_))
  show wpAny _ _ (Builtin.SmallTypes.nextOf (.ref i2) >>= _) _ _ _
  refine wpAny_bind (RZ.nextOf_tuple_item (s := { s with heap := h₂ }) (h2.at fun o q => b2.extBut _ _ D.i12.symm (b1.extBut _ _ D.i2z q)) (hl2.at fun o q => b2.extBut _ _ D.l2i1 (b1.extBut _ _ D.l2z q)) hy fun h₃ j2 b3 => wpAny_pure (wpAny_pure (wpAny_pure ?_)))
  show wpAny _ _ (newTuple [x, y] >>= _) _ _ _
  refine wpAny_bind (wpAny_newTuple (wpAny_pure ⟨_, rfl, wpAny_pure ?_⟩))
  have sz : h₃.objs.size = s.heap.objs.size := by rw [b3.1, b2.1, b1.1]
  have pr : IsPair (h₃.push { cls := .type "tuple", data := .seq #[x, y] }) h₃.objs.size x y := Heap.get?_push_size _ rfl
  have sz4 : (h₃.push { cls := .type "tuple", data := .seq #[x, y] }).objs.size = h₃.objs.size + 1 := Heap.size_push ..
  show Q (some (.ref h₃.objs.size)) _
  rw [sz] at pr sz4 ⊢
  exact hQ _ (Heap.get?_push_of_some _ (b3.extBut _ _ D.i2z.symm (b2.extBut _ _ D.i1z.symm hz₁))) (j1.at fun o q => Heap.get?_push_of_some _ (b3.extBut _ _ D.i12 q)) (j2.at fun o q => Heap.get?_push_of_some _ q) pr sz4
    fun c o c1 c2 c3 q => Heap.get?_push_of_some _ (b3.extBut _ _ c3 (b2.extBut _ _ c2 (b1.extBut _ _ c1 q)))
theorem zt_end {z TI TO T i1 i2 l1 l2 : Addr} {f : Bool} {oT : Obj} {k1 k2 : Nat} {xs ys : Array Value} {Q : Option Value → Shared → Prop} (hh : A.handled = none) (D : ZipApart z TI TO i1 i2 l1 l2)
    (hz : IsZipHeld s.heap z TI TO T f) (hT : s.heap.get? T = some oT) (hTI : IsPair s.heap TI (.ref i1) (.ref i2))
    (h1 : s.heap.IsTupleIter i1 l1 k1) (h2 : s.heap.IsTupleIter i2 l2 k2) (hl1 : s.heap.IsTuple l1 xs) (hl2 : s.heap.IsTuple l2 ys) (hend : xs[k1]? = none ∨ ys[k2]? = none)
    (hQ : ∀ h', (∀ c o, c ≠ z → c ≠ i1 → c ≠ i2 → s.heap.get? c = some o → h'.get? c = some o) → Q none { s with heap := h' }) : wpAny (model prog w) A (pyNext (.ref z)) Q E s := by
  have hTy : s.TypeIs (.ref z) "zip" := ⟨_, hz, rfl⟩
  unfold pyNext
  refine wpAny_bind (wpAny_attempt (wpAny_callSpecial?_slot (name := Str.ofString "__next__") hTy F.slot_zip_next (wpAny_call_entry F.slot_zip_next hTy F.entry_zip_next ?_ (F.args_zip_next_1 _))))
  have stop : ∀ (h' : Heap) (e : Addr), (∀ c o, c ≠ z → c ≠ i1 → c ≠ i2 → s.heap.get? c = some o → h'.get? c = some o) → (∃ o, h'.get? e = some o ∧ o.cls = .type "StopIteration") →
      wpAny (model prog w) A (isInstance (.ref e) (.type "StopIteration") >>= fun b => if b = true then pure none else throw (Value.ref e)) Q E { s with heap := h' } := fun h' e hk ⟨o, ho, hc⟩ =>
    wpAny_bind (wpAny_isInstance (T := "StopIteration") (b := true) ⟨o, ho, hc⟩ isSubtype_stop (wpAny_pure (hQ _ hk)))
  show wpAny _ _ (field (.ref z) 2 >>= _) _ _ _
  refine wpAny_bind (wpAny_field hz rfl (x := .bool false) rfl ?_)
  show wpAny _ _ (field (.ref z) 3 >>= _) _ _ _
  refine wpAny_bind (wpAny_field hz rfl (x := .ref TI) rfl (wpAny_bind (wpAny_seqItems hTI rfl ?_)))
  show wpAny _ _ (Builtin.SmallTypes.ownedTupleIsFree (.ref z) >>= _) _ _ _
  refine wpAny_bind (wpAny_tupleHeld_zip hz hT fun h₁ hz₁ b1 => ?_)
  simp only [Bool.false_eq_true, if_false]
  refine wpAny_bind ?_
  rw [← Array.forIn_toList]
  simp only [List.forIn_cons, List.forIn_nil]
  refine wpAny_bind (wpAny_bind (wpAny_holding ?_))
  show wpAny _ _ (Builtin.SmallTypes.nextOf (.ref i1) >>= _) _ _ _
  have g1 : h₁.IsTupleIter i1 l1 k1 := h1.at fun o q => b1.extBut _ _ D.i1z q
  have g2 : h₁.IsTuple l1 xs := hl1.at fun o q => b1.extBut _ _ D.l1z q
  cases hx : xs[k1]? with
  | none => exact wpAny_bind (RZ.nextOf_tuple_end (s := { s with heap := h₁ }) hh g1 g2 hx fun h₂ e b2 he => stop h₂ e (fun c o c1 c2 _ q => b2 _ _ c2 (b1.extBut _ _ c1 q)) he)
  | some x =>
    have hy : ys[k2]? = none := hend.resolve_left (by rw [hx]; exact fun q => nomatch q)
    refine wpAny_bind (RZ.nextOf_tuple_item (s := { s with heap := h₁ }) g1 g2 hx fun h₂ j1 b2 => wpAny_pure (wpAny_pure ?_))
    refine wpAny_bind (wpAny_bind (wpAny_holding ?_))
    show wpAny _ _ (Builtin.SmallTypes.nextOf (.ref i2) >>= _) _ _ _
    exact wpAny_bind (RZ.nextOf_tuple_end (s := { s with heap := h₂ }) hh (h2.at fun o q => b2.extBut _ _ D.i12.symm (b1.extBut _ _ D.i2z q)) (hl2.at fun o q => b2.extBut _ _ D.l2i1 (b1.extBut _ _ D.l2z q)) hy fun h₃ e b3 he =>
      stop h₃ e (fun c o c1 c2 c3 q => b3 _ _ c3 (b2.extBut _ _ c2 (b1.extBut _ _ c1 q))) he)
end
/-- zip(t, u) of two tuples as a maker of pairs -/
theorem zt_arg {prog : Program} {w : World} (z TI TO i1 i2 l1 l2 : Addr) (D : ZipApart z TI TO i1 i2 l1 l2) (xs ys : Array Value) :
    PairArg prog w "zip" z [z, TI, TO, i1, i2, l1, l2] [z, TO, i1, i2] (min xs.size ys.size) (fun i k v => xs[i]? = some k ∧ ys[i]? = some v)
      (fun h => IsZip h z TI TO .none ∧ IsPair h TI (.ref i1) (.ref i2) ∧ (∃ a b, IsPair h TO a b) ∧ h.IsTupleIter i1 l1 0 ∧ h.IsTupleIter i2 l2 0 ∧ h.IsTuple l1 xs ∧ h.IsTuple l2 ys) where
  type := fun s ok => ⟨_, ok.1, rfl⟩
  notDict := by decide
  keep := fun h h' ok hk => by
    obtain ⟨hz, hTI, ⟨a, b, hTO⟩, h1, h2, hl1, hl2⟩ := ok
    exact ⟨hk _ _ hz, hk _ _ hTI, ⟨a, b, hk _ _ hTO⟩, h1.at fun o e => hk _ o e, h2.at fun o e => hk _ o e, hl1.at fun o e => hk _ o e, hl2.at fun o e => hk _ o e⟩
  there := fun h ok b hb => by
    obtain ⟨hz, hTI, ⟨a, c, hTO⟩, ⟨o1, h1, _⟩, ⟨o2, h2, _⟩, ⟨o3, hl1, _⟩, ⟨o4, hl2, _⟩⟩ := ok
    simp only [List.mem_cons, List.not_mem_nil, or_false] at hb
    rcases hb with rfl | rfl | rfl | rfl | rfl | rfl | rfl
    all_goals first | exact ⟨_, hz⟩ | exact ⟨_, hTI⟩ | exact ⟨_, hTO⟩ | exact ⟨_, h1⟩ | exact ⟨_, h2⟩ | exact ⟨_, hl1⟩ | exact ⟨_, hl2⟩
  sub := fun b hb => by simp at hb ⊢; rcases hb with rfl | rfl | rfl | rfl <;> simp
  noKeys := fun A s Q E hA ok h => getAttrOr_miss_zip ok.1 rfl rfl rfl zip_no_keys (by decide +kernel) hA h
  iter := fun A s d Q E hA ok hd hdf h => by
    obtain ⟨hz, hTI, ⟨a, b, hTO⟩, h1, h2, hl1, hl2⟩ := ok
    simp only [List.mem_cons, List.not_mem_nil, or_false, not_or] at hdf
    obtain ⟨dz, dTI, dTO, di1, di2, dl1, dl2⟩ := hdf
    refine wpAny_pyIter_zip hz (h z [z, TO, i1, i2] (fun i h => IsPair h TI (.ref i1) (.ref i2) ∧ h.IsTupleIter i1 l1 i ∧ h.IsTupleIter i2 l2 i ∧ h.IsTuple l1 xs ∧ h.IsTuple l2 ys ∧
      ((IsZip h z TI TO .none ∧ ∃ a b, IsPair h TO a b) ∨ ∃ T f oT, IsZipHeld h z TI TO T f ∧ h.get? T = some oT ∧ T ≠ z ∧ T ≠ i1 ∧ T ≠ i2 ∧ T ≠ d)) s.heap s.toks ?_
      ⟨hTI, h1, h2, hl1, hl2, .inl ⟨hz, a, b, hTO⟩⟩ (fun _ _ e => e) fun b hb => .inl hb)
    exact {
      off := fun hm => by
        simp only [List.mem_cons, List.not_mem_nil, or_false] at hm
        rcases hm with e | e | e | e
        · exact dz e
        · exact dTO e
        · exact di1 e
        · exact di2 e
      frame := fun i h₁ h₂ st hk => by
        obtain ⟨hTI, h1, h2, hl1, hl2, hz⟩ := st
        refine ⟨hk _ _ (Ne.symm dTI) hTI, h1.at fun o e => hk _ o (Ne.symm di1) e, h2.at fun o e => hk _ o (Ne.symm di2) e, hl1.at fun o e => hk _ o (Ne.symm dl1) e, hl2.at fun o e => hk _ o (Ne.symm dl2) e, ?_⟩
        rcases hz with ⟨hz, a, b, hTO⟩ | ⟨T, f, oT, hz, hT, r1, r2, r3, r4⟩
        · exact .inl ⟨hk _ _ (Ne.symm dz) hz, a, b, hk _ _ (Ne.symm dTO) hTO⟩
        · exact .inr ⟨T, f, oT, hk _ _ (Ne.symm dz) hz, hk _ _ r4 hT, r1, r2, r3, r4⟩
      item := fun i s₁ Q₁ E₁ hi st hds hQ => by
        obtain ⟨hTI, h1, h2, hl1, hl2, hz⟩ := st
        have hix : i < xs.size := Nat.lt_of_lt_of_le hi (Nat.min_le_left ..)
        have hiy : i < ys.size := Nat.lt_of_lt_of_le hi (Nat.min_le_right ..)
        have ex := Array.getElem?_eq_getElem hix
        have ey := Array.getElem?_eq_getElem hiy
        have lt : ∀ {c o}, s₁.heap.get? c = some o → s₁.heap.objs.size ≠ c := fun e => Nat.ne_of_gt (Heap.lt_size e)
        have n1 : s₁.heap.objs.size ≠ i1 := let ⟨_, e, _⟩ := h1; lt e
        have n2 : s₁.heap.objs.size ≠ i2 := let ⟨_, e, _⟩ := h2; lt e
        rcases hz with ⟨hz, a, b, hTO⟩ | ⟨T, f, oT, hz, hT, r1, r2, r3, r4⟩
        · refine RZ.pyNext_zipT_item D hz hTI hTO h1 h2 hl1 hl2 ex ey fun h' a1 a2 a3 a4 a5 a6 hk => ?_
          exact hQ s₁.heap.objs.size _ _ h' s₁.toks ⟨ex, ey⟩ (.inl ⟨_, a5, rfl, _, rfl⟩)
            ⟨hk _ _ D.TIz D.TITO D.TIi1 D.TIi2 hTI, a3, a4, hl1.at fun o e => hk _ o D.l1z D.l1TO D.l1i1 D.l1i2 e, hl2.at fun o e => hk _ o D.l2z D.l2TO D.l2i1 D.l2i2 e,
              .inr ⟨s₁.heap.objs.size, false, _, a1, a5, lt hz, n1, n2, Nat.ne_of_gt hds⟩⟩
            fun c o hc e => hk c o (fun x => hc (by simp [x])) (fun x => hc (by simp [x])) (fun x => hc (by simp [x])) (fun x => hc (by simp [x])) e
        · refine zt_item D hz hT hTI h1 h2 hl1 hl2 ex ey fun h' a1 a3 a4 a5 a6 hk => ?_
          exact hQ s₁.heap.objs.size _ _ h' s₁.toks ⟨ex, ey⟩ (.inl ⟨_, a5, rfl, _, rfl⟩)
            ⟨hk _ _ D.TIz D.TIi1 D.TIi2 hTI, a3, a4, hl1.at fun o e => hk _ o D.l1z D.l1i1 D.l1i2 e, hl2.at fun o e => hk _ o D.l2z D.l2i1 D.l2i2 e,
              .inr ⟨T, true, oT, a1, hk _ _ r1 r2 r3 hT, r1, r2, r3, r4⟩⟩
            fun c o hc e => hk c o (fun x => hc (by simp [x])) (fun x => hc (by simp [x])) (fun x => hc (by simp [x])) e
      done := fun s₁ Q₁ E₁ st hQ => by
        obtain ⟨hTI, h1, h2, hl1, hl2, hz⟩ := st
        have hend : xs[min xs.size ys.size]? = none ∨ ys[min xs.size ys.size]? = none := by
          rcases Nat.le_total xs.size ys.size with h | h
          · exact .inl (Array.getElem?_eq_none (by rw [Nat.min_eq_left h]; exact Nat.le_refl _))
          · exact .inr (Array.getElem?_eq_none (by rw [Nat.min_eq_right h]; exact Nat.le_refl _))
        rcases hz with ⟨hz, a, b, hTO⟩ | ⟨T, f, oT, hz, hT, r1, r2, r3, r4⟩
        · exact RZ.pyNext_zipT_end hA D hz hTI hTO h1 h2 hl1 hl2 hend fun h' hk => hQ h' s₁.toks fun c o hc e => hk c o (fun x => hc (by simp [x])) (fun x => hc (by simp [x])) (fun x => hc (by simp [x])) (fun x => hc (by simp [x])) e
        · exact zt_end hA D hz hT hTI h1 h2 hl1 hl2 hend fun h' hk => hQ h' s₁.toks fun c o hc e => hk c o (fun x => hc (by simp [x])) (fun x => hc (by simp [x])) (fun x => hc (by simp [x])) e }
theorem kv_zip : ∀ {ks : List Str} {us : List Value} {ys : List V} {ws : List Value}, Vals (ks.map V.str) us → Vals ys ws →
    ∃ kvs : List (Key × Value), KV (kdOf ks ys) kvs ∧ kvs.length = min us.length ws.length ∧ ∀ (i : Nat) (key v : Value), us[i]? = some key → ws[i]? = some v → ∃ k, kvs[i]? = some (k, v) ∧ keyIs k key = true
  | [], _, _, _, .nil, _ => ⟨[], .nil, by simp, fun i key v h => by simp at h⟩
  | _ :: _, _, _, _, .cons _ _, .nil => ⟨[], .nil, by simp, fun i key v _ h => by simp at h⟩
  | k :: ks, _, _, _, .cons (b := u) (l₂ := us) a r, .cons (b := w) (l₂ := ws) b t => by
    obtain ⟨kvs, h1, h2, h3⟩ := kv_zip r t
    refine ⟨(Sum.inr k, w) :: kvs, .cons ⟨rfl, b⟩ h1, by simp [h2], fun i key v e1 e2 => ?_⟩
    cases i with
    | zero =>
      obtain ⟨t, e⟩ := (show ∃ t, u = Value.str k t from a)
      have z1 : u = key := by simpa using e1
      have z2 : w = v := by simpa using e2
      subst z1 z2 e
      exact ⟨Sum.inr k, rfl, keyIs_str k t⟩
    | succ i => exact h3 i key v (by simpa using e1) (by simpa using e2)
def tDZip (K : PySem.W.Frag) (ta : TA) : TE := fun σ H Q => ta σ H fun vs H1 => ∃ (a b : Addr) (ks : List Str) (ys : List V), vs = [.ref a, .ref b] ∧ SqT K H1 a (ks.map V.str) ∧ SqT K H1 b ys ∧
  ∀ p, H1 p = none → Q (.ref p) (upd H1 p (.dK (mergeK [] (kdOf ks ys))))
theorem pe_dictZip {X : Cx} {e e2 : Expr} {ta : TA} {p p' pos pos' : Pos} (hcalm : X.calm = true) (hg : Gl X "zip") (hm : X.mg "zip" = none) (hg' : Gl X "dict") (hm' : X.mg "dict" = none) (ha : PA X [e, e2] ta)
    (hs : starEach [e, e2] X.env = (false, eval e X.env) :: starEach [e2] X.env := by rfl) (hpl : (backTo pos (starEach [e2] X.env)).any (·.1) = false := by rfl)
    (hs' : starEach [.Call (.Name "zip" p) [e, e2] [] pos] X.env = [(false, eval (.Call (.Name "zip" p) [e, e2] [] pos) X.env)] := by rfl) :
    PE X (.Call (.Name "dict" p') [.Call (.Name "zip" p) [e, e2] [] pos] [] pos') (tDZip X.K ta) := by
  refine ⟨fun pins s σ H Q I h => ?_⟩
  refine wpAny_Call_Name_kw (ld_blt I hg' hm' (show bootBuiltins "dict" = some (.type "dict") by decide +kernel) ?_ (by decide) (by decide))
  refine PyProof.Rows.callWith_type1 ?_ (by rw [hs']; rfl) rfl
  rw [hs']
  refine Calls.spliced_cons ?_
  refine Call_ (ld_blt I hg hm PyProof.Rows.boot_zip (PyProof.Rows.callWith_type1 (thn (ha.run pos pins s σ H _ I h) fun us s1 ⟨vs, H1, I1, r1, q1⟩ => ?_) hs hpl))
  obtain ⟨a, b, ks, ys, ex, hqx, hqy, q⟩ := q1
  subst ex
  obtain ⟨u1, u2, rfl, ra, rb⟩ := vals2 r1
  cases ra
  cases rb
  obtain ⟨its, rv, p1, z1⟩ := I1.tuple hqx
  obtain ⟨its2, rv2, p2, z2⟩ := I1.tuple hqy
  obtain ⟨o1, ho1, _⟩ := id p1
  obtain ⟨o2, ho2, _⟩ := id p2
  refine RZ.call_zipT (show s1.heap.IsTuple a its.toArray from p1) (show s1.heap.IsTuple b its2.toArray from p2) fun h' hz hTI hTO h1 h2 hsz hk => Calls.spliced_nil ?_
  obtain ⟨kvs, rel, hl, hp⟩ := kv_zip rv rv2
  have hlen : min its.toArray.size its2.toArray.size ≤ sizeLine := Nat.le_trans (Nat.min_le_left _ _) (by have := rv.length; rw [List.size_toArray]; omega)
  refine call_dict_pairs (s := { s1 with heap := h' }) (knd := mixKind X.prog X.w) (kvs := kvs) (zt_arg (s1.heap.objs.size + 4) (s1.heap.objs.size + 2) (s1.heap.objs.size + 3) s1.heap.objs.size (s1.heap.objs.size + 1) a b
    (PySem.W.ktu_apart s1.heap.objs.size a b (Heap.lt_size ho1) (Heap.lt_size ho2)) its.toArray its2.toArray) (I1.ok.hd hcalm)
    ⟨hz, hTI, ⟨_, _, hTO⟩, h1, h2, Heap.IsTuple.at (show s1.heap.IsTuple a its.toArray from p1) fun o q => hk _ _ q, Heap.IsTuple.at (show s1.heap.IsTuple b its2.toArray from p2) fun o q => hk _ _ q⟩
    ⟨by simp [hl], fun i key v e => by
      obtain ⟨k, g1, g2⟩ := hp i key v (by simpa using e.1) (by simpa using e.2)
      exact ⟨k, g1, g2⟩⟩ hlen fun h2 tk dd keep => ?_
  have big : s1.heap.objs.size ≤ h'.objs.size := by rw [hsz]; exact Nat.le_add_right _ _
  have keep2 : ∀ b o, s1.heap.get? b = some o → h2.get? b = some o := fun b o q => keep b o (fun hm => by
    have := Heap.lt_size q
    simp only [List.mem_cons, List.not_mem_nil, or_false] at hm
    rcases hm with e | e | e | e <;> rw [e] at this <;> first | exact Nat.lt_irrefl _ this | exact absurd this (Nat.not_lt.mpr (Nat.le_add_right _ _))) (hk b o q)
  have hlen2 : (mergeK [] (kdOf ks ys)).length ≤ sizeLine := by
    refine Nat.le_trans (length_mergeK _ []) ?_
    rw [List.length_nil, Nat.zero_add, rel.length, hl]
    simpa using hlen
  have hbig : (h'.objs.size == sysModules) = false := beq_eq_false_iff_ne.mpr (Nat.ne_of_gt (Nat.lt_of_lt_of_le I1.big big))
  exact ⟨.ref h'.objs.size, upd H1 h'.objs.size (.dK (mergeK [] (kdOf ks ys))), I1.laid (t' := tk) keep2 big (show ObjOk X.prog X.w _ _ _ (.dK (mergeK [] (kdOf ks ys))) from ⟨hlen2, hbig, merged [] kvs, KV.merge rel .nil, dd⟩), rfl, q _ (I1.hok.fresh big)⟩
end Tq

/-! ### Tq: the kinds of nodes and a made node, program-free -/
namespace Tq
open PySem L2 PySem.Spec PyProof.Rows
theorem castPG {X : Cx} {K : PySem.W.Frag} {tg : PySem.Expr} {r : PySem.W.Frag → TG} (i : PG X tg (r X.K)) (h : X.K = K := by rfl) : PG X tg (r K) := h ▸ i
def rTupOf (K : PySem.W.Frag) : List V → Hp → VK → Prop := fun xs H Q => ∃ p ys, xs = [.ref p] ∧ ((SqL K H p ys ∧ ∀ l, H l = none → Q (.ref l) (upd H l (.tup ys))) ∨ (SqT K H p ys ∧ Q (.ref p) H))
/-- what a raising def lets out, where it lets out nothing -/
theorem passF {P : Program} {w : World} {X : Cx} : Passes (L2.CX P w) X E0 := fun _ _ _ _ _ _ _ h => by
  obtain ⟨_, _, _, _, _, _, _, _, _, _, _, _, h⟩ := h
  exact h.elim
/-- the tables of kinds -/
structure Tb where
  st : List (Str × List Str)
  ex : List (Str × List Str)
  pa : List (Str × List Str)
  pr : List (Str × List Str)
  pl : List (Str × List Str)
  gr : List (Str × List Str)
def Tb.rows (t : Tb) (z : Str) : Option (List Str) :=
  match t.st.lookup z with
  | some r => some r
  | none => match t.ex.lookup z with
    | some r => some r
    | none => match t.pa.lookup z with
      | some r => some r
      | none => match t.pr.lookup z with
        | some r => some r
        | none => match t.pl.lookup z with
          | some r => some r
          | none => if (t.gr.any fun g => g.2.contains z) = true then some [] else none
/-- a row's name and what it holds -/
def rowN (r : Str) : Str := (Txt.split r " ").headD ""
def rowW (r : Str) : Str := (Txt.split r " ").getD 1 ""
def isMany (h : Str) : Bool := match atI h.cps.toList (-1) with
  | some c => !(Builtin.Str.occurrences "*+" ⟨#[c]⟩ 0 ("*+" : Str).length 1).isEmpty
  | none => false
structure RowOk (r : Str) : Prop where
  two : Txt.split r " " = [rowN r, rowW r]
  len : r.length + 2 ≤ sizeLine
  last : (atI (rowW r).cps.toList (-1)).isSome = true
  wlen : (rowW r).length ≤ sizeLine
abbrev places : List Str := ["lineno", "col_offset", "end_lineno", "end_col_offset"]
structure TbOk (t : Tb) : Prop where
  row : ∀ z rows, t.rows z = some rows → (∀ r ∈ rows, RowOk r) ∧ (rows.map rowN).Nodup ∧ (∀ r ∈ rows, rowN r ∉ places) ∧ rows.length ≤ 1000
  load : t.rows "Load" = some []
  gnd : (t.gr.map (·.1)).Nodup
  glen : t.gr.length ≤ 1000
/-- the tables in the written part -/
structure Kd (K : PySem.W.Frag) (w : World) (mg : Str → Option Value) (t : Tb) (d1 d2 d3 d4 d5 d6 d7 : Addr) : Prop where
  m_STATEMENTS : mg "STATEMENTS" = some (.ref d1)
  m_EXPRESSIONS : mg "EXPRESSIONS" = some (.ref d2)
  m_PATTERNS : mg "PATTERNS" = some (.ref d3)
  m_PARTS : mg "PARTS" = some (.ref d4)
  m_PLACELESS : mg "PLACELESS" = some (.ref d5)
  m_GROUPS : mg "GROUPS" = some (.ref d6)
  m_PLACE : mg "PLACE" = some (.ref d7)
  t1 : STab K w d1 t.st
  t2 : STab K w d2 t.ex
  t3 : STab K w d3 t.pa
  t4 : STab K w d4 t.pr
  t5 : STab K w d5 t.pl
  t6 : STab K w d6 t.gr
  t7 : KTx K d7 places
  ok : TbOk t
/-- table_of -/
def spTable (K : PySem.W.Frag) (t : Tb) : Sp := fun vs H Q _ => ∃ v, vs = [v] ∧
  ((∃ z, v = .str z ∧ (∀ rows, t.rows z = some rows → ∀ a H', Same H H' → SqT K H' a (rows.map V.str) → Q (.ref a) H') ∧ (t.rows z = none → ∀ H', Same H H' → Q .non H')) ∨
   (∃ ty, TyX K H v ty ∧ PySem.W.kitOne K ty (.type "str") = some false ∧ Q .non H))
def Flds (H : Hp) (qs : List V) (rows : List Str) : Prop := Paired (fun q r => ∃ b, q = .ref b ∧ H b = some (.tup [.str (rowN r), .str (rowW r)])) qs rows
theorem Flds.same {H H' : Hp} (e : Same H H') : ∀ {qs : List V} {rows : List Str}, Flds H qs rows → Flds H' qs rows
  | _, _, .nil => .nil
  | _, _, .cons ⟨b, e1, e2⟩ r => .cons ⟨b, e1, e b _ e2⟩ (Flds.same e r)
theorem Flds.but {H H' : Hp} (e : ∀ b xs, H b = some (.tup xs) → H' b = some (.tup xs)) : ∀ {qs : List V} {rows : List Str}, Flds H qs rows → Flds H' qs rows
  | _, _, .nil => .nil
  | _, _, .cons ⟨b, e1, e2⟩ r => .cons ⟨b, e1, e b _ e2⟩ (Flds.but e r)
theorem Flds.get {H : Hp} : ∀ {qs : List V} {rows : List Str} {i : Nat} {x : V}, Flds H qs rows → qs[i]? = some x → ∃ r b, rows[i]? = some r ∧ x = .ref b ∧ H b = some (.tup [.str (rowN r), .str (rowW r)])
  | _, _, i, x, .nil, h => by simp at h
  | _, _, 0, x, .cons ⟨b, e1, e2⟩ r, h => by
    exact ⟨_, b, rfl, (Option.some.inj h).symm.trans e1, e2⟩
  | _, _, i + 1, x, .cons _ r, h => by
    obtain ⟨r', b, g1, g2, g3⟩ := Flds.get (i := i) r (by simpa using h)
    exact ⟨r', b, by simpa using g1, g2, g3⟩
theorem Flds.snoc {H : Hp} {q : V} {r : Str} (h : ∃ b, q = .ref b ∧ H b = some (.tup [.str (rowN r), .str (rowW r)])) : ∀ {qs : List V} {rows : List Str}, Flds H qs rows → Flds H (qs ++ [q]) (rows ++ [r])
  | _, _, .nil => .cons h .nil
  | _, _, .cons h' t => .cons h' (Flds.snoc h t)
theorem same_none {H H' : Hp} {b : Addr} (e : Same H H') (h : H' b = none) : H b = none := by
  cases z : H b with
  | none => rfl
  | some o => rw [e b o z] at h; cases h
/-- split_fields -/
def spSplit (t : Tb) : Sp := fun vs H Q _ => ∃ z rows, vs = [.str z] ∧ t.rows z = some rows ∧ ∀ p qs H', Same H H' → H p = none → H' p = some (.lst qs) → Flds H' qs rows → Q (.ref p) H'
/-- fields_of, of a kind -/
def spFields (t : Tb) : Sp := fun vs H Q _ => ∃ z rows, vs = [.str z] ∧ t.rows z = some rows ∧ ∀ p H', Same H H' → H p = none → H' p = some (.tup (rows.map fun r => V.str (rowN r))) → Q (.ref p) H'
/-- the attributes of a node -/
abbrev ndF (kind : V) (h : Addr) (a b c d : V) : List (Str × V) := [("kind", kind), ("held", .ref h), ("lineno", a), ("col_offset", b), ("end_lineno", c), ("end_col_offset", d)]
/-- what stands in a field at first -/
def StV (C : Addr) (H : Hp) (n h : Str) (v : V) (fp : List Addr) : Prop :=
  (isMany h = true ∧ ∃ l, v = .ref l ∧ fp = [l] ∧ H l = some (.lst [])) ∨
  (isMany h = false ∧ n = "ctx" ∧ ∃ x dx hh, v = .ref x ∧ fp = [x, dx, hh] ∧ fp.Nodup ∧ H dx = some (.own x) ∧ H x = some (.ins C dx (ndF (.str "Load") hh .non .non .non .non)) ∧ H hh = some (.dK [])) ∨
  (isMany h = false ∧ n ≠ "ctx" ∧ v = .non ∧ fp = [])
theorem StV.same {C : Addr} {H H' : Hp} {n h : Str} {v : V} {fp : List Addr} (e : ∀ a o, a ∈ fp → H a = some o → H' a = some o) (s : StV C H n h v fp) : StV C H' n h v fp := by
  rcases s with ⟨m, l, e1, e2, e3⟩ | ⟨m, hn, x, dx, hh, e1, e2, e3, e4, e5, e6⟩ | ⟨m, hn, e1, e2⟩
  · exact .inl ⟨m, l, e1, e2, e l _ (by rw [e2]; exact .head _) e3⟩
  · exact .inr (.inl ⟨m, hn, x, dx, hh, e1, e2, e3, e dx _ (by rw [e2]; simp) e4, e x _ (by rw [e2]; simp) e5, e hh _ (by rw [e2]; simp) e6⟩)
  · exact .inr (.inr ⟨m, hn, e1, e2⟩)
theorem StV.dom {C : Addr} {H : Hp} {n h : Str} {v : V} {fp : List Addr} (s : StV C H n h v fp) {a : Addr} (ha : a ∈ fp) : H a ≠ none := by
  rcases s with ⟨m, l, e1, e2, e3⟩ | ⟨m, hn, x, dx, hh, e1, e2, e3, e4, e5, e6⟩ | ⟨m, hn, e1, e2⟩
  · rw [e2, List.mem_singleton] at ha
    rw [ha, e3]
    exact fun z => nomatch z
  · rw [e2] at ha
    simp only [List.mem_cons, List.not_mem_nil, or_false] at ha
    rcases ha with e | e | e
    · rw [e, e5]; exact fun z => nomatch z
    · rw [e, e4]; exact fun z => nomatch z
    · rw [e, e6]; exact fun z => nomatch z
  · rw [e2] at ha
    exact nomatch ha
theorem StV.nodup {C : Addr} {H : Hp} {n h : Str} {v : V} {fp : List Addr} (s : StV C H n h v fp) : fp.Nodup := by
  rcases s with ⟨m, l, e1, e2, e3⟩ | ⟨m, hn, x, dx, hh, e1, e2, e3, e4, e5, e6⟩ | ⟨m, hn, e1, e2⟩
  · rw [e2]; simp
  · exact e3
  · rw [e2]; exact List.nodup_nil
/-- start_value; b: the promise that holds -/
def spStart (C : Addr) (b : Bool) : Sp := fun vs H Q _ => b = true ∧ ∃ n h, vs = [.str n, .str h] ∧ (atI h.cps.toList (-1)).isSome = true ∧ h.length ≤ sizeLine ∧
  ∀ v fp H', Same H H' → StV C H' n h v fp → (∀ a ∈ fp, H a = none) → Q v H'
/-- a field of a made node: given, or as at first -/
def Ent (C : Addr) (H : Hp) (given : List (Key × V)) (r : Str) (kv : Key × V) (fp : List Addr) : Prop := kv.1 = Sum.inr (rowN r) ∧
  ((valV given (Sum.inr (rowN r)) = some kv.2 ∧ fp = []) ∨ (valV given (Sum.inr (rowN r)) = none ∧ StV C H (rowN r) (rowW r) kv.2 fp))
inductive Ents (C : Addr) (H : Hp) (given : List (Key × V)) : List Str → List (Key × V) → List (List Addr) → Prop where
  | nil : Ents C H given [] [] []
  | cons {r : Str} {kv : Key × V} {fp : List Addr} {rs : List Str} {kvs : List (Key × V)} {fps : List (List Addr)} (h : Ent C H given r kv fp) (t : Ents C H given rs kvs fps) : Ents C H given (r :: rs) (kv :: kvs) (fp :: fps)
theorem Ents.same {C : Addr} {H H' : Hp} {given : List (Key × V)} : ∀ {rs : List Str} {kvs : List (Key × V)} {fps : List (List Addr)}, Ents C H given rs kvs fps → (∀ a o, a ∈ fps.flatten → H a = some o → H' a = some o) → Ents C H' given rs kvs fps
  | _, _, _, .nil, _ => .nil
  | _, _, _, .cons (fp := fp) h t, e => by
    refine .cons ⟨h.1, ?_⟩ (Ents.same t fun a o hm => e a o (by rw [List.flatten_cons]; exact List.mem_append_right _ hm))
    rcases h.2 with q | ⟨q1, q2⟩
    · exact .inl q
    · exact .inr ⟨q1, q2.same fun a o hm => e a o (by rw [List.flatten_cons]; exact List.mem_append_left _ hm)⟩
theorem Ents.dom {C : Addr} {H : Hp} {given : List (Key × V)} : ∀ {rs : List Str} {kvs : List (Key × V)} {fps : List (List Addr)}, Ents C H given rs kvs fps → ∀ {a : Addr}, a ∈ fps.flatten → H a ≠ none
  | _, _, _, .nil, _, ha => nomatch ha
  | _, _, _, .cons h t, a, ha => by
    rw [List.flatten_cons] at ha
    rcases List.mem_append.mp ha with ha | ha
    · rcases h.2 with ⟨_, q⟩ | ⟨_, q⟩
      · rw [q] at ha; exact nomatch ha
      · exact q.dom ha
    · exact Ents.dom t ha
theorem Ents.snoc {C : Addr} {H : Hp} {given : List (Key × V)} {r : Str} {kv : Key × V} {fp : List Addr} (h : Ent C H given r kv fp) : ∀ {rs : List Str} {kvs : List (Key × V)} {fps : List (List Addr)}, Ents C H given rs kvs fps → Ents C H given (rs ++ [r]) (kvs ++ [kv]) (fps ++ [fp])
  | _, _, _, .nil => .cons h .nil
  | _, _, _, .cons h' t => .cons h' (Ents.snoc h t)
theorem Ents.keys {C : Addr} {H : Hp} {given : List (Key × V)} : ∀ {rs : List Str} {kvs : List (Key × V)} {fps : List (List Addr)}, Ents C H given rs kvs fps → kvs.map (·.1) = rs.map fun r => Sum.inr (rowN r)
  | _, _, _, .nil => rfl
  | _, _, _, .cons h t => by rw [List.map_cons, List.map_cons, h.1, Ents.keys t]
/-- the heap behind __init__ of the node x -/
structure Made (C : Addr) (H H' : Hp) (x dx : Addr) (z : Str) (given : List (Key × V)) (rows : List Str) (hh : Addr) (hd : List (Key × V)) (fps : List (List Addr)) : Prop where
  keep : ∀ b o, H b = some o → b ≠ x → H' b = some o
  new : H hh = none
  held : H' hh = some (.dK hd)
  node : H' x = some (.ins C dx (ndF (.str z) hh ((valV given (Sum.inr "lineno")).getD .non) ((valV given (Sum.inr "col_offset")).getD .non) ((valV given (Sum.inr "end_lineno")).getD .non) ((valV given (Sum.inr "end_col_offset")).getD .non)))
  ents : Ents C H' given rows hd fps
  nd : fps.flatten.Nodup
  fresh : ∀ a ∈ fps.flatten, H a = none ∧ a ≠ hh
/-- Node.__init__ that raises nothing; b: a kind with fields too -/
def spInit (t : Tb) (C : Addr) (b : Bool) : Sp := fun vs H Q _ => ∃ (x dx p d : Addr) (z : Str) (rows : List Str) (rest : List V) (kd : List (Key × V)), vs = [.ref x, .str z, .ref p, .ref d] ∧
  H x = some (.ins C dx []) ∧ H p = some (.tup rest) ∧ H d = some (.dK kd) ∧ t.rows z = some rows ∧ (b = false → rows = []) ∧ rest.length ≤ rows.length ∧ kd.length ≤ 1000 ∧ (kd.map (·.1)).Nodup ∧
  (∀ k ∈ kd.map (·.1), ∃ n, k = Sum.inr n ∧ n ∈ rows.map rowN ++ places ∧ n ∉ (rows.map rowN).take rest.length) ∧
  ∀ hh hd fps H', Made C H H' x dx z (kdOf (rows.map rowN) rest ++ kd) rows hh hd fps → Q .non H'
/-- the class Node -/
structure NdC (K : PySem.W.Frag) (C : Addr) : Prop where
  cls : Cls K C
  no : ∀ f ∈ (["kind", "held", "lineno", "col_offset", "end_lineno", "end_col_offset"] : List Str), NoAttr K C f
theorem look_at : ∀ {l : List (Str × List Str)} {i : Nat} {k : Str}, (l.map (·.1)).Nodup → (l.map (·.1))[i]? = some k → ∃ rows, l[i]? = some (k, rows) ∧ l.lookup k = some rows
  | [], _, _, _, h => by simp at h
  | (k', r) :: l, 0, k, _, h => by
    have e : k' = k := by simpa using h
    subst e
    exact ⟨r, rfl, by simp [List.lookup]⟩
  | (k', r) :: l, i + 1, k, hn, h => by
    obtain ⟨n1, n2⟩ := List.nodup_cons.mp (show (k' :: l.map (·.1)).Nodup from hn)
    have h' : (l.map (·.1))[i]? = some k := by simpa using h
    obtain ⟨rows, e1, e2⟩ := look_at n2 h'
    refine ⟨rows, by simpa using e1, ?_⟩
    have : (k == k') = false := beq_eq_false_iff_ne.mpr fun e => n1 (by subst e; exact List.mem_of_getElem? h')
    simp [List.lookup, this, e2]
def rIxTab (K : PySem.W.Frag) (d : Addr) (tb : List (Str × List Str)) : R2 := fun x y H Q => ∃ z rows, x = .ref d ∧ y = .str z ∧ tb.lookup z = some rows ∧ ∀ a, KTx K a rows → Q (.ref a) H
theorem ix_tabR {X : Cx} {d : Addr} {tb : List (Str × List Str)} (T : STab X.K X.w d tb) : IxR X (rIxTab X.K d tb) := ix_tab T
theorem inV_strs (z : Str) : ∀ rows : List Str, inV (.str z) (rows.map V.str) = rows.contains z := by
  intro rows
  unfold inV
  induction rows with
  | nil => rfl
  | cons r rs ih =>
    rw [List.map_cons, List.any_cons, ih, List.contains_cons]
    congr 1
    show (decide (r = z)) = (z == r)
    by_cases h : r = z
    · subst h; simp
    · rw [decide_eq_false h]; exact (beq_eq_false_iff_ne.mpr (fun e => h e.symm)).symm
theorem flat_strs (rows : List Str) : (rows.map V.str).all flatV = true := by
  rw [List.all_eq_true]
  intro x hx
  obtain ⟨r, _, rfl⟩ := List.mem_map.mp hx
  rfl
end Tq
namespace Tq
open PySem L2 PySem.Spec PyProof.Rows
theorem okKw0 {P : Program} {w : World} {K : PySem.W.Frag} {mg : Str → Option Value} {base : Heap} {k : Nat} {f : Addr} {x qual : Str} {st : Stmt} {fd : FuncData} {N : List Str} {sp : Sp} {a1 a2 va ka : Arg}
    (F : Fun K x qual st f fd) (hp : defArgs st = ⟨[], [a1, a2], some va, [], [], some ka, []⟩) (S : FnScope N [a1.arg, a2.arg, va.arg, ka.arg] (defScope st)) (hne : (a2.arg == a1.arg) = false)
    (body : ∀ (cdv : Value) (A : Around) (outer : List Env) (s : Shared) (H : Hp) (vs : List V) (Q : VK) (E : XK),
      Quiet (A.deeper (envOfC qual (defScope st) s.heap.objs.size f cdv)) → Room k (A.deeper (envOfC qual (defScope st) s.heap.objs.size f cdv)) → sp vs H Q E →
      ∃ t, PSs (cxOf CX0 P w K mg base N qual (defScope st) f cdv A outer s H E).nox (defBody st) t ∧
        t { nx := fun _ H' => Q .non H', rt := Q } (start N vs) H) : FnKw P w K mg base CX0 (k + 1) f [a1.arg, a2.arg] sp :=
  okKw F hp S (fun _ _ _ _ _ _ _ _ _ _ _ h => h) hne fun cdv A outer s H vs Q E hq hr h => by
    obtain ⟨t, ht, hq2⟩ := body cdv A outer s H vs Q E hq hr h
    exact ⟨t, ht.nox, hq2⟩
end Tq
namespace Tq
open PySem L2 PySem.Spec PyProof.Rows
theorem valV_none {kvs : List (Key × V)} {k : Key} (h : k ∉ kvs.map (·.1)) : valV kvs k = none := by
  cases e : valV kvs k with
  | none => rfl
  | some v => exact absurd (valV_in e) h
theorem valV_at : ∀ {kvs : List (Key × V)} {i : Nat} {k : Key} {v : V}, (kvs.map (·.1)).Nodup → kvs[i]? = some (k, v) → valV kvs k = some v
  | [], _, _, _, _, h => by simp at h
  | p :: r, 0, k, v, _, h => by
    have e : p = (k, v) := by simpa using h
    subst e
    exact valV_pos rfl
  | p :: r, i + 1, k, v, hn, h => by
    obtain ⟨n1, n2⟩ := List.nodup_cons.mp (show (p.1 :: r.map (·.1)).Nodup from hn)
    have h' : r[i]? = some (k, v) := by simpa using h
    rw [valV_neg (fun e => n1 (by rw [e]; exact List.mem_map.mpr ⟨_, List.mem_of_getElem? h', rfl⟩))]
    exact valV_at n2 h'
theorem putK_new {kvs : List (Key × V)} {k : Key} {v : V} (h : k ∉ kvs.map (·.1)) : putK kvs k v = kvs ++ [(k, v)] := by
  unfold putK
  rw [valV_any, valV_none h]
  rfl
theorem mergeK_new : ∀ {more acc : List (Key × V)}, ((acc ++ more).map (·.1)).Nodup → mergeK acc more = acc ++ more
  | [], acc, _ => by simp [mergeK]
  | p :: r, acc, h => by
    show mergeK (putK acc p.1 p.2) r = _
    have e : acc ++ p :: r = (acc ++ [p]) ++ r := by simp
    rw [e] at h
    have hn : p.1 ∉ acc.map (·.1) := fun hm => by
      rw [List.append_assoc, List.map_append, List.nodup_append] at h
      exact h.2.2 _ hm p.1 (by simp) rfl
    rw [putK_new hn, e]
    exact mergeK_new h
theorem kdOf_keys : ∀ {ks : List Str} {zs : List V}, zs.length ≤ ks.length → (kdOf ks zs).map (·.1) = (ks.take zs.length).map Sum.inr
  | [], [], _ => rfl
  | [], _ :: _, h => absurd h (by simp)
  | _ :: _, [], _ => rfl
  | k :: ks, z :: zs, h => by
    show Sum.inr k :: (kdOf ks zs).map (·.1) = Sum.inr k :: (ks.take zs.length).map Sum.inr
    rw [kdOf_keys (by simpa using h)]
end Tq
namespace Tq
open PySem L2 PySem.Spec PyProof.Rows
theorem catA_to {K : PySem.W.Frag} {H : Hp} {a b : Addr} {xs ys : List V} {Q : VK} (ha : SqT K H a xs) (hb : SqT K H b ys) (hz : xs.length + ys.length ≤ sizeLine)
    (h : ∀ q H', Same H H' → SqT K H' q (xs ++ ys) → Q (.ref q) H') : rCatA K (.ref a) (.ref b) H Q := by
  refine ⟨a, b, xs, ys, rfl, rfl, ha, hb, hz, fun e => ?_, fun _ e => ?_, fun _ _ p hp => h p _ (same_new hp) (.inl (.inl upd_same))⟩
  · subst e
    exact h b H (Same.refl H) hb
  · subst e
    exact h a H (Same.refl H) (by rw [List.append_nil]; exact ha)
end Tq

/-! ### Tq: several clauses `except X as n`; raise X() -/
namespace Tq
open PySem L2 PySem.Spec PyProof.Rows
/-- what the clauses wish of an exception of the body; the slot of the name, the class, the suite -/
def wManyAs (K : PySem.W.Frag) (Wout : WX) (D : Ends) : List (Nat × Value × (Addr → Value → Option Addr → TS)) → WX
  | [] => Wout
  | (i, c, ts) :: r => fun cls d σ H => ∃ b, PySem.W.exmOne K cls c = some b ∧
      (b = true → ∀ a, H a = none → ts a cls d { nx := fun σ' H' => D.nx (σ'.set i none) H', rt := D.rt, bk := fun σ' H' => D.bk (σ'.set i none) H', ct := fun σ' H' => D.ct (σ'.set i none) H' } (σ.set i (some (.ref a))) H) ∧
      (b = false → wManyAs K Wout D r cls d σ H)
inductive HdsAs (X : Cx) : List ExceptHandler → List (Nat × Value × (Addr → Value → Option Addr → TS)) → Prop
  | nil : HdsAs X [] []
  | cons {x n : Str} {i : Nat} {c : Value} {ts : Addr → Value → Option Addr → TS} {b₀ : Stmt} {suite : List Stmt} {np pos' : Pos} {hds : List ExceptHandler} {l : List (Nat × Value × (Addr → Value → Option Addr → TS))}
      (hi : X.N[i]? = some n) (hln : X.env.kindOf n = some .local) (hc : Names X x c)
      (hsu : ∀ (a : Addr) (oe : Obj) (cls : Value) (d : Option Addr) (pn : List (Addr × Obj)), Zc cls d oe → (∃ vs, oe.data = .fields vs) → PSs (X.suite a ((a, oe) :: pn)) (b₀ :: suite) (ts a cls d)) (r : HdsAs X hds l) :
      HdsAs X (.ExceptHandler (some (.Name x np)) (some n) (b₀ :: suite) pos' :: hds) ((i, c, ts) :: l)
section
variable {X : Cx} {body : List Stmt} {h₀ : ExceptHandler} {hds : List ExceptHandler} {l : List (Nat × Value × (Addr → Value → Option Addr → TS))} {pos : Pos} {tb : WX → TS} {Wout : WX}
theorem ps_try_manyAs (hs : X.stack = X.env :: X.outer) (hf : X.env.frame = some X.env.locals) (hN : X.N.Nodup) (tk : Takes X Wout)
    (hb : ∀ (W : WX) (pn : List (Addr × Obj)) (xe : Value → Shared → Prop), Takes (X.tr pn xe) W → PassesOwn (model X.prog X.w) X.A X.env xe → PSs (X.tr pn xe) body (tb W))
    (hh : HdsAs X (h₀ :: hds) l) : PS X (.Try body (h₀ :: hds) [] [] pos) (fun D σ H => tb (wManyAs X.K Wout D l) D σ H) := by
  refine ⟨fun pins s σ H D I h => ?_⟩
  have ok := I.ok
  have hfr : X.A.frames = some (X.env :: X.outer) := by rw [ok.frames, hs]
  refine wpAny_Try_except ?_
  refine wpAny_mono ((hb (wManyAs X.K Wout D l) (X.pn ++ pins) (fun e s₁ => wpAny (model X.prog X.w) X.A (noteFrame e X.env) (fun _ s₂ => wpAny (model X.prog X.w) X.A (setFlight e none) (fun _ s₃ =>
    wpAny (model X.prog X.w) X.A (handleBy e X.env (h₀ :: hds)) (SP X pins D) X.xe s₃) X.xe s₂) X.xe s₁) (fun u s' xx => ?_) PassesOwn.looking).run [] s σ H D (I.toTry _) h) (fun f s1 hsp => ?_) (fun e s1 he => he)
  · obtain ⟨a, B, sI, pins', σ', H', cls, d, rfl, J', nb, up, sky, na, os, ag, w⟩ := xx
    have J : Inv X pins σ' H' sI := J'.ofTry ok
    have sky' : Sky B (X.env :: X.outer) a (Zc cls d) X.env.locals s'.heap := by rw [← hs]; exact sky
    show wpAny (model X.prog X.w) X.A (noteFrame (.ref a) X.env) _ _ _
    refine Sky.land Zc.steady hfr hf sky' fun h3 fl3 up3 => ?_
    have J3 : Inv X pins σ' H' { s' with heap := h3 } := J.landed nb fl3.1 (up.trans up3) os ag
    obtain ⟨oe3, vs3, he3, hz3, hd3⟩ := fl3.there
    have nfr : a ∉ frs (X.env :: X.outer) := fun hm => by
      obtain ⟨_, o', e', hnf⟩ := fl3.2.2.1.mem hm
      rw [he3] at e'
      cases e'
      exact hnf _ hd3
    have nL : a ≠ X.env.locals := fun z => nfr (List.mem_filterMap.mpr ⟨X.env, List.mem_cons_self, by rw [hf, z]⟩)
    have nF : a ∉ X.fs := fun hm => by
      obtain ⟨e, he, q⟩ := List.mem_filterMap.mp hm
      exact nfr (List.mem_filterMap.mpr ⟨e, List.mem_cons_of_mem _ he, q⟩)
    have S3 := J3.suite he3 hd3 na nL nF
    have go : ∀ {hds' : List ExceptHandler} {l' : List (Nat × Value × (Addr → Value → Option Addr → TS))}, HdsAs X hds' l' → wManyAs X.K Wout D l' cls d σ' H' →
        wpAny (model X.prog X.w) X.A (handleBy (.ref a) X.env hds') (SP X pins D) X.xe { s' with heap := h3 } := by
      intro hds' l' hk
      induction hk with
      | nil =>
        intro w
        refine wpAny_handleBy_nil ?_
        obtain ⟨k1, k2, k3, oe, vs, T, oT, ts', he, hz, hd, h1, hr⟩ := id fl3
        unfold PySem.passOn
        refine wpAny_bind (wpAny_field he hd h1 ?_)
        rw [if_neg (show ¬ ((Value.ref T == Value.none) = true) from by simp)]
        have fin : wpAny (model X.prog X.w) X.A (setFlight (.ref a) X.env.frame) (fun _ s4 => wpAny (model X.prog X.w) X.A (throw (.ref a) : Sem Flow) (SP X pins D) X.xe s4) X.xe { s' with heap := h3 } := by
          rw [hf]
          refine HandSPX.setFlight_upZ fl3 fun h4 hh4 up4 => wpAny_throw (tk _ _ ?_)
          exact ⟨a, B, sI, pins, σ', H', cls, d, rfl, J, nb, (up.trans up3).trans up4, .inr (.inr (by rw [hs]; exact hh4)), na, os, ag, w⟩
        first
          | exact wpAny_bind (wpAny_pure (wpAny_bind fin))
          | exact wpAny_bind fin
      | @cons x n i c ts b₀ suite np pos' hds2 l2 hi hln hc hsu r ih =>
        intro w
        obtain ⟨b, hb1, hyes, hno⟩ := w
        have hloc : Loc X.env.scope n := .inl hln
        refine wpAny_handleBy_cons (codeAny_handlers_test ?_) (by intro q; cases q)
        have LT : PySem.W.Looks (model X.prog X.w) h3 (typeOf (.ref a)) cls := fun A Q E s k q => wpAny_typeOf_ref (k _ _ he3) (by rw [hz3.1]; exact q)
        have LM := PySem.W.exm_one (M := model X.prog X.w) (J3.kIn) LT hb1
        have test : ∀ {Q : Value → Shared → Prop} {E : Value → Shared → Prop}, Q c { s' with heap := h3 } → wpAny (model X.prog X.w) (X.A.mark (some (.ref a))) (eval (.Name x np) X.env) Q E { s' with heap := h3 } := fun {Q E} q => by
          obtain ⟨hg, hdbg, hm | ⟨hm, hv, hnn⟩⟩ := hc
          · exact ld_glob (X := X.suite a ((a, oe3) :: (X.pn ++ pins))) S3 hg hm q hdbg
          · exact ld_blt (X := X.suite a ((a, oe3) :: (X.pn ++ pins))) S3 hg hm hv q hnn hdbg
        refine test (LM.here ?_)
        cases b with
        | true =>
          refine codeAny_handlers_suite_as ?_
          refine HandSPX.lands_againZ fl3 fun h4 fl4 up4 => ?_
          have J4 : Inv X pins σ' H' { s' with heap := h4 } := J.landed nb fl4.1 ((up.trans up3).trans up4) os ag
          obtain ⟨oe4, vs4, he4, hz4, hd4⟩ := fl4.there
          have S4 := J4.suite he4 hd4 na nL nF
          refine store_ok (X := X.suite a ((a, oe4) :: (X.pn ++ pins))) (v := .ref a) S4 hN hi hloc rfl (fun s5 S5 => ?_) (.inr hln)
          refine wpAny_mono ((hsu a oe4 cls d (X.pn ++ pins) hz4 ⟨_, hd4⟩).run [] s5 _ H' _ S5 (hyes rfl a na)) (fun f s6 hsp => ?_) (fun _ _ z => False.elim z)
          have end_ : ∀ {σ6 : L2.St} {H6 : Hp} {Q : Shared → Prop}, L2.Inv (X.suite a ((a, oe4) :: (X.pn ++ pins))) [] σ6 H6 s6 → (∀ s7, L2.Inv X pins (σ6.set i none) H6 s7 → Q s7) →
              wpAny (model X.prog X.w) X.A (do bindName X.env n .none; unbindBehindTheSuite X.env n pos') (fun _ s7 => Q s7) X.xe s6 := fun {σ6 H6 Q} S6 hq => gone_ok (S6.unsuite ok) hN hi hln hq
          cases f with
          | next =>
            obtain ⟨σ6, H6, S6, q6⟩ := hsp
            exact end_ S6 fun s7 J7 => ⟨_, _, J7, q6⟩
          | brk =>
            obtain ⟨σ6, H6, S6, q6⟩ := hsp
            exact end_ S6 fun s7 J7 => ⟨_, _, J7, q6⟩
          | cont =>
            obtain ⟨σ6, H6, S6, q6⟩ := hsp
            exact end_ S6 fun s7 J7 => ⟨_, _, J7, q6⟩
          | ret u =>
            obtain ⟨v6, σ6, H6, S6, r6, q6⟩ := hsp
            exact end_ S6 fun s7 J7 => ⟨_, _, _, J7, r6, q6⟩
        | false =>
          show wpAny _ X.A (handleBy (.ref a) X.env hds2) _ _ _
          exact ih (hno rfl)
    exact go hh w
  · cases f with
    | next =>
      obtain ⟨σ', H', J', q⟩ := hsp
      exact wpAny_execs_nil ⟨σ', H', J'.ofTry ok, q⟩
    | brk =>
      obtain ⟨σ', H', J', q⟩ := hsp
      exact ⟨σ', H', J'.ofTry ok, q⟩
    | cont =>
      obtain ⟨σ', H', J', q⟩ := hsp
      exact ⟨σ', H', J'.ofTry ok, q⟩
    | ret u =>
      obtain ⟨v, σ', H', J', r, q⟩ := hsp
      exact ⟨v, σ', H', J'.ofTry ok, r, q⟩
/-- X() -/
theorem pmk_own0 {C : Addr} {bmB : List Value} {B newId initId : String} {x : Str} {p pos : Pos} (F : ExcBaseFacts B newId initId bmB) (q : PySem.W.excIn X.K C bmB newId = true) (gC : X.mg x = some (.ref C)) (kC : PySem.W.keepIn X.K (.ref C) = true) (r : Raises X (.ref C)) (hg : Gl X x := by rfl)
    (hdb : (x == ("__debug__" : Str)) = false := by decide) :
    PMk X (.Call (.Name x p) [] [] pos) (fun σ H Q => Q (.ref C) none H) := by
  intro pins s σ H Q I h
  refine wpAny_Call_Name_kw (ld_glob I hg gC ?_ hdb)
  refine PySem.W.callWith_K0 I.kIn kC ?_
  show wpAny _ _ (call (.ref C) []) _ _ _
  obtain ⟨bm, N, nm, qn, bs, hdct, sn, sub, ab, col, dd, k0, k1, k2, k3, k5, mN, hC, hN, hni, T⟩ := exc_obj I.kIn q
  refine wpAny_call_exc_subT F T hC hN hni (fun h' e hm => ?_) (by rw [sizeLine_eq]; decide)
  exact mk_of I hm r h (I.hok.gone hm.new)
end
end Tq
namespace Tq
open PySem L2 PySem.Spec PyProof.Rows
section
variable {X : Cx} {CX : CXT} {j k : Nat} {sp : Sp} {E : L2.St → XK} {x : Str} {p pos : Pos} {e : Expr} {es : List Expr} {t : TA}
def tDfS (sp : Sp) (E : L2.St → XK) (t : TA) : TE := fun σ H Q => t σ H fun vs H1 => sp vs H1 Q (E σ)
/-- f(e, ..) in a try's body, f a def of the top that may raise -/
theorem pe_dfS (c : Df X.prog X.w X.K X.mg X.base CX k x sp) (hq : Quiet X.A) (hr : Room j X.A) (hx : ∀ σ, PassesAt CX X σ (E σ)) (ha : PA X (e :: es) t)
    (hk : k ≤ j := by omega) (hg : Gl X x := by rfl) (hdb : (x == ("__debug__" : Str)) = false := by decide)
    (he : starEach (e :: es) X.env = (false, eval e X.env) :: starEach es X.env := by rfl) (hpl : (backTo pos (starEach es X.env)).any (·.1) = false := by rfl) :
    PE X (.Call (.Name x p) (e :: es) [] pos) (tDfS sp E t) := by
  obtain ⟨f, fd, ps, hm, hkp, hb, F⟩ := c.ex
  refine ⟨fun pins s σ H Q I h => ?_⟩
  refine wpAny_Call_Name_kw (ld_glob I hg hm ?_ hdb)
  refine PySem.W.callWith_K (h₀ := X.base) I.ok.mod.kin hkp (thn (ha.run pos pins s σ H _ I h) fun us s1 hh => ?_) he hpl
  obtain ⟨vs, H1, I1, r, q⟩ := hh
  refine ⟨I1.kIn, ?_⟩
  have hl : us.length = ps.length := by rw [← r.length]; exact F.len _ _ _ _ q
  have b := hb s1 us I1.kIn (by rw [List.append_nil]; exact hl)
  rw [List.append_nil] at b
  refine wpAny_call (codeAny_mono (F.run X.A X.stack s1 H1 ⟨us, []⟩ us vs Q (E σ) hq (hr.mono hk) I1.env0 b r q) fun r s' hq => ?_)
  cases r with
  | error e => exact hx σ pins H1 s1 e s' I1 hq
  | ok fl =>
    cases fl with
    | ret u => exact I1.after hq
    | next => exact hq.elim
    | brk => exact hq.elim
    | cont => exact hq.elim
end
/-- isinstance(e, c), e the exception that the suite holds: of the class D, without a dict -/
def rIsE2 (K : PySem.W.Frag) (cls : Value) (d : Option Addr) (a : Addr) : List V → Hp → VK → Prop := fun xs H Q => ∃ D, cls = .ref D ∧ d = none ∧ ExcC K D ∧ rIsE K D a xs H Q
theorem call_isE2 {X : Cx} {a : Addr} {oe : Obj} {pn : List (Addr × Obj)} {cls : Value} {d : Option Addr} (hz : Zc cls d oe) (hf : ∃ vs, oe.data = .fields vs) :
    CallR (X.suite a ((a, oe) :: pn)) (.builtin "isinstance") (rIsE2 X.K cls d a) := by
  intro pins s σ H xs us Q I r h
  obtain ⟨D, rfl, rfl, C, h⟩ := h
  exact call_isE C hz hf pins s σ H xs us Q I r h
end Tq

/-! ### Tq: places in a text, plain -/
namespace Tq
open PySem L2 PySem.Spec PyProof.Rows
open TL (joinL)
def rInDT (K : PySem.W.Frag) : R2 := fun x y H Q => ∃ d ds, Dp K H x d ∧ Dp K H y (.tuple ds) ∧ SeqAt.shaped d = true ∧ SeqAt.shaped (.tuple ds) = true ∧ Q (.bl (ds.any fun z => PyData.eqv z d)) H
theorem op_inDT {X : Cx} (hu : X.A.units + 65 < cLine) : OpR X (compareOp .In) (rInDT X.K) := by
  intro pins s σ H x y v u Q I rx ry h
  obtain ⟨d, ds, hd, he, sd, se, q⟩ := h
  obtain ⟨as, r1⟩ := Dp.reads I d x v hd rx
  obtain ⟨bs, r2⟩ := Dp.reads I (.tuple ds) y u he ry
  exact SeqAt.in_tuple_reads r2 r1 (SeqAt.canLay_of_shaped se) (SeqAt.canLay_of_shaped sd) (room_in_shaped sd hu) ⟨.bl _, H, I, rfl, q⟩
/-- the name of a datum's type -/
def tyN : PyData → String
  | .none => "NoneType"
  | .bool _ => "bool"
  | .int _ => "int"
  | .str _ => "str"
  | .list _ => "list"
  | .tuple _ => "tuple"
  | _ => "dict"
theorem sqL_ty {K : PySem.W.Frag} {H : Hp} {a : Addr} {xs : List V} (h : SqL K H a xs) : TyX K H (.ref a) (.type "list") := by
  rcases h with (h | ⟨o, h⟩) | ⟨o, _, _, h, c, _⟩
  · exact .base (.lst h)
  · exact .base (.frz h)
  · exact .kList h c
theorem sqT_ty {K : PySem.W.Frag} {H : Hp} {a : Addr} {xs : List V} (h : SqT K H a xs) : TyX K H (.ref a) (.type "tuple") := by
  rcases h with (h | ⟨o, h⟩) | ⟨o, _, _, h, c, _⟩
  · exact .base (.tup h)
  · exact .fTuple h
  · exact .kTuple h c
theorem dp_ty {K : PySem.W.Frag} {H : Hp} {v : V} {d : PyData} (h : Dp K H v d) : TyX K H v (.type (tyN d)) := by
  cases h with
  | non => exact .base .non
  | bl b => exact .base (.bl b)
  | int i => exact .base (.int i)
  | str x => exact .base (.str x)
  | lst h _ => exact sqL_ty h
  | tup h _ => exact sqT_ty h
def isI : PyData → Bool
  | .int _ => true
  | _ => false
def isB : PyData → Bool
  | .bool _ => true
  | _ => false
theorem dp_int {K : PySem.W.Frag} {H : Hp} {v : V} {d : PyData} (h : Dp K H v d) : PySem.W.kitOne K (.type (tyN d)) (.type "int") = some (isI d || isB d) := by
  cases h with
  | non => exact kit_ty (show kitB "NoneType" "int" = some false by decide +kernel)
  | bl _ => exact kit_ty (show kitB "bool" "int" = some true by decide +kernel)
  | int _ => exact kit_ty (show kitB "int" "int" = some true by decide +kernel)
  | str _ => exact kit_ty (show kitB "str" "int" = some false by decide +kernel)
  | lst _ _ => exact kit_ty (show kitB "list" "int" = some false by decide +kernel)
  | tup _ _ => exact kit_ty (show kitB "tuple" "int" = some false by decide +kernel)
theorem dp_bool {K : PySem.W.Frag} {H : Hp} {v : V} {d : PyData} (h : Dp K H v d) : PySem.W.kitOne K (.type (tyN d)) (.type "bool") = some (isB d) := by
  cases h with
  | non => exact kit_ty (show kitB "NoneType" "bool" = some false by decide +kernel)
  | bl _ => exact kit_ty (show kitB "bool" "bool" = some true by decide +kernel)
  | int _ => exact kit_ty (show kitB "int" "bool" = some false by decide +kernel)
  | str _ => exact kit_ty (show kitB "str" "bool" = some false by decide +kernel)
  | lst _ _ => exact kit_ty (show kitB "list" "bool" = some false by decide +kernel)
  | tup _ _ => exact kit_ty (show kitB "tuple" "bool" = some false by decide +kernel)
/-! lists -/
def stOf : List (List Nat) → Nat → Nat
  | _, 0 => 0
  | [], _ + 1 => 0
  | r :: R, k + 1 => r.length + 1 + stOf R k
theorem joinL_drop : ∀ (R : List (List Nat)) (i : Nat), i < R.length → (joinL [10] R).drop (stOf R i) = joinL [10] (R.drop i)
  | R, 0, _ => by simp [stOf]
  | [], i + 1, h => absurd h (by simp)
  | [p], i + 1, h => absurd h (by simp)
  | p :: q :: r, i + 1, h => by
    have h' : i < (q :: r).length := by simpa using h
    show (p ++ ([10] ++ joinL [10] (q :: r))).drop (p.length + 1 + stOf (q :: r) i) = joinL [10] ((q :: r).drop i)
    rw [← joinL_drop (q :: r) i h']
    have e : p ++ ([10] ++ joinL [10] (q :: r)) = (p ++ [10]) ++ joinL [10] (q :: r) := by simp
    have l : (p ++ [10]).length = p.length + 1 := by simp
    rw [e, ← List.drop_drop, ← l, List.drop_left]
theorem joinL_take : ∀ (R : List (List Nat)) (j d : Nat) (row : List Nat), R[j]? = some row → d ≤ row.length → (joinL [10] R).take (stOf R j + d) = joinL [10] (R.take j ++ [row.take d])
  | [], j, d, row, h, _ => by simp at h
  | [p], 0, d, row, h, hd => by
    have e : p = row := by simpa using h
    subst e
    simp [stOf, joinL]
  | [p], j + 1, d, row, h, hd => by simp at h
  | p :: q :: r, 0, d, row, h, hd => by
    have e : p = row := by simpa using h
    subst e
    show (p ++ ([10] ++ joinL [10] (q :: r))).take (0 + d) = p.take d
    rw [Nat.zero_add, List.take_append_of_le_length hd]
  | p :: q :: r, j + 1, d, row, h, hd => by
    have h' : (q :: r)[j]? = some row := by simpa using h
    have ih := joinL_take (q :: r) j d row h' hd
    show (p ++ ([10] ++ joinL [10] (q :: r))).take (p.length + 1 + stOf (q :: r) j + d) = _
    have e : p ++ ([10] ++ joinL [10] (q :: r)) = (p ++ [10]) ++ joinL [10] (q :: r) := by simp
    have l : p.length + 1 + stOf (q :: r) j + d = (p ++ [10]).length + (stOf (q :: r) j + d) := by simp; omega
    rw [e, l, List.take_length_add_append, ih]
    cases j with
    | zero =>
      simp [joinL]
    | succ j =>
      simp [joinL]
theorem joinL_first (b : Nat) (p : List Nat) (r : List (List Nat)) (h : b ≤ p.length) : (joinL [10] (p :: r)).drop b = joinL [10] (p.drop b :: r) := by
  cases r with
  | nil => rfl
  | cons q r => show (p ++ _).drop b = p.drop b ++ _; rw [List.drop_append_of_le_length h]
theorem stOf_add : ∀ (R : List (List Nat)) (i k : Nat), i + k ≤ R.length → stOf R (i + k) = stOf R i + stOf (R.drop i) k
  | R, 0, k, _ => by simp [stOf]
  | [], i + 1, k, h => by simp at h
  | r :: R, i + 1, k, h => by
    have h' : i + k ≤ R.length := by simp at h; omega
    rw [show i + 1 + k = (i + k) + 1 by omega]
    show r.length + 1 + stOf R (i + k) = r.length + 1 + stOf R i + stOf (R.drop i) k
    rw [stOf_add R i k h']
    omega
theorem stOf_step (R : List (List Nat)) (i : Nat) (row : List Nat) (h : R[i]? = some row) : stOf R (i + 1) = stOf R i + row.length + 1 := by
  have hl : i < R.length := (List.getElem?_eq_some_iff.mp h).1
  rw [stOf_add R i 1 hl]
  have : R.drop i = row :: R.drop (i + 1) := by rw [List.drop_eq_getElem_cons hl, (List.getElem?_eq_some_iff.mp h).2]
  rw [this]
  simp [stOf]
  omega
theorem stOf_mono (R : List (List Nat)) {i j : Nat} (h : i ≤ j) (hj : j ≤ R.length) : stOf R i ≤ stOf R j := by
  obtain ⟨k, rfl⟩ := Nat.le.dest h
  rw [stOf_add R i k hj]
  omega
/-- the text between two places, from the whole and from the rows -/
theorem seg_eq (R : List (List Nat)) (i j b d : Nat) (ri rj : List Nat) (hi : R[i]? = some ri) (hj : R[j]? = some rj) (hb : b ≤ ri.length) (hd : d ≤ rj.length) (hle : stOf R i + b ≤ stOf R j + d) (hij : i ≤ j) :
    ((joinL [10] R).drop (stOf R i + b)).take (stOf R j + d - (stOf R i + b)) = joinL [10] (match (R.drop i).take (j - i) ++ [rj.take d] with | [] => [] | p :: r => p.drop b :: r) := by
  have hil : i < R.length := (List.getElem?_eq_some_iff.mp hi).1
  have hjl : j < R.length := (List.getElem?_eq_some_iff.mp hj).1
  obtain ⟨k, rfl⟩ := Nat.le.dest hij
  have es : stOf R (i + k) = stOf R i + stOf (R.drop i) k := stOf_add R i k (Nat.le_of_lt hjl)
  have hj' : (R.drop i)[k]? = some rj := by rw [List.getElem?_drop]; exact hj
  have e1 : ((joinL [10] R).drop (stOf R i + b)).take (stOf R (i + k) + d - (stOf R i + b)) = (((joinL [10] R).drop (stOf R i)).take (stOf (R.drop i) k + d)).drop b := by
    rw [← List.drop_drop, List.drop_take]
    congr 1
    omega
  rw [e1, joinL_drop R i hil, joinL_take (R.drop i) k d rj hj' hd, Nat.add_sub_cancel_left]
  cases k with
  | zero =>
    have er : ri = rj := by rw [Nat.add_zero] at hj; exact Option.some.inj (hi.symm.trans hj)
    subst er
    rw [List.take_zero, List.nil_append]
    rw [joinL_first b _ _ (by rw [List.length_take]; rw [es] at hle; simp [stOf] at hle; omega)]
  | succ k =>
    have e2 : R.drop i = ri :: R.drop (i + 1) := by rw [List.drop_eq_getElem_cons hil, (List.getElem?_eq_some_iff.mp hi).2]
    rw [e2, List.take_succ_cons, List.cons_append, joinL_first b _ _ hb]
theorem seg_lt (R : List (List Nat)) (i j b d : Nat) (ri rj : List Nat) (hi : R[i]? = some ri) (hj : R[j]? = some rj) (hb : b ≤ ri.length) (hd : d ≤ rj.length) :
    (stOf R j + d < stOf R i + b) ↔ (j < i ∨ (j = i ∧ d < b)) := by
  have hil : i < R.length := (List.getElem?_eq_some_iff.mp hi).1
  have hjl : j < R.length := (List.getElem?_eq_some_iff.mp hj).1
  rcases Nat.lt_trichotomy j i with h | h | h
  · have s1 := stOf_step R j rj hj
    have s2 := stOf_mono R (show j + 1 ≤ i from h) (Nat.le_of_lt hil)
    omega
  · subst h
    omega
  · have s1 := stOf_step R i ri hi
    have s2 := stOf_mono R (show i + 1 ≤ j from h) (Nat.le_of_lt hjl)
    omega
/-! texts -/
theorem str_ext {a b : Str} (h : a.cps.toList = b.cps.toList) : a = b := by
  obtain ⟨x⟩ := a
  obtain ⟨y⟩ := b
  have : x = y := Array.toList_inj.mp h
  rw [this]
theorem str_len (z : Str) : z.cps.toList.length = z.length := by show _ = z.cps.size; simp
theorem tl_cut (z : Str) (b d : Nat) (hb : b ≤ z.length) (hd : d ≤ z.length) : (cutS z (some (b : Int)) (some (d : Int))).cps.toList = (z.cps.toList.drop b).take (d - b) := by
  unfold cutS
  rw [HT.sIx_nat, HT.sIx_nat, Nat.min_eq_left hb, Nat.min_eq_left hd]
theorem tl_from (z : Str) (b : Nat) (hb : b ≤ z.length) : (cutS z (some (b : Int)) none).cps.toList = z.cps.toList.drop b := by
  unfold cutS
  rw [HT.sIx_nat, Nat.min_eq_left hb]
  show (z.cps.toList.drop b).take (z.length - b) = _
  rw [List.take_of_length_le]
  rw [List.length_drop, str_len]
  exact Nat.le_refl _
theorem tl_to (z : Str) (d : Nat) (hd : d ≤ z.length) : (cutS z none (some (d : Int))).cps.toList = z.cps.toList.take d := by
  unfold cutS
  rw [HT.sIx_nat, Nat.min_eq_left hd]
  rfl
abbrev rowL (rows : List Str) : List (List Nat) := rows.map fun r => r.cps.toList
def partOf (rows : List Str) (i j : Nat) (rj : Str) (b d : Nat) : List Str := match (rows.drop i).take (j - i) ++ [cutS rj none (some (d : Int))] with
  | [] => []
  | p :: r => cutS p (some (b : Int)) none :: r
theorem join_tl (y : Str) (parts : List Str) : (Txt.join y parts).cps.toList = joinL y.cps.toList (parts.map fun r => r.cps.toList) := by
  rw [TL.join_eq]
  exact TL.tl_join y parts
theorem seg_text (rows : List Str) (i j b d : Nat) (ri rj : Str) (hi : rows[i]? = some ri) (hj : rows[j]? = some rj) (hb : b ≤ ri.length) (hd : d ≤ rj.length) (hle : stOf (rowL rows) i + b ≤ stOf (rowL rows) j + d) (hij : i ≤ j)
    (hl : stOf (rowL rows) j + d ≤ (Txt.join "\n" rows).length) :
    cutS (Txt.join "\n" rows) (some ((stOf (rowL rows) i + b : Nat) : Int)) (some ((stOf (rowL rows) j + d : Nat) : Int)) = Txt.join "\n" (partOf rows i j rj b d) := by
  apply str_ext
  rw [tl_cut _ _ _ (Nat.le_trans hle hl) hl, join_tl, join_tl]
  have hi' : (rowL rows)[i]? = some ri.cps.toList := by simp [rowL, hi]
  have hj' : (rowL rows)[j]? = some rj.cps.toList := by simp [rowL, hj]
  have key := seg_eq (rowL rows) i j b d ri.cps.toList rj.cps.toList hi' hj' (by rw [str_len]; exact hb) (by rw [str_len]; exact hd) hle hij
  refine Eq.trans key ?_
  show joinL [10] _ = joinL [10] _
  congr 1
  unfold partOf
  have e : ((rowL rows).drop i).take (j - i) = ((rows.drop i).take (j - i)).map fun r => r.cps.toList := by rw [List.map_take, List.map_drop]
  rw [e]
  cases h : (rows.drop i).take (j - i) with
  | nil =>
    have hij2 : i = j := by
      have hl2 := congrArg List.length h
      rw [List.length_take, List.length_drop] at hl2
      have := (List.getElem?_eq_some_iff.mp hj).1
      simp at hl2
      omega
    subst hij2
    have er : ri = rj := Option.some.inj (hi.symm.trans hj)
    subst er
    have hbd : b ≤ d := by omega
    show [List.drop b (ri.cps.toList.take d)] = [(cutS (cutS ri none (some (d : Int))) (some (b : Int)) none).cps.toList]
    have hz : (cutS ri none (some (d : Int))).length = d := by rw [← str_len, tl_to _ _ hd, List.length_take, str_len]; omega
    rw [tl_from _ _ (by rw [hz]; exact hbd), tl_to _ _ hd]
  | cons p r =>
    have ep : p = ri := by
      have h0 : ((rows.drop i).take (j - i))[0]? = some p := by rw [h]; rfl
      have hlt : 0 < j - i := by
        have hl2 := congrArg List.length h
        rw [List.length_take] at hl2
        simp at hl2
        omega
      rw [List.getElem?_take_of_lt hlt, List.getElem?_drop] at h0
      exact Option.some.inj (h0.symm.trans hi)
    subst ep
    show List.drop b p.cps.toList :: (r.map (fun r => r.cps.toList) ++ [rj.cps.toList.take d]) = (cutS p (some (b : Int)) none).cps.toList :: (r ++ [cutS rj none (some (d : Int))]).map fun r => r.cps.toList
    rw [tl_from _ _ hb, List.map_append, List.map_cons, List.map_nil, tl_to _ _ hd]
theorem joinL_len : ∀ (R : List (List Nat)), R ≠ [] → (joinL [10] R).length + 1 = stOf R R.length
  | [], h => absurd rfl h
  | [p], _ => by simp [joinL, stOf]
  | p :: q :: r, _ => by
    have ih := joinL_len (q :: r) (by simp)
    show (p ++ ([10] ++ joinL [10] (q :: r))).length + 1 = p.length + 1 + stOf (q :: r) (q :: r).length
    rw [← ih]
    simp
    omega
theorem seg_in (rows : List Str) (j d : Nat) (rj : Str) (hj : rows[j]? = some rj) (hd : d ≤ rj.length) : stOf (rowL rows) j + d ≤ (Txt.join "\n" rows).length := by
  have hl : j < rows.length := (List.getElem?_eq_some_iff.mp hj).1
  have hj' : (rowL rows)[j]? = some rj.cps.toList := by simp [rowL, hj]
  have s1 := stOf_step (rowL rows) j rj.cps.toList hj'
  have s2 := stOf_mono (rowL rows) (show j + 1 ≤ (rowL rows).length by simp [rowL]; exact hl) (Nat.le_refl _)
  have s3 := joinL_len (rowL rows) (fun e => by simp [rowL] at e; subst e; simp at hl)
  have s4 : (Txt.join "\n" rows).length = (joinL [10] (rowL rows)).length := by rw [← str_len, join_tl]; rfl
  rw [str_len] at s1
  omega
/-- line a, column b (as they are written) is a place of the rows -/
def isPl (rows : List Str) : PyData → PyData → Bool
  | .int a, .int b => decide (1 ≤ a) && (decide (a ≤ rows.length) && (decide (0 ≤ b) && decide (b ≤ ((rows[(a - 1).toNat]?).getD "").length)))
  | _, _ => false
def noneIn (ds : List PyData) : Bool := ds.any fun z => PyData.eqv z .none
/-- what source_segment answers: none: BadPlace -/
def segR (rows : List Str) (d0 d1 d2 d3 : PyData) : Option (Option Str) :=
  if noneIn [d0, d1, d2, d3] = true then some none
  else if (isPl rows d0 d1 && isPl rows d2 d3) = true then
    match d0, d1, d2, d3 with
    | .int a, .int b, .int c, .int d => if HT.lexLt [c, d] [a, b] = true then none else some (some (Txt.join "\n" (partOf rows (a - 1).toNat (c - 1).toNat ((rows[(c - 1).toNat]?).getD "") b.toNat d.toNat)))
    | _, _, _, _ => none
  else none
def dueR (rows : List Str) (d0 d1 d2 d3 : PyData) : Option (Option Str) :=
  if noneIn [d0, d1, d2, d3] = true then some none
  else if (isPl rows d0 d1 && isPl rows d2 d3) = true then
    match d0, d1, d2, d3 with
    | .int a, .int b, .int c, .int d => if ((stOf (rowL rows) (a - 1).toNat : Int) + b ≤ (stOf (rowL rows) (c - 1).toNat : Int) + d) then some (some (cutS (Txt.join "\n" rows) (some ((stOf (rowL rows) (a - 1).toNat : Int) + b)) (some ((stOf (rowL rows) (c - 1).toNat : Int) + d)))) else none
    | _, _, _, _ => none
  else none
theorem isPl_int {rows : List Str} {d1 d2 : PyData} (h : isPl rows d1 d2 = true) : ∃ (i b : Nat) (r : Str), d1 = .int ((i : Int) + 1) ∧ d2 = .int b ∧ rows[i]? = some r ∧ b ≤ r.length := by
  unfold isPl at h
  split at h
  · rename_i a b
    simp only [Bool.and_eq_true, decide_eq_true_eq] at h
    obtain ⟨h1, h2, h3, h4⟩ := h
    have hi : (a - 1).toNat < rows.length := by omega
    obtain ⟨r, hr⟩ : ∃ r, rows[(a - 1).toNat]? = some r := ⟨_, List.getElem?_eq_getElem hi⟩
    rw [hr] at h4
    refine ⟨(a - 1).toNat, b.toNat, r, ?_, ?_, hr, ?_⟩
    · congr 1; omega
    · congr 1; omega
    · have : ((some r).getD "").length = r.length := rfl
      rw [this] at h4
      omega
  · cases h
theorem due_seg (rows : List Str) (d0 d1 d2 d3 : PyData) : dueR rows d0 d1 d2 d3 = segR rows d0 d1 d2 d3 := by
  unfold dueR segR
  split
  · rfl
  · split
    · rename_i h
      obtain ⟨h1, h2⟩ := Bool.and_eq_true_iff.mp h
      obtain ⟨i, b, ri, rfl, rfl, hi, hb⟩ := isPl_int h1
      obtain ⟨j, d, rj, rfl, rfl, hj, hd⟩ := isPl_int h2
      have ei : ((i : Int) + 1 - 1).toNat = i := by omega
      have ej : ((j : Int) + 1 - 1).toNat = j := by omega
      have hi' : (rowL rows)[i]? = some ri.cps.toList := by simp [rowL, hi]
      have hj' : (rowL rows)[j]? = some rj.cps.toList := by simp [rowL, hj]
      have lt := seg_lt (rowL rows) i j b d ri.cps.toList rj.cps.toList hi' hj' (by rw [str_len]; exact hb) (by rw [str_len]; exact hd)
      simp only [ei, ej, Int.toNat_natCast, hj]
      have lx : HT.lexLt [((j : Int) + 1), (d : Int)] [((i : Int) + 1), (b : Int)] = decide (j < i ∨ (j = i ∧ d < b)) := by
        rw [HT.lexLt_cons]
        by_cases e : (j : Int) + 1 = (i : Int) + 1
        · rw [if_pos e, HT.lexLt_cons]
          by_cases e2 : (d : Int) = b
          · rw [if_pos e2]
            symm
            exact decide_eq_false (by omega)
          · rw [if_neg e2]
            exact decide_eq_decide.mpr (by omega)
        · rw [if_neg e]
          exact decide_eq_decide.mpr (by omega)
      rw [lx]
      by_cases q : j < i ∨ (j = i ∧ d < b)
      · rw [if_neg (by have := lt.mpr q; omega), if_pos (decide_eq_true q)]
      · have q2 : stOf (rowL rows) i + b ≤ stOf (rowL rows) j + d := by
          have := fun z => q (lt.mp z)
          omega
        rw [if_pos (by omega), if_neg (by simpa using q)]
        congr 2
        have key := seg_text rows i j b d ri rj hi hj hb hd q2 (by omega) (seg_in rows j d rj hj hd)
        exact key
    · rfl
/-- the answers as data -/
def ansD : Option (Option Str) → PyData
  | none => .tuple [.str "place", .bool true]
  | some none => .tuple [.str "told", .none]
  | some (some s) => .tuple [.str "told", .str s]
end Tq
namespace Tq
open PySem L2 PySem.Spec PyProof.Rows
theorem hu65 {k : Nat} {A : Around} (r : Room k A) : A.units + 65 < cLine := by have := r.un; omega
/-- the classes of the law of segments -/
structure Cl57 (K : PySem.W.Frag) (mg : Str → Option Value) (C CP CN TE : Addr) : Prop where
  nd : NdC K C
  gN : mg "Node" = some (.ref C)
  ha : PySem.W.findIn K (.ref C) "__class__" = some (some (.builtin "object.__class__"))
  hn : PySem.W.specialIn K (.builtin "object.__class__") "__get__" = some (some (.builtin "getset_descriptor.__get__"))
  htk : PySem.W.takesIn K (.builtin "object.__class__") = some true
  hm : PySem.W.mroIn K C (.type "object") = some true
  kc : (PySem.W.clsIn K C).isSome = true
  ty : PySem.W.typeIn K (.ref C) = some (.type "type")
  kp : Kl K mg "BadPlace" CP TE
  kn : Kl K mg "BadNode" CN TE
  te : Tq.KT K mg TE
  qp : PySem.W.excIn K CP [.type "ValueError", .type "Exception", .type "BaseException", .type "object"] "ValueError.__new__" = true
  qn : PySem.W.excIn K CN [.type "ValueError", .type "Exception", .type "BaseException", .type "object"] "ValueError.__new__" = true
theorem Cl57.isN {K : PySem.W.Frag} {mg : Str → Option Value} {C CP CN TE : Addr} (T : Cl57 K mg C CP CN TE) {H : Hp} {x dx : Addr} {fs : List (Str × V)} (h : H x = some (.ins C dx fs)) : TyX K H (.ref x) (.ref C) := .base (.ins h T.nd.cls T.ha T.hn T.htk T.hm)
theorem Cl57.kitN {K : PySem.W.Frag} {mg : Str → Option Value} {C CP CN TE : Addr} (T : Cl57 K mg C CP CN TE) : PySem.W.kitOne K (.ref C) (.ref C) = some true := by
  unfold PySem.W.kitOne
  rw [if_pos (beq_self_eq_true _)]
theorem Cl57.no {K : PySem.W.Frag} {mg : Str → Option Value} {C CP CN TE : Addr} (T : Cl57 K mg C CP CN TE) {t : String} (hm : ((PySem.fastBuiltinMro t).map fun m => m.all fun v => match v with | .ref _ => false | _ => true) = some true) : PySem.W.kitOne K (.type t) (.ref C) = some false := by
  unfold PySem.W.kitOne
  rw [if_neg (by simp)]
  show PySem.W.kitCls K (.type t) (.ref C) = _
  unfold PySem.W.kitCls
  simp only [T.kc, T.ty]
  rw [if_pos (by decide)]
  show (PySem.fastBuiltinMro t).map (·.contains (Value.ref C)) = some false
  obtain ⟨m, e1, e2⟩ := Option.map_eq_some_iff.mp hm
  rw [e1]
  show some (m.contains (Value.ref C)) = some false
  congr 1
  rw [← Bool.not_eq_true, List.contains_iff_mem]
  intro hmem
  have := List.all_eq_true.mp e2 _ hmem
  cases this
theorem Cl57.dpNo {K : PySem.W.Frag} {mg : Str → Option Value} {C CP CN TE : Addr} (T : Cl57 K mg C CP CN TE) {H : Hp} {v : V} {d : PyData} (h : Dp K H v d) : PySem.W.kitOne K (.type (tyN d)) (.ref C) = some false := by
  cases h with
  | non => exact T.no (t := "NoneType") (by decide +kernel)
  | bl _ => exact T.no (t := "bool") (by decide +kernel)
  | int _ => exact T.no (t := "int") (by decide +kernel)
  | str _ => exact T.no (t := "str") (by decide +kernel)
  | lst _ _ => exact T.no (t := "list") (by decide +kernel)
  | tup _ _ => exact T.no (t := "tuple") (by decide +kernel)
/-- is_integer -/
def spInt (K : PySem.W.Frag) : Sp := fun vs H Q _ => ∃ v d, vs = [v] ∧ Dp K H v d ∧ Q (.bl (isI d)) H
/-- is_place -/
def spPlace (K : PySem.W.Frag) : Sp := fun vs H Q _ => ∃ p v1 v2 rows d1 d2, vs = [.ref p, v1, v2] ∧ SqL K H p (rows.map V.str) ∧ Dp K H v1 d1 ∧ Dp K H v2 d2 ∧ (∀ r ∈ rows, r.length ≤ sizeLine) ∧ Q (.bl (isPl rows d1 d2)) H
/-- checked_node -/
def spChk (K : PySem.W.Frag) (C CN : Addr) : Sp := fun vs H Q E => ∃ v, vs = [v] ∧ ((∃ x dx fs, v = .ref x ∧ H x = some (.ins C dx fs) ∧ Q v H) ∨ (∃ ty, TyX K H v ty ∧ PySem.W.kitOne K ty (.ref C) = some false ∧ E (.ref CN) none H))
/-- place_of -/
def spPlaceOf (C : Addr) : Sp := fun vs H Q _ => ∃ x dx kd hh v0 v1 v2 v3, vs = [.ref x] ∧ H x = some (.ins C dx (ndF kd hh v0 v1 v2 v3)) ∧ ∀ p, H p = none → Q (.ref p) (upd H p (.tup [v0, v1, v2, v3]))
/-- source_segment -/
def spSeg (K : PySem.W.Frag) (C CP CN : Addr) : Sp := fun vs H Q E => ∃ tx v rows, vs = [.str tx, v] ∧ Txt.split tx "\n" = rows ∧ tx.length + 2 ≤ sizeLine ∧ rows.length ≤ 100 ∧ (∀ r ∈ rows, r.length ≤ 100) ∧
  ((∃ ty, TyX K H v ty ∧ PySem.W.kitOne K ty (.ref C) = some false ∧ E (.ref CN) none H) ∨
   (∃ x dx kd hh v0 v1 v2 v3 d0 d1 d2 d3, v = .ref x ∧ H x = some (.ins C dx (ndF kd hh v0 v1 v2 v3)) ∧ Dp K H v0 d0 ∧ Dp K H v1 d1 ∧ Dp K H v2 d2 ∧ Dp K H v3 d3 ∧ SeqAt.shaped (.tuple [d0, d1, d2, d3]) = true ∧
     (segR rows d0 d1 d2 d3 = none → ∀ H', Same H H' → E (.ref CP) none H') ∧ (segR rows d0 d1 d2 d3 = some none → ∀ H', Same H H' → Q .non H') ∧ (∀ s, segR rows d0 d1 d2 d3 = some (some s) → ∀ H', Same H H' → Q (.str s) H')))
end Tq
namespace Tq
open PySem L2 PySem.Spec PyProof.Rows
theorem ixN_last {n : Nat} : ixN (n + 1) (-1) = some n := by
  unfold ixN
  rw [if_neg (by omega)]
  split
  · congr 1
    omega
  · omega
theorem atI_last {α : Type} (xs : List α) (y : α) : atI (xs ++ [y]) (-1) = some y := by
  unfold atI
  rw [List.length_append, List.length_singleton, ixN_last]
  simp
theorem set_last {α : Type} (xs : List α) (y z : α) : (xs ++ [y]).set xs.length z = xs ++ [z] := by
  rw [List.set_append_right _ _ (Nat.le_refl _)]
  simp
theorem cutV_rows (rows : List Str) (i j : Nat) (rj : Str) (hj : rows[j]? = some rj) (hij : i ≤ j) : cutV (rows.map V.str) (some ((i : Int) + 1 - 1)) (some ((j : Int) + 1)) = ((rows.drop i).take (j - i) ++ [rj]).map V.str := by
  have hl : j < rows.length := (List.getElem?_eq_some_iff.mp hj).1
  unfold cutV
  have e1 : (i : Int) + 1 - 1 = (i : Nat) := by omega
  have e2 : (j : Int) + 1 = ((j + 1 : Nat) : Int) := by omega
  rw [e1, e2, HT.sIx_nat, HT.sIx_nat, List.length_map, Nat.min_eq_left (by omega), Nat.min_eq_left (by omega), ← List.map_drop, ← List.map_take]
  congr 1
  rw [show j + 1 - i = (j - i) + 1 by omega, List.take_add_one, List.getElem?_drop, show i + (j - i) = j by omega, hj]
  rfl
theorem sum_le {ys : List Str} {m : Nat} (h : ∀ r ∈ ys, r.length ≤ m) : (ys.map (·.length)).sum ≤ ys.length * m := by
  induction ys with
  | nil => simp
  | cons y ys ih =>
    have h1 := h y (.head _)
    have h2 := ih fun r hr => h r (.tail _ hr)
    rw [List.map_cons, List.sum_cons, List.length_cons, Nat.add_mul]
    omega
end Tq
namespace Tq
open PySem L2 PySem.Spec PyProof.Rows
/-- _law_due -/
def spDue (K : PySem.W.Frag) : Sp := fun vs H Q _ => ∃ p q rows v0 v1 v2 v3 d0 d1 d2 d3, vs = [.ref p, .ref q] ∧ SqL K H p (rows.map V.str) ∧ SqL K H q [v0, v1, v2, v3] ∧ Dp K H v0 d0 ∧ Dp K H v1 d1 ∧ Dp K H v2 d2 ∧ Dp K H v3 d3 ∧
  SeqAt.shaped (.list [d0, d1, d2, d3]) = true ∧ rows.length ≤ 100 ∧ (∀ r ∈ rows, r.length ≤ 100) ∧
  ∀ a H', Same H H' → Dp K H' (.ref a) (ansD (dueR rows d0 d1 d2 d3)) → Q (.ref a) H'
/-- _law_node -/
def spNode57 (t : Tb) (C : Addr) : Sp := fun vs H Q _ => ∃ z rows f l v0 v1 v2 v3, vs = [.str z, .ref f, .ref l] ∧ t.rows z = some rows ∧ H f = some (.tup [v0, v1]) ∧ H l = some (.tup [v2, v3]) ∧
  ∀ x dx hh H', Same H H' → H x = none → H' x = some (.ins C dx (ndF (.str z) hh v0 v1 v2 v3)) → Q (.ref x) H'
/-- _law_tried -/
def spTried (K : PySem.W.Frag) (C : Addr) : Sp := fun vs H Q _ => ∃ tx v rows, vs = [.str tx, v] ∧ Txt.split tx "\n" = rows ∧ tx.length + 2 ≤ sizeLine ∧ rows.length ≤ 100 ∧ (∀ r ∈ rows, r.length ≤ 100) ∧
  ((∃ ty, TyX K H v ty ∧ PySem.W.kitOne K ty (.ref C) = some false ∧ ∀ a H', Same H H' → Dp K H' (.ref a) (.tuple [.str "node", .bool true]) → Q (.ref a) H') ∨
   (∃ x dx kd hh v0 v1 v2 v3 d0 d1 d2 d3, v = .ref x ∧ H x = some (.ins C dx (ndF kd hh v0 v1 v2 v3)) ∧ Dp K H v0 d0 ∧ Dp K H v1 d1 ∧ Dp K H v2 d2 ∧ Dp K H v3 d3 ∧ SeqAt.shaped (.tuple [d0, d1, d2, d3]) = true ∧
     ∀ a H', Same H H' → Dp K H' (.ref a) (ansD (segR rows d0 d1 d2 d3)) → Q (.ref a) H'))
end Tq
namespace Tq
open PySem L2 PySem.Spec PyProof.Rows
theorem ty_same {K : PySem.W.Frag} {H H' : Hp} {v : V} {t : Value} (e : Same H H') (h : TyX K H v t) : TyX K H' v t := by
  cases h with
  | base b =>
    cases b with
    | non => exact .base .non
    | bl b => exact .base (.bl b)
    | int b => exact .base (.int b)
    | str b => exact .base (.str b)
    | flt b => exact .base (.flt b)
    | lst h => exact .base (.lst (e _ _ h))
    | frz h => exact .base (.frz (e _ _ h))
    | tup h => exact .base (.tup (e _ _ h))
    | dK h => exact .base (.dK (e _ _ h))
    | dT h => exact .base (.dT (e _ _ h))
    | ins h a b c d f => exact .base (.ins (e _ _ h) a b c d f)
  | byt b => exact .byt b
  | set h => exact .set (e _ _ h)
  | kList h c => exact .kList h c
  | kTuple h c => exact .kTuple h c
  | kDict h c => exact .kDict h c
  | fTuple h => exact .fTuple (e _ _ h)
  | fDict h => exact .fDict (e _ _ h)
theorem Kl.sub_other {K : PySem.W.Frag} {mg : Str → Option Value} {x y : Str} {C D TE : Addr} (T : Kl K mg x C TE) (U : Kl K mg y D TE) (h : x ≠ y) (hD : D ≠ TE) : PySem.W.subIn K (.ref C) (.ref D) = some false := by
  rw [T.sub]
  have ne := T.ne U h
  simp [List.contains_cons, Ne.symm ne, hD]
theorem Kl.exm_other {K : PySem.W.Frag} {mg : Str → Option Value} {x y : Str} {C D TE : Addr} (T : Kl K mg x C TE) (U : Kl K mg y D TE) (h : x ≠ y) (hD : D ≠ TE) : PySem.W.exmOne K (.ref C) (.ref D) = some false :=
  PySem.W.exm_ref U.ec.hs U.ec.hd U.ty (T.sub_other U h hD)
theorem Kl.exm_own {K : PySem.W.Frag} {mg : Str → Option Value} {x : Str} {C TE : Addr} (T : Kl K mg x C TE) : PySem.W.exmOne K (.ref C) (.ref C) = some true :=
  PySem.W.exm_ref T.ec.hs T.ec.hd T.ty (by rw [T.sub]; simp [List.contains_cons])
theorem dp_pair {K : PySem.W.Frag} {H : Hp} {p : Addr} {v1 v2 : V} {d1 d2 : PyData} (hp : H p = none) (h1 : Dp K H v1 d1) (h2 : Dp K H v2 d2) : Dp K (upd H p (.tup [v1, v2])) (.ref p) (.tuple [d1, d2]) :=
  .tup (.inl (.inl upd_same)) (.cons (dp_same (same_new hp) _ _ h1) (.cons (dp_same (same_new hp) _ _ h2) .nil))
end Tq
namespace Tq
open PySem L2 PySem.Spec PyProof.Rows
/-- _law_is_spot -/
def spSpotQ (K : PySem.W.Frag) : Sp := fun vs H Q _ => ∃ p v1 v2 rows d1 d2, vs = [.ref p, v1, v2] ∧ SqL K H p (rows.map V.str) ∧ Dp K H v1 d1 ∧ Dp K H v2 d2 ∧ (∀ r ∈ rows, r.length ≤ sizeLine) ∧ ∀ H', Same H H' → Q (.bl (isPl rows d1 d2)) H'
theorem stOf_le {m : Nat} : ∀ (R : List (List Nat)), (∀ r ∈ R, r.length ≤ m) → ∀ k, stOf R k ≤ R.length * (m + 1)
  | R, _, 0 => by cases R <;> exact Nat.zero_le _
  | [], _, k + 1 => Nat.zero_le _
  | r :: R, h, k + 1 => by
    have h1 := h r (.head _)
    have h2 := stOf_le R (fun x hx => h x (.tail _ hx)) k
    show r.length + 1 + stOf R k ≤ (R.length + 1) * (m + 1)
    rw [Nat.add_mul]
    omega
theorem join_len_le {rows : List Str} {m : Nat} (h0 : rows ≠ []) (h : ∀ r ∈ rows, r.length ≤ m) : (Txt.join "\n" rows).length ≤ rows.length * (m + 1) := by
  have s3 := joinL_len (rowL rows) (fun e => h0 (by simpa [rowL] using e))
  have s4 : (Txt.join "\n" rows).length = (TL.joinL [10] (rowL rows)).length := by rw [← str_len, join_tl]; rfl
  have s5 := stOf_le (m := m) (rowL rows) (fun r hr => by
    obtain ⟨x, hx, rfl⟩ := List.mem_map.mp hr
    rw [str_len]
    exact h x hx) (rowL rows).length
  have : (rowL rows).length = rows.length := List.length_map ..
  rw [this] at s5 s3
  omega
end Tq

/-! ### Tq: drawn texts -/
namespace Tq
open PySem L2 PySem.Spec PyProof.Rows
/-- _law_pick of a text -/
def spPickS : Sp := fun vs H Q _ => ∃ (a l : Addr) (z : Str) (c : Nat), vs = [.ref a, .str z] ∧ c < 4000000 ∧ Strm H a l c ∧ 0 < z.length ∧ z.length < 1000000 ∧
  ∀ (x : Nat) (H' : Hp), x ∈ z.cps.toList → Strm H' a l (c + 1) → Nx a l H H' → Q (.str ⟨#[x]⟩) H'
/-- _law_text -/
def spText : Sp := fun vs H Q _ => ∃ (a l : Addr) (c : Nat), vs = [.ref a] ∧ c < 3000000 ∧ Strm H a l c ∧
  ∀ (rows : List Str) (H' : Hp), rows ≠ [] → rows.length ≤ 5 → (∀ r ∈ rows, r.length ≤ 8 ∧ ∀ x ∈ r.cps.toList, x ≠ 10 ∧ x < 1000) → Strm H' a l (c + 50) → Nx a l H H' → Q (.str (Txt.join "\n" rows)) H'
theorem joinE_mem : ∀ (R : List (List Nat)) (x : Nat), x ∈ TL.joinL [] R → ∃ r ∈ R, x ∈ r
  | [], x, h => nomatch h
  | [p], x, h => ⟨p, .head _, h⟩
  | p :: q :: r, x, h => by
    rcases List.mem_append.mp (show x ∈ p ++ ([] ++ TL.joinL [] (q :: r)) from h) with h | h
    · exact ⟨p, .head _, h⟩
    · obtain ⟨y, hy, hx⟩ := joinE_mem (q :: r) x h
      exact ⟨y, .tail _ hy, hx⟩
theorem joinE_len : ∀ (R : List (List Nat)), (TL.joinL [] R).length = (R.map List.length).sum
  | [] => rfl
  | [p] => by simp [TL.joinL]
  | p :: q :: r => by
    show (p ++ ([] ++ TL.joinL [] (q :: r))).length = _
    rw [List.nil_append, List.length_append, joinE_len (q :: r)]
    simp
theorem ones {cs : List Nat} : (cs.map fun x => ([x] : List Nat).length).sum = cs.length := by
  induction cs with
  | nil => rfl
  | cons c cs ih => rw [List.map_cons, List.sum_cons, ih]; simp; omega
/-- a text of drawn signs -/
theorem join_signs (cs : List Nat) : (Txt.join "" (cs.map fun x => (⟨#[x]⟩ : Str))).length = cs.length ∧ ∀ x ∈ (Txt.join "" (cs.map fun x => (⟨#[x]⟩ : Str))).cps.toList, x ∈ cs := by
  have e : (Txt.join "" (cs.map fun x => (⟨#[x]⟩ : Str))).cps.toList = TL.joinL [] (cs.map fun x => [x]) := by
    rw [join_tl, List.map_map]
    rfl
  constructor
  · rw [← str_len, e, joinE_len, List.map_map]
    exact ones
  · intro x hx
    rw [e] at hx
    obtain ⟨r, hr, hx⟩ := joinE_mem _ x hx
    obtain ⟨y, hy, rfl⟩ := List.mem_map.mp hr
    rw [List.mem_singleton.mp hx]
    exact hy
theorem split_rows {rows : List Str} (hne : rows ≠ []) (h : ∀ r ∈ rows, 10 ∉ r.cps.toList) : Txt.split (Txt.join "\n" rows) "\n" = rows :=
  TL.split_join (y := "\n") (s := 10) (S := []) rfl (by decide +kernel) hne h
end Tq
namespace Tq
open PySem L2 PySem.Spec PyProof.Rows
theorem small_len {i : Int} (h : (-1 ≤ i ∧ i ≤ 20) ∨ (1000000000 ≤ i ∧ i ≤ 1000000020)) : i.natAbs.log2 < 1920 ∧ (toString i : Str).length ≤ 60 := by
  have a1 : ∀ k : Fin 22, ((k : Int) - 1).natAbs.log2 < 1920 ∧ (toString ((k : Int) - 1) : Str).length ≤ 60 := by decide +kernel
  have a2 : ∀ k : Fin 21, ((k : Int) + 1000000000).natAbs.log2 < 1920 ∧ (toString ((k : Int) + 1000000000) : Str).length ≤ 60 := by decide +kernel
  rcases h with ⟨h1, h2⟩ | ⟨h1, h2⟩
  · have := a1 ⟨(i + 1).toNat, by omega⟩
    rw [show (((⟨(i + 1).toNat, by omega⟩ : Fin 22) : Nat) : Int) - 1 = i by show ((i + 1).toNat : Int) - 1 = i; omega] at this
    exact this
  · have := a2 ⟨(i - 1000000000).toNat, by omega⟩
    rw [show (((⟨(i - 1000000000).toNat, by omega⟩ : Fin 21) : Nat) : Int) + 1000000000 = i by show ((i - 1000000000).toNat : Int) + 1000000000 = i; omega] at this
    exact this
theorem rep_small {K : PySem.W.Frag} {H : Hp} {i : Int} {n : Nat} (h : (-1 ≤ i ∧ i ≤ 20) ∨ (1000000000 ≤ i ∧ i ≤ 1000000020)) : Rep K H (.int i) n 60 := rep_int (small_len h).1 (small_len h).2
/-- a small plain datum -/
def Gd (K : PySem.W.Frag) (H : Hp) (v : V) : Prop := ∃ d, Dp K H v d ∧ Plain d 2 60 ∧ d.canLay0 = true
theorem Gd.same {K : PySem.W.Frag} {H H' : Hp} {v : V} (e : Same H H') (h : Gd K H v) : Gd K H' v := let ⟨d, h1, h2⟩ := h; ⟨d, dp_same e d v h1, h2⟩
theorem gd_int {K : PySem.W.Frag} {H : Hp} {i : Int} (h : (-1 ≤ i ∧ i ≤ 20) ∨ (1000000000 ≤ i ∧ i ≤ 1000000020)) : Gd K H (.int i) := by
  obtain ⟨a, b⟩ := small_len h
  exact ⟨.int i, .int i, ⟨decide_eq_true a, rfl, Nat.zero_le _, b⟩, rfl⟩
theorem gd_non {K : PySem.W.Frag} {H : Hp} : Gd K H .non := ⟨.none, .non, ⟨rfl, rfl, Nat.zero_le _, by decide⟩, rfl⟩
theorem gd_bl {K : PySem.W.Frag} {H : Hp} (b : Bool) : Gd K H (.bl b) := ⟨.bool b, .bl b, ⟨rfl, rfl, Nat.zero_le _, by cases b <;> decide⟩, rfl⟩
theorem gd_tup {K : PySem.W.Frag} {H : Hp} {p : Addr} {i : Int} (hp : H p = some (.tup [.int i])) (hi : i = 0 ∨ i = 1) : Gd K H (.ref p) := by
  refine ⟨.tuple [.int i], .tup (.inl (.inl hp)) (.cons (.int i) .nil), ?_, rfl⟩
  rcases hi with rfl | rfl
  · exact ⟨by decide +kernel, rfl, by decide +kernel, by decide +kernel⟩
  · exact ⟨by decide +kernel, rfl, by decide +kernel, by decide +kernel⟩
theorem gd_lst {K : PySem.W.Frag} {H : Hp} {p : Addr} {i : Int} (hp : H p = some (.lst [.int i])) (hi : i = 0 ∨ i = 1) : Gd K H (.ref p) := by
  refine ⟨.list [.int i], .lst (SqL.of hp) (.cons (.int i) .nil), ?_, rfl⟩
  rcases hi with rfl | rfl
  · exact ⟨by decide +kernel, rfl, by decide +kernel, by decide +kernel⟩
  · exact ⟨by decide +kernel, rfl, by decide +kernel, by decide +kernel⟩
theorem gd_str {K : PySem.W.Frag} {H : Hp} {z : Str} (h : z = "0" ∨ z = "1") : Gd K H (.str z) := by
  rcases h with rfl | rfl
  · exact ⟨.str "0", .str _, ⟨rfl, rfl, Nat.zero_le _, by decide +kernel⟩, by decide +kernel⟩
  · exact ⟨.str "1", .str _, ⟨rfl, rfl, Nat.zero_le _, by decide +kernel⟩, by decide +kernel⟩
/-- _law_spot -/
def spSpot (K : PySem.W.Frag) : Sp := fun vs H Q _ => ∃ (a l p : Addr) (c : Nat) (rows : List Str), vs = [.ref a, .ref p] ∧ c < 3000000 ∧ Strm H a l c ∧ SqL K (off a l H) p (rows.map V.str) ∧ rows ≠ [] ∧ rows.length ≤ 5 ∧ (∀ r ∈ rows, r.length ≤ 8) ∧
  ∀ (q : Addr) (v1 v2 : V) (H' : Hp), off a l H' q = some (.tup [v1, v2]) → Gd K (off a l H') v1 → Gd K (off a l H') v2 → Strm H' a l (c + 5) → Nx a l H H' → Q (.ref q) H'
theorem joinN_mem : ∀ (R : List (List Nat)) (x : Nat), x ∈ TL.joinL [10] R → x = 10 ∨ ∃ r ∈ R, x ∈ r
  | [], x, h => nomatch h
  | [p], x, h => .inr ⟨p, .head _, h⟩
  | p :: q :: r, x, h => by
    rcases List.mem_append.mp (show x ∈ p ++ ([10] ++ TL.joinL [10] (q :: r)) from h) with h | h
    · exact .inr ⟨p, .head _, h⟩
    · rcases List.mem_append.mp h with h | h
      · exact .inl (List.mem_singleton.mp h)
      · rcases joinN_mem (q :: r) x h with h | ⟨y, hy, hx⟩
        · exact .inl h
        · exact .inr ⟨y, .tail _ hy, hx⟩
/-- the answers of small rows are plain -/
theorem ans_plain {rows : List Str} {d0 d1 d2 d3 : PyData} (hne : rows ≠ []) (hl : rows.length ≤ 5) (h : ∀ r ∈ rows, r.length ≤ 8 ∧ ∀ x ∈ r.cps.toList, x ≠ 10 ∧ x < 1000) : Plain (ansD (dueR rows d0 d1 d2 d3)) 2 1000 := by
  have hj : ∀ x ∈ (Txt.join "\n" rows).cps.toList, x < 1000 := fun x hx => by
    rw [join_tl] at hx
    rcases joinN_mem _ x hx with e | ⟨r, hr, hx⟩
    · rw [e]; decide
    · obtain ⟨y, hy, rfl⟩ := List.mem_map.mp hr
      exact ((h y hy).2 x hx).2
  have hlen := join_len_le hne (fun r hr => (h r hr).1)
  have hs : ∀ s, dueR rows d0 d1 d2 d3 = some (some s) → (reprText s).length ≤ 900 := fun s e => by
    unfold dueR at e
    split at e
    · cases e
    · split at e
      · split at e
        · split at e
          · have e' := Option.some.inj (Option.some.inj e)
            rw [← e']
            refine Nat.le_trans (PySem.StrLaws.reprText_len _ fun c hc => ?_) ?_
            · have hc' : c ∈ (Txt.join "\n" rows).cps.toList := by
                unfold cutS at hc
                exact List.mem_of_mem_drop (List.mem_of_mem_take hc)
              exact Nat.lt_of_lt_of_le (hj c hc') (by decide)
            · have h45 : rows.length * 9 ≤ 45 := Nat.mul_le_mul_right 9 hl
              refine Nat.le_trans (Nat.add_le_add_right (Nat.mul_le_mul_left 10 (Nat.le_trans (cutS_length _ _ _) (Nat.le_trans hlen h45))) 2) (by decide)
          · cases e
        · cases e
      · cases e
  cases e : dueR rows d0 d1 d2 d3 with
  | none => exact ⟨by decide +kernel, rfl, by decide +kernel, by decide +kernel⟩
  | some o =>
    cases o with
    | none => exact ⟨by decide +kernel, rfl, by decide +kernel, by decide +kernel⟩
    | some s =>
      have hr : Plain (.str s) 1 900 := ⟨rfl, rfl, Nat.zero_le _, hs s e⟩
      have ht : Plain (.str "told") 1 10 := ⟨rfl, rfl, Nat.zero_le _, by decide +kernel⟩
      exact (plain_tuple (PlainAll.cons ht (PlainAll.cons hr (PlainAll.nil (m := 0))))).mono (Nat.le_refl _) (by decide)
theorem gd_pair {K : PySem.W.Frag} {H : Hp} {q : Addr} {u v : V} (hq : H q = some (.tup [u, v])) (h1 : Gd K H u) (h2 : Gd K H v) : ∃ d, Dp K H (.ref q) d ∧ Plain d 3 200 := by
  obtain ⟨d1, a1, b1, _⟩ := h1
  obtain ⟨d2, a2, b2, _⟩ := h2
  exact ⟨.tuple [d1, d2], .tup (.inl (.inl hq)) (.cons a1 (.cons a2 .nil)), (plain_tuple (PlainAll.cons b1 (PlainAll.cons b2 (PlainAll.nil (m := 0))))).mono (Nat.le_refl _) (by decide)⟩
theorem Plain.shown {d : PyData} {n m : Nat} (h : Plain d n m) (hm : m ≤ 1000) : d.shown.length ≤ sizeLine := Nat.le_trans (shown_le d h.nd) (Nat.le_trans h.tx (Nat.le_trans hm (by decide)))
theorem shaped4 {d0 d1 d2 d3 : PyData} {m : Nat} (h0 : Plain d0 2 m) (h1 : Plain d1 2 m) (h2 : Plain d2 2 m) (h3 : Plain d3 2 m) (c0 : d0.canLay0 = true) (c1 : d1.canLay0 = true) (c2 : d2.canLay0 = true) (c3 : d3.canLay0 = true) :
    SeqAt.shaped (.tuple [d0, d1, d2, d3]) = true ∧ SeqAt.shaped (.list [d0, d1, d2, d3]) = true := by
  have hc : PyData.canLayAll0 [d0, d1, d2, d3] = true := by simp [PyData.canLayAll0, c0, c1, c2, c3]
  have hd : PyData.depthAll [d0, d1, d2, d3] ≤ 2 := by
    have := h0.dp
    have := h1.dp
    have := h2.dp
    have := h3.dp
    simp only [PyData.depthAll]
    omega
  constructor
  · unfold SeqAt.shaped
    simp only [PyData.canLay0, hc, PyData.depth, Bool.true_and]
    exact decide_eq_true (by omega)
  · unfold SeqAt.shaped
    simp only [PyData.canLay0, hc, PyData.depth, Bool.true_and]
    exact decide_eq_true (by omega)
end Tq

/-! ### Tq: the tables of kinds read off a text, and what is asked of them as one check -/
namespace Tq
open PySem L2
def txOf : Expr → Option Str
  | .Constant (.str s) _ _ => some s
  | _ => none
def tupOf (defs : List (Str × List Str)) : Expr → List Str
  | .Tuple es _ _ => es.filterMap txOf
  | .Name x _ => (defs.lookup x).getD []
  | _ => []
def dictRows (defs : List (Str × List Str)) : Stmt → List (Str × List Str)
  | .Assign _ (.Dict ks vs _) _ => (ks.zip vs).filterMap fun p => match p.1 with
    | some e => (txOf e).map fun k => (k, tupOf defs p.2)
    | none => none
  | _ => []
def nameRows : Stmt → Str × List Str
  | .Assign [.Name x _] e _ => (x, tupOf [] e)
  | _ => ("", [])
def rowB (r : Str) : Bool := decide (Txt.split r " " = [rowN r, rowW r]) && (decide (r.length + 2 ≤ sizeLine) && ((atI (rowW r).cps.toList (-1)).isSome && decide ((rowW r).length ≤ sizeLine)))
def nodupB : List Str → Bool
  | [] => true
  | x :: xs => !xs.contains x && nodupB xs
theorem nodupB_ok : ∀ {l : List Str}, nodupB l = true → l.Nodup
  | [], _ => List.nodup_nil
  | x :: xs, h => by
    obtain ⟨h1, h2⟩ := Bool.and_eq_true_iff.mp (show (!xs.contains x && nodupB xs) = true from h)
    refine List.nodup_cons.mpr ⟨fun hm => ?_, nodupB_ok h2⟩
    rw [List.contains_iff_mem.mpr hm] at h1
    cases h1
def rowsB (rows : List Str) : Bool := rows.all rowB && (nodupB (rows.map rowN) && (rows.all (fun r => !places.contains (rowN r)) && decide (rows.length ≤ 1000)))
def tabB (tb : List (Str × List Str)) : Bool := tb.all fun p => rowsB p.2
def tbB (t : Tb) : Bool := tabB t.st && (tabB t.ex && (tabB t.pa && (tabB t.pr && (tabB t.pl && (decide (t.rows "Load" = some []) && (nodupB (t.gr.map (·.1)) && decide (t.gr.length ≤ 1000)))))))
theorem rowsB_ok {rows : List Str} (h : rowsB rows = true) : (∀ r ∈ rows, RowOk r) ∧ (rows.map rowN).Nodup ∧ (∀ r ∈ rows, rowN r ∉ places) ∧ rows.length ≤ 1000 := by
  unfold rowsB at h
  simp only [Bool.and_eq_true, decide_eq_true_eq, List.all_eq_true] at h
  obtain ⟨h1, h2, h3, h4⟩ := h
  refine ⟨fun r hr => ?_, nodupB_ok h2, fun r hr hm => ?_, h4⟩
  · have := h1 r hr
    unfold rowB at this
    simp only [Bool.and_eq_true, decide_eq_true_eq] at this
    exact ⟨this.1, this.2.1, this.2.2.1, this.2.2.2⟩
  · have := h3 r hr
    rw [List.contains_iff_mem.mpr hm] at this
    cases this
theorem tabB_ok {tb : List (Str × List Str)} (h : tabB tb = true) {z : Str} {rows : List Str} (e : tb.lookup z = some rows) : rowsB rows = true := by
  unfold tabB at h
  rw [List.all_eq_true] at h
  have key : ∀ {l : List (Str × List Str)}, l.lookup z = some rows → (z, rows) ∈ l := by
    intro l
    induction l with
    | nil => intro q; cases q
    | cons p l ih =>
      intro q
      obtain ⟨k, v⟩ := p
      simp only [List.lookup] at q
      split at q
      · rename_i hk
        have : z = k := by simpa using hk
        subst this
        cases q
        exact .head _
      · exact .tail _ (ih q)
  exact h _ (key e)
theorem tbB_ok {t : Tb} (h : tbB t = true) : TbOk t := by
  unfold tbB at h
  simp only [Bool.and_eq_true, decide_eq_true_eq] at h
  obtain ⟨h1, h2, h3, h4, h5, h6, h7, h8⟩ := h
  refine ⟨fun z rows e => rowsB_ok ?_, h6, nodupB_ok h7, h8⟩
  unfold Tb.rows at e
  split at e
  · rename_i r q; cases e; exact tabB_ok h1 q
  · split at e
    · rename_i r q; cases e; exact tabB_ok h2 q
    · split at e
      · rename_i r q; cases e; exact tabB_ok h3 q
      · split at e
        · rename_i r q; cases e; exact tabB_ok h4 q
        · split at e
          · rename_i r q; cases e; exact tabB_ok h5 q
          · split at e
            · cases e; decide
            · cases e
end Tq

/-! ### x[k] and x[k] = v by a class's own methods; d.update(e) -/
namespace Tq
open PySem L2 PySem.Spec PyProof.Rows
/-- a method of the class C, packed -/
structure Mth (P : Program) (w : World) (K : PySem.W.Frag) (mg : Str → Option Value) (base : Heap) (CX : CXT) (k : Nat) (C : Addr) (x : Str) (sp : Sp) : Prop where
  ex : ∃ (f : Addr) (fd : FuncData) (ps : List Str), PySem.W.findIn K (.ref C) x = some (some (.ref f)) ∧ PySem.W.fnIn K f = true ∧ PySem.W.isFn K (.ref f) = true ∧ Binds K fd ps [] ∧ FnG P w K mg base CX k f fd ps sp
section
variable {X : Cx} {CX : CXT} {j k : Nat} {sp : Sp} {E : XK} {C : Addr} {pos : Pos} {a b : Expr} {ta tb : TE}
theorem run_in1 {pins : List (Addr × Obj)} {σ : L2.St} {H : Hp} {s : Shared} {Q : VK} {us : List Value} {vs : List V} {f : Addr} {fd : FuncData} {ps : List Str} {A : Around}
    (F : FnG X.prog X.w X.K X.mg X.base CX k f fd ps sp) (sb : Sub X k A) (hq : Quiet A) (hb : Binds X.K fd ps []) (hx : Passes CX X E)
    (I : Inv X pins σ H s) (r : Vals vs us) (h : sp vs H Q E) : wpAny (model X.prog X.w) A (call (.ref f) us) (EP X pins σ Q) X.xe s := by
  have hl : us.length = ps.length := by rw [← r.length]; exact F.len _ _ _ _ h
  have hb2 := hb s us I.kIn (by rw [List.append_nil]; exact hl)
  rw [List.append_nil] at hb2
  have e0 : Env0 X.prog X.w X.K X.mg X.base A X.stack s H := by
    have e := I.env0
    exact ⟨by rw [sb.fr]; exact e.frames, e.mod, e.bs, e.bsz, e.funs, e.frf, e.hok, e.bare⟩
  refine wpAny_call (codeAny_mono (F.run A X.stack s H ⟨us, []⟩ us vs Q E hq sb.room e0 hb2 r h) fun r s' hq => ?_)
  cases r with
  | error e => exact hx pins σ H s e s' I hq
  | ok fl =>
    cases fl with
    | ret u => exact I.after hq
    | next => exact hq.elim
    | brk => exact hq.elim
    | cont => exact hq.elim
/-- x[y] by the class's own __getitem__ -/
def rOwn (C : Addr) (sp : Sp) (E : XK) : R2 := fun x y H Q => (∃ p dx fs, x = .ref p ∧ H p = some (.ins C dx fs)) ∧ sp [x, y] H Q E
theorem pe_own (M : Mth X.prog X.w X.K X.mg X.base CX k C "__getitem__" sp) (hq : Quiet X.A) (hr : Room j X.A) (hx : Passes CX X E) (ha : PE X a ta) (hb : PE X b tb) (hkj : k + 1 ≤ j := by omega)
    (hsl : ∀ v u, subscripted b true v u = runValue (.builtin "lifetime.subscript" ⟨[v, u], []⟩) := by intro _ _; with_unfolding_all rfl) :
    PE X (.Subscript a b pos) (tOp (rOwn C sp E) ta tb) := by
  obtain ⟨f, fd, ps, hs, hf, hfn, hbi, F⟩ := M.ex
  refine ⟨fun pins s σ H Q I h => ?_⟩
  refine Subscript_ (binT ha hb I h fun v u s2 x y H2 I2 rx ry q => ?_)
  obtain ⟨⟨p, dx, fs, rfl, hp⟩, q⟩ := q
  cases rx
  obtain ⟨mA, J, _⟩ := ins_get I2.hok hp
  obtain ⟨od, J, _⟩ := J.look
  have sb : Sub X k X.A.in1 := Sub.in1 ⟨hr.mono hkj, rfl⟩
  have run := run_in1 F sb (show X.A.in1.guards = some [] from hq) hbi hx I2 (.cons rfl (.cons ry .nil) : Vals [V.ref p, y] [Value.ref p, u]) q
  unfold PySem.W.fnIn at hf
  split at hf
  · rename_i e
    have e2 : wpAny (model X.prog X.w) X.A (runValue (.builtin "lifetime.subscript" ⟨[Value.ref p, u], []⟩)) (EP X pins σ Q) X.xe s2 :=
      wpAny_runValue (codeAny_builtin PySem.W.entry_sub (by
        unfold Builtin.«lifetime.subscript»
        exact wpAny_bind (PySem.W.special_fn I2.kIn J hs (beq_iff_eq.mp hfn) (wpAny_mono run (fun _ _ z => wpAny_pure z) fun _ _ z => z))))
    unfold subscriptTail getitemInPython
    refine wpAny_bind (wpAny_bind (wpAny_bind (J.type.here ((PySem.W.looks_findIn I2.kIn hs).here (wpAny_bind (wpAny_load (I2.kIn _ _ e) (wpAny_pure ?_)))))))
    dsimp only
    rw [hsl]
    exact wpAny_bind (wpAny_mono e2 (fun r s3 z => wpAny_bind (wpAny_letTemporaryGo (wpAny_pure z))) fun _ _ z => z)
  · cases hf
end
section
variable {X : Cx}
/-- d.update(e), both dicts with names or ints for keys -/
def rUpd : V → List V → Hp → VK → Prop := fun x xs H Q => ∃ (d o : Addr) (kvs more : List (Key × V)), x = .ref d ∧ xs = [.ref o] ∧ H d = some (.dK kvs) ∧ H o = some (.dK more) ∧ d ≠ o ∧ kvs.length + more.length ≤ 1000000 ∧ Q .non (upd H d (.dK (mergeK kvs more)))
theorem mt_update : MtR X "dict.update" rUpd := by
  intro pins s σ H x xs v us Q I rx rs h
  obtain ⟨d, o, kvs, more, rfl, rfl, e1, e2, hne, hz, q⟩ := h
  cases rx
  rw [Vals.ref1 rs]
  obtain ⟨_, hd, vs, r1, d1⟩ := dk_of I.hok e1
  obtain ⟨_, ho, ws, r2, d2⟩ := dk_of I.hok e2
  have l1 : vs.length + ws.length ≤ sizeLine := by
    have a1 := Paired.length r1
    have a2 := Paired.length r2
    rw [sizeLine_eq]
    omega
  refine call_meetsIn PySem.F.slot_dict_update d1.typeIs PySem.F.entry_dict_update (PySem.F.args_dict_update_2 _ _) (meets_dict_update (mixKind X.prog X.w) d o hne ho) ⟨vs, ws, d1, d2, l1, fun h' dd' _ hs => ⟨.non, _, ?_, rfl, q⟩⟩
  have hz2 : (mergeK kvs more).length ≤ sizeLine := by
    have h1 := length_mergeK more kvs
    rw [sizeLine_eq]
    omega
  have he : ∃ q, h'.get? d = some q := let ⟨q, _, _, hq, _⟩ := dd'; ⟨q, hq⟩
  exact d_write I (by rw [e1]; exact True.intro) hs he (dk_new hz2 hd (r2.merge r1) dd')
end
end Tq

/-! ### sorted(d) of a dict with any number of names -/
namespace Tq
open PySem L2 PySem.Spec PyProof.Rows SrtO Srt
def sv : Value → List Nat
  | .str x _ => x.cps.toList
  | _ => []
def ltSv (v u : Value) : Bool := decide (sv v < sv u)
theorem swo_str : Swo ltSv := by
  refine ⟨fun x y h => ?_, fun x y z h1 h2 => ?_⟩
  · have a := of_decide_eq_true (p := sv x < sv y) h
    exact decide_eq_false fun b => List.lt_irrefl _ (List.lt_trans a b)
  · have a := of_decide_eq_false (p := sv y < sv x) h1
    have b := of_decide_eq_false (p := sv z < sv y) h2
    exact decide_eq_false fun c => a (List.lt_of_le_of_lt (List.not_lt.mp b) c)
theorem strs_mem : ∀ {vs : List Value} {ks : List Str}, StrsAre vs ks → ∀ v ∈ vs, ∃ x t, v = Value.str x t
  | _, _, .nil, v, h => absurd h (by simp)
  | _, _, .cons n t r, v, h => by
    rcases List.mem_cons.mp h with e | h
    · exact ⟨n, t, e⟩
    · exact strs_mem r v h
def sx : Value → Str
  | .str x _ => x
  | _ => ""
theorem strs_sx : ∀ {vs : List Value}, (∀ v ∈ vs, ∃ x t, v = Value.str x t) → StrsAre vs (vs.map sx)
  | [], _ => .nil
  | v :: vs, h => by
    obtain ⟨i, t, e⟩ := h v List.mem_cons_self
    subst e
    exact .cons i t (strs_sx fun u hu => h u (List.mem_cons_of_mem _ hu))
theorem sx_strs : ∀ {vs : List Value} {ks : List Str}, StrsAre vs ks → vs.map sx = ks
  | _, _, .nil => rfl
  | _, _, .cons n t r => congrArg (n :: ·) (sx_strs r)
section
variable {prog : Program} {w : World} {A : Around} {s : Shared}
theorem str_cmp {vs : List Value} {ks : List Str} (hI : StrsAre vs ks) : SrtO.Cmp prog w A s oneType' (fun p => p.1 ∈ vs) (lt2 ltSv) := by
  intro p q hm hm'
  obtain ⟨a, t, e⟩ := strs_mem hI _ hm
  obtain ⟨b, u, e'⟩ := strs_mem hI _ hm'
  show wpAny (model prog w) A (keyLt' oneType' p.1 q.1) (fun r s' => s' = s ∧ r = ltSv p.1 q.1) (fun _ _ => False) s
  rw [e, e', keyLt'_oneType]
  exact oneLt_str ⟨rfl, rfl⟩
theorem strs_sortable {a : Addr} {vs : List Value} {ks : List Str} (hI : StrsAre vs ks) (h2 : 2 ≤ vs.length) : SortableO prog w A s a vs ltSv := by
  intro h' _
  refine ⟨oneType', fun Q E hq => ?_, str_cmp hI⟩
  match vs, hI, h2 with
  | v1 :: v2 :: rest, hI, _ =>
    rw [keyKind_strs hI]
    exact wpAny_pure hq
  | [], _, h => exact absurd h (by decide)
  | [v], _, h => exact absurd h (by simp)
end
section
variable {X : Cx}
def rSortD : List V → Hp → VK → Prop := fun xs H Q => ∃ (a : Addr) (kvs : List (Key × V)) (ks : List Str), xs = [.ref a] ∧ Rd H a (.dK kvs) ∧ kvs.map (·.1) = ks.map Sum.inr ∧ ks.length ≤ 1000 ∧
    ∀ (ys : List Str) (p : Addr), ys.Perm ks → H p = none → Q (.ref p) (upd H p (.lst (ys.map V.str)))
theorem call_sortedDA (hcalm : X.calm = true) : CallR X (.builtin "sorted") rSortD := by
  intro pins s σ H xs us Q I r q
  obtain ⟨a, kvs, ks, ex, hd, hks, h1000, q⟩ := q
  subst ex
  obtain ⟨u, eu, rx⟩ := vals1 r
  subst eu
  cases rx
  obtain ⟨z, lo, vs, rel, dd⟩ := dk_rd I.hok hd
  obtain ⟨ep, hat⟩ := dd.dictAt
  have hkeys : vs.map (·.1) = ks.map Sum.inr := rel.keys.symm.trans hks
  have hl : vs.length = ks.length := by simpa using congrArg List.length hkeys
  have hsz : ks.length ≤ sizeLine := Nat.le_trans h1000 (by decide)
  refine Calls.call_function_entry kind_sorted plain_sorted entry_sorted (args_sorted1 _) ?_
  unfold Builtin.«sorted»
  refine wpAny_bind (m := checkCount "sorted" 1 1 _) (wpAny_pure (wpAny_bind (PySem.W.kdu_collect (A := X.A.in1) (PySem.W.kdl_dict (knd := mixKind X.prog X.w) (kvs := vs) (ep := ep) lo) (I.ok.hd hcalm) hat (by rw [hl]; exact hsz) fun h' tk acc hk hacc => ?_)))
  have hal : acc.toList.length = ks.length := by rw [Array.length_toList, hacc.1, hl]
  have hS : StrsAre acc.toList ks := strs_at hal fun j v e => by
    obtain ⟨k, x, e1, e2⟩ := hacc.2 j v (by rw [← Array.getElem?_toList]; exact e)
    have e3 : (vs.map (·.1))[j]? = some k := by rw [List.getElem?_map, e1]; all_goals rfl
    rw [hkeys, List.getElem?_map] at e3
    obtain ⟨y, e4, e5⟩ := Option.map_eq_some_iff.mp e3
    subst e5
    obtain ⟨t, ev⟩ := Value.isStrOf_shape (x := y) (v := v) e2
    exact ⟨y, t, e4, ev⟩
  have I1 : Inv X pins σ H { s with heap := h', toks := tk } := I.kept hk
  refine wpAny_bind (wpAny_newList ?_ (by rw [hal]; exact hsz))
  have hoL : (h'.push (seqObj "list" acc.toList.toArray 0)).get? h'.objs.size = some (seqObj "list" acc.toList.toArray 0) := Heap.get?_push_size _ rfl
  show wpAny _ _ _ _ _ { s with heap := h'.push (seqObj "list" acc.toList.toArray 0), toks := tk }
  refine wpAny_bind (wpAny_holding (wpAny_call_entry slot_list_sort ⟨_, hoL, rfl⟩ entry_list_sort
    (SrtO.list_sort_ord (s := { s with heap := h'.push (seqObj "list" acc.toList.toArray 0), toks := tk }) swo_str hoL (by rw [hal]; exact hsz) (fun h2 => strs_sortable hS h2) fun out h1 h2 => ⟨_, rfl, ?_⟩) (args_list_sort _)))
  have g0 : ∀ v ∈ out, ∃ x t, v = Value.str x t := fun v hv => strs_mem hS v (h2.perm.mem_iff.mp hv)
  have g1 : StrsAre out (out.map sx) := strs_sx g0
  have g2 : (out.map sx).Perm ks := by
    have p := h2.perm.map sx
    rw [sx_strs hS] at p
    exact p
  obtain ⟨e', he'⟩ := sortedHeap_at (vs := acc.toList) (out := out.toArray) hoL
  have hlen : ((out.map sx).map V.str).length ≤ sizeLine := by
    rw [List.length_map, g2.length_eq]
    exact hsz
  refine wpAny_pure ⟨_, rfl, .ref h'.objs.size, upd H h'.objs.size (.lst ((out.map sx).map V.str)), I1.laid (t' := tk) (fun b u e => ?_) (Nat.le_refl _)
    (show ObjOk X.prog X.w _ _ _ (.lst ((out.map sx).map V.str)) from ⟨hlen, out, e', vals_of_strs g1, he'⟩), rfl, q _ _ g2 (I1.hok.fresh (Nat.le_refl _))⟩
  have hb : b < h'.objs.size := Heap.lt_size e
  rw [sortedHeap_old (Nat.ne_of_lt hb) (by rw [size_push']; exact Nat.lt_succ_of_lt hb)]
  exact Heap.get?_push_of_some _ e
end
end Tq

/-! ### a node made in a try's body; code that is never reached -/
namespace Tq
open PySem L2 PySem.Spec PyProof.Rows
theorem pss_dead {X : Cx} {b : List Stmt} : PSs X b (fun _ _ _ => False) := ⟨fun _ _ _ _ _ _ h => h.elim⟩
def tMakeS (C : Addr) (sp : Sp) (E : L2.St → XK) (t : TA) : TE := fun σ H Q => t σ H fun vs H1 => ∃ v rest, vs = v :: rest ∧ rest.length ≤ sizeLine ∧
  ∀ x dx p d, H1 x = none → H1 dx = none → dx ≠ x → H1 p = none → H1 d = none → p ≠ x → p ≠ dx → d ≠ x → d ≠ dx → d ≠ p →
    sp [V.ref x, v, V.ref p, V.ref d] (upd (upd (upd (upd H1 dx (.own x)) x (.ins C dx [])) p (.tup rest)) d (.dK (kdOf [] []))) (fun v H3 => v = .non ∧ Q (.ref x) H3) (E σ)
section
variable {X : Cx} {CX : CXT} {j k : Nat} {f C : Addr} {sp : Sp} {E : L2.St → XK} {x p1 p2 : Str} {p pos : Pos} {e : Expr} {es : List Expr} {t : TA}
theorem run_makeS {pins : List (Addr × Obj)} {σ : L2.St} {H : Hp} {s : Shared} {Q : VK} {rus : List Value} {v : V} {u : Value} {rest : List V} (M : Mk X.K C f) (F : FnKw X.prog X.w X.K X.mg X.base CX k f [p1, p2] sp) (hq : Quiet X.A) (hr : Room (k + 1) X.A)
    (hx : PassesAt CX X σ (E σ)) (I : Inv X pins σ H s) (ru : RelV v u) (rr : Vals rest rus) (l1 : rest.length ≤ sizeLine)
    (h : ∀ x dx p d, H x = none → H dx = none → dx ≠ x → H p = none → H d = none → p ≠ x → p ≠ dx → d ≠ x → d ≠ dx → d ≠ p →
      sp [V.ref x, v, V.ref p, V.ref d] (upd (upd (upd (upd H dx (.own x)) x (.ins C dx [])) p (.tup rest)) d (.dK (kdOf [] []))) (fun v H3 => v = .non ∧ Q (.ref x) H3) (E σ)) :
    wpAny (model X.prog X.w) X.A (call (.ref C) (u :: rus) []) (EP X pins σ Q) X.xe s := by
  have hq0 := h (s.heap.objs.size + 1) s.heap.objs.size
  have I2 := Inv.made (C := C) I
  refine wpAny_call (make_map (f := f) I.kIn M.makes M.init (beq_iff_eq.mp M.fn) (codeAny_mono (F.run _ X.stack _ _ [Value.ref (s.heap.objs.size + 1), u] rus [] [V.ref (s.heap.objs.size + 1), v] rest [] [] (fun v H3 => v = .non ∧ Q (.ref (s.heap.objs.size + 1)) H3) (E σ) ?_ (hr.make C (u :: rus) [])
    (I2.env0.make C (u :: rus) []) (.cons rfl (.cons ru .nil)) rr .nil rfl l1 rfl (Nat.zero_le _) List.nodup_nil (fun _ z => nomatch z) fun p d hp hd hne => ?_) fun r s' hq' => ?_))
  · have hg : (Code.builtin "type.__call__" ⟨Value.ref C :: u :: rus, []⟩).guards = [] := by simp [Code.guards, Code.isGuard, guardIds]
    show (X.A.under _).guards = some []
    unfold Around.under
    dsimp only
    rw [hg]
    exact hq
  · have nx : p ≠ s.heap.objs.size + 1 := fun e => by subst e; rw [upd_same] at hp; cases hp
    have ndx : p ≠ s.heap.objs.size := fun e => by subst e; rw [upd_ne nx, upd_same] at hp; cases hp
    have dx : d ≠ s.heap.objs.size + 1 := fun e => by subst e; rw [upd_same] at hd; cases hd
    have ddx : d ≠ s.heap.objs.size := fun e => by subst e; rw [upd_ne dx, upd_same] at hd; cases hd
    rw [upd_ne nx, upd_ne ndx] at hp
    rw [upd_ne dx, upd_ne ddx] at hd
    exact hq0 p d (I.hok.fresh (Nat.le_succ _)) (I.hok.fresh (Nat.le_refl _)) (Nat.ne_of_lt (Nat.lt_succ_self _)) hp hd nx ndx dx ddx hne
  · cases r with
    | error e => exact hx pins _ _ e s' I2 hq'
    | ok fl =>
      cases fl with
      | ret u =>
        obtain ⟨v, H', I3, rv, ev, q3⟩ := I2.after hq'
        subst ev
        exact ⟨rv, ⟨V.ref (s.heap.objs.size + 1), H', I3, rfl, q3⟩⟩
      | next => exact False.elim hq'
      | brk => exact False.elim hq'
      | cont => exact False.elim hq'
/-- C(e, ..) in a try's body, where __init__ may raise -/
theorem pe_makeS (M : Nd X.prog X.w X.K X.mg X.base CX k x C p1 p2 sp) (hq : Quiet X.A) (hr : Room j X.A) (hx : ∀ σ, PassesAt CX X σ (E σ)) (ha : PA X (e :: es) t)
    (hkj : k + 1 ≤ j := by omega) (hg : Gl X x := by rfl)
    (hdb : (x == ("__debug__" : Str)) = false := by decide) (he : starEach (e :: es) X.env = (false, eval e X.env) :: starEach es X.env := by rfl)
    (hpl : (backTo pos (starEach es X.env)).any (·.1) = false := by rfl) :
    PE X (.Call (.Name x p) (e :: es) [] pos) (tMakeS C sp E t) := by
  obtain ⟨f, mk, F⟩ := M.ex
  refine ⟨fun pins s σ H Q I h => ?_⟩
  refine wpAny_Call_Name_kw (ld_glob I hg M.mg ?_ hdb)
  refine PySem.W.callWith_K (h₀ := X.base) I.ok.mod.kin mk.kp (thn (ha.run pos pins s σ H _ I h) fun us s1 ⟨vs, H1, I1, r, q⟩ => ⟨I1.kIn, ?_⟩) he hpl
  obtain ⟨v, rest, ev, l1, q2⟩ := q
  subst ev
  cases r with
  | cons ru rr => exact run_makeS mk F hq (hr.mono hkj) (hx σ) I1 ru rr l1 q2
end
end Tq

/-! ### dicts of texts by texts, written out and joined -/
namespace Tq
open PySem L2 PySem.Spec PyProof.Rows
def kvT (T : List (Str × Str)) : List (Key × V) := T.map fun r => (Sum.inr r.1, V.str r.2)
theorem kvT_keys (T : List (Str × Str)) : (kvT T).map (·.1) = (T.map (·.1)).map Sum.inr := by
  unfold kvT
  rw [List.map_map, List.map_map]
  rfl
theorem kvT_nd {T : List (Str × Str)} (h : (T.map (·.1)).Nodup) : ((kvT T).map (·.1)).Nodup := by
  rw [kvT_keys]
  exact List.Pairwise.map Sum.inr (fun _ _ h e => h (Sum.inr.inj e)) h
theorem kvT_app (A B : List (Str × Str)) : kvT (A ++ B) = kvT A ++ kvT B := List.map_append
theorem disp_to {trs : List (TE × TE)} {σ : L2.St} {H : Hp} {Q : VK} (c : List (Str × Str)) (hp : ∀ H1 Q', Q' ((kvT c).map fun kv => (kV kv.1, kv.2)) H1 → tPairs trs σ H1 Q') (hn : (c.map (·.1)).Nodup) (hl : c.length ≤ 15)
    (k : ∀ p H', H p = none → Same H H' → H' p = some (.dK (kvT c)) → Q (.ref p) H') : tDisp trs σ H Q := by
  intro p hp0
  refine hp _ _ ⟨upd_same, kvT c, rfl, by rw [kvT, List.length_map]; exact hl, ?_⟩
  have e : mergeK [] (kvT c) = kvT c := by rw [mergeK_new (by rw [List.nil_append]; exact kvT_nd hn), List.nil_append]
  rw [e]
  refine k p _ hp0 (fun b o h => ?_) upd_same
  have ne : b ≠ p := fun q => by rw [q, hp0] at h; cases h
  rw [upd_ne ne, upd_ne ne]
  exact h
/-- what has been written of the dict d so far -/
structure Wr (H H1 : Hp) (d : Addr) (T : List (Str × Str)) : Prop where
  sm : Same H H1
  new : H d = none
  at_ : H1 d = some (.dK (kvT T))
theorem upd_to {K : PySem.W.Frag} {trs : List (TE × TE)} {D : Ends} {σ : L2.St} {H H1 : Hp} {d : Addr} {T : List (Str × Str)} {to : TE} (W : Wr H H1 d T) (c : List (Str × Str)) (ho : ∀ Q : VK, Q (.ref d) H1 → to σ H1 Q)
    (hp : ∀ H1 Q', Q' ((kvT c).map fun kv => (kV kv.1, kv.2)) H1 → tPairs trs σ H1 Q') (hn : ((T ++ c).map (·.1)).Nodup) (hl : c.length ≤ 15) (hT : T.length ≤ 1000)
    (k : ∀ H', Wr H H' d (T ++ c) → D.nx σ H') : tDrop (tBM K "dict" rUpd to (tCons (tDisp trs) tNil)) D σ H1 := by
  refine ho _ ⟨.inr (.inr (.inl ⟨rfl, .inl ⟨_, W.at_⟩⟩)), disp_to c hp ?_ hl fun p H2 hp0 sm hp2 => ?_⟩
  · rw [List.map_append] at hn
    exact (List.nodup_append.mp hn).2.1
  have hdp : d ≠ p := fun e => by
    have := W.at_
    rw [e, hp0] at this
    cases this
  have hd2 := sm d _ W.at_
  refine ⟨d, p, kvT T, kvT c, rfl, rfl, hd2, hp2, hdp, ?_, ?_⟩
  · rw [kvT, kvT, List.length_map, List.length_map]
    omega
  · rw [mergeK_new (by rw [← kvT_app]; exact kvT_nd hn), ← kvT_app]
    refine k _ ⟨fun b o h => ?_, W.new, upd_same⟩
    rw [upd_ne (fun q => by have := W.new; rw [← q, h] at this; cases this)]
    exact sm b o (W.sm b o h)
theorem set_c {v : V} {i : Nat} {R : TS} {D : Ends} {σ : L2.St} {H : Hp} (h : R D (σ.set i (some v)) H) : tSeq (tAsg (tC v) (gName i)) R D σ H := h
theorem disp_seq {trs : List (TE × TE)} {i : Nat} {R : TS} {D : Ends} {σ : L2.St} {H : Hp} (c : List (Str × Str)) (hp : ∀ H1 Q', Q' ((kvT c).map fun kv => (kV kv.1, kv.2)) H1 → tPairs trs σ H1 Q') (hn : (c.map (·.1)).Nodup) (hl : c.length ≤ 15)
    (k : ∀ p H', Wr H H' p c → R D (σ.set i (some (.ref p))) H') : tSeq (tAsg (tDisp trs) (gName i)) R D σ H :=
  disp_to (Q := fun x H1 => gName i x σ H1 (R D)) c hp hn hl fun p H' h1 h2 h3 => k p H' ⟨h2, h1, h3⟩
theorem upd_seq {K : PySem.W.Frag} {trs : List (TE × TE)} {R : TS} {D : Ends} {σ : L2.St} {H H1 : Hp} {d : Addr} {T : List (Str × Str)} {to : TE} (W : Wr H H1 d T) (c : List (Str × Str)) (ho : ∀ Q : VK, Q (.ref d) H1 → to σ H1 Q)
    (hp : ∀ H1 Q', Q' ((kvT c).map fun kv => (kV kv.1, kv.2)) H1 → tPairs trs σ H1 Q') (hn : ((T ++ c).map (·.1)).Nodup) (hl : c.length ≤ 15) (hT : T.length ≤ 1000)
    (k : ∀ H', Wr H H' d (T ++ c) → R D σ H') : tSeq (tDrop (tBM K "dict" rUpd to (tCons (tDisp trs) tNil))) R D σ H1 :=
  upd_to (D := { D with nx := R D }) W c ho hp hn hl hT k
section
variable {X : Cx} {CX : CXT} {j k : Nat} {sp : Sp} {E : XK} {x : Str} {p pos : Pos}
/-- f(), f a def of the top without parameters -/
theorem pe_df0 (c : Df X.prog X.w X.K X.mg X.base CX k x sp) (hq : Quiet X.A) (hr : Room j X.A) (hx : Passes CX X E) (hk : k ≤ j := by omega) (hg : Gl X x := by rfl) (hdb : (x == ("__debug__" : Str)) = false := by decide) :
    PE X (.Call (.Name x p) [] [] pos) (tDf sp E tNil) := by
  obtain ⟨f, fd, ps, hm, hkp, hb, F⟩ := c.ex
  refine ⟨fun pins s σ H Q I h => ?_⟩
  refine wpAny_Call_Name_kw (ld_glob I hg hm ?_ hdb)
  exact PySem.W.callWith_K0 I.kIn hkp (run_df (us := []) F hq (hr.mono hk) hb hx I .nil h)
end
end Tq

/-! ### the law's table of kinds: for each kind the list of the pairs of a field and what it holds -/
namespace Tq
open PySem L2 PySem.Spec PyProof.Rows
abbrev Rw := List (Str × Str)
def LPart (H : Hp) (q : V) (r : Str × Str) : Prop := ∃ b, q = .ref b ∧ H b = some (.lst [.str r.1, .str r.2])
def LRows (H : Hp) (v : V) (rows : Rw) : Prop := ∃ a qs, v = .ref a ∧ H a = some (.lst qs) ∧ Paired (LPart H) qs rows
def LTab (H : Hp) (kvs : List (Key × V)) (tab : List (Str × Rw)) : Prop := Paired (fun kv kr => kv.1 = Sum.inr kr.1 ∧ LRows H kv.2 kr.2) kvs tab
theorem LPart.but {H H' : Hp} (e : ∀ b xs, H b = some (.lst xs) → H' b = some (.lst xs)) {q : V} {r : Str × Str} (h : LPart H q r) : LPart H' q r := by
  obtain ⟨b, e1, e2⟩ := h
  exact ⟨b, e1, e b _ e2⟩
theorem paired_map {α β : Type} {R S : α → β → Prop} (h : ∀ a b, R a b → S a b) : ∀ {xs : List α} {ys : List β}, Paired R xs ys → Paired S xs ys
  | _, _, .nil => .nil
  | _, _, .cons a r => .cons (h _ _ a) (paired_map h r)
theorem paired_snoc {α β : Type} {R : α → β → Prop} {a : α} {b : β} (h : R a b) : ∀ {xs : List α} {ys : List β}, Paired R xs ys → Paired R (xs ++ [a]) (ys ++ [b])
  | _, _, .nil => .cons h .nil
  | _, _, .cons x r => .cons x (paired_snoc h r)
theorem paired_get {α β : Type} {R : α → β → Prop} : ∀ {xs : List α} {ys : List β} {i : Nat} {x : α}, Paired R xs ys → xs[i]? = some x → ∃ y, ys[i]? = some y ∧ R x y
  | _, _, i, x, .nil, h => by simp at h
  | _, _, 0, x, .cons a r, h => ⟨_, rfl, (Option.some.inj h) ▸ a⟩
  | _, _, i + 1, x, .cons _ r, h => by
    obtain ⟨y, g1, g2⟩ := paired_get (i := i) r (by simpa using h)
    exact ⟨y, by simpa using g1, g2⟩
theorem LRows.but {H H' : Hp} (e : ∀ b xs, H b = some (.lst xs) → H' b = some (.lst xs)) {v : V} {rows : Rw} (h : LRows H v rows) : LRows H' v rows := by
  obtain ⟨a, qs, e1, e2, e3⟩ := h
  exact ⟨a, qs, e1, e a _ e2, paired_map (fun _ _ h => h.but e) e3⟩
theorem LTab.but {H H' : Hp} (e : ∀ b xs, H b = some (.lst xs) → H' b = some (.lst xs)) {kvs : List (Key × V)} {tab : List (Str × Rw)} (h : LTab H kvs tab) : LTab H' kvs tab :=
  paired_map (fun _ _ h => ⟨h.1, h.2.but e⟩) h
theorem LTab.keys {H : Hp} : ∀ {kvs : List (Key × V)} {tab : List (Str × Rw)}, LTab H kvs tab → kvs.map (·.1) = (tab.map (·.1)).map Sum.inr
  | _, _, .nil => rfl
  | _, _, .cons h t => by rw [List.map_cons, List.map_cons, List.map_cons, h.1, LTab.keys t]
theorem LTab.get {H : Hp} : ∀ {kvs : List (Key × V)} {tab : List (Str × Rw)} {z : Str} {rows : Rw}, LTab H kvs tab → tab.lookup z = some rows → ∃ v, valV kvs (Sum.inr z) = some v ∧ LRows H v rows
  | _, _, z, rows, .nil, h => by cases h
  | _, _, z, rows, .cons (a := kv) (b := kr) (l₁ := kvs) (l₂ := tab) h t, hz => by
    obtain ⟨h1, h2⟩ := h
    obtain ⟨k, v⟩ := kv
    obtain ⟨n, rs⟩ := kr
    dsimp only at h1 h2
    subst h1
    by_cases e : z = n
    · subst e
      simp [List.lookup] at hz
      subst hz
      exact ⟨v, by simp [valV], h2⟩
    · have e1 : (z == n) = false := beq_eq_false_iff_ne.mpr e
      rw [List.lookup, e1] at hz
      obtain ⟨u, g1, g2⟩ := LTab.get t hz
      refine ⟨u, ?_, g2⟩
      have e2 : ¬ (Sum.inr n : Key) = Sum.inr z := fun q => e (Sum.inr.inj q).symm
      unfold valV at g1 ⊢
      rw [List.find?_cons]
      rw [show decide (((Sum.inr n : Key), v).1 = Sum.inr z) = false from decide_eq_false e2]
      exact g1
/-- the rows of a text of the table -/
def rowsOf (s : Str) : Rw := if s = "" then [] else (Txt.split s ", ").map fun p => (rowN p, rowW p)
def tabOf (T : List (Str × Str)) : List (Str × Rw) := T.map fun r => (r.1, rowsOf r.2)
/-- the texts of the table are as they must be -/
def lrowB (s : Str) : Bool := s == "" || (decide (s.length ≤ 1000) && decide ((Txt.split s ", ").length ≤ 1000) && (Txt.split s ", ").all fun p => decide (Txt.split p " " = [rowN p, rowW p]) && decide (p.length ≤ 1000))
structure RowG (s : Str) : Prop where
  ne : s ≠ ""
  len : s.length ≤ 1000
  cnt : (Txt.split s ", ").length ≤ 1000
  part : ∀ p ∈ Txt.split s ", ", Txt.split p " " = [rowN p, rowW p] ∧ p.length ≤ 1000
theorem lrowG {s : Str} (h : lrowB s = true) (hn : s ≠ "") : RowG s := by
  unfold lrowB at h
  rw [show (s == "") = false from beq_eq_false_iff_ne.mpr hn, Bool.false_or, Bool.and_eq_true, Bool.and_eq_true] at h
  refine ⟨hn, of_decide_eq_true h.1.1, of_decide_eq_true h.1.2, fun p hp => ?_⟩
  have := List.all_eq_true.mp h.2 p hp
  rw [Bool.and_eq_true] at this
  exact ⟨of_decide_eq_true this.1, of_decide_eq_true this.2⟩
theorem nw_but {H H' H'' : Hp} (e : ∀ b xs, H' b = some (.lst xs) → H'' b = some (.lst xs)) : ∀ b xs, nw H H' b = some (.lst xs) → nw H H'' b = some (.lst xs) := fun b xs h => nw_of (of_nw h).1 (e b xs (of_nw h).2)
end Tq

/-! ### an attribute as a target; the class Node asked for; promises of a node's methods -/
namespace Tq
open PySem L2 PySem.Spec PyProof.Rows
def gFld (K : PySem.W.Frag) (te : TE) (f : Str) : TG := fun v σ H Q => te σ H fun x H1 => ∃ a C dx fs, x = .ref a ∧ H1 a = some (.ins C dx fs) ∧ Cls K C ∧ NoAttr K C f ∧ fs.length < 1000 ∧ Q σ (upd H1 a (.ins C dx (putF f v fs)))
theorem pg_fld {X : Cx} {o : Expr} {f : Str} {pos : Pos} {te : TE} (ho : PE X o te)
    (ha : ∀ v, assign (.Attribute o f pos) X.env v = (do
      let ov ← holding [v] (eval o X.env)
      standAt pos.atName
      holding [v, ov] (setAttr ov f v)
      release [v, ov] []) := by intro _; rfl) : PG X (.Attribute o f pos) (gFld X.K te f) := by
  refine ⟨fun pins s σ H v u Q I r h => ?_⟩
  rw [ha]
  refine wpAny_bind (wpAny_holding (thn (ho.run pins s σ H _ I h) fun ov s1 ⟨x, H1, I1, rx, a, C, dx, fs, ex, ea, c, n, l, q⟩ => ?_))
  subst ex
  obtain rfl : ov = Value.ref a := rx
  refine wpAny_bind (wpAny_standAt (wpAny_bind (wpAny_holding (setattr_ok I1 ea c n l r fun s3 I3 => ?_))))
  exact wpAny_release ⟨σ, _, I3, q⟩
/-- the class Node, asked for -/
structure NdI (K : PySem.W.Frag) (mg : Str → Option Value) (C : Addr) : Prop where
  nd : NdC K C
  gN : mg "Node" = some (.ref C)
  ha : PySem.W.findIn K (.ref C) "__class__" = some (some (.builtin "object.__class__"))
  hn : PySem.W.specialIn K (.builtin "object.__class__") "__get__" = some (some (.builtin "getset_descriptor.__get__"))
  htk : PySem.W.takesIn K (.builtin "object.__class__") = some true
  hm : PySem.W.mroIn K C (.type "object") = some true
theorem NdI.isN {K : PySem.W.Frag} {mg : Str → Option Value} {C : Addr} (T : NdI K mg C) {H : Hp} {x dx : Addr} {fs : List (Str × V)} (h : H x = some (.ins C dx fs)) : TyX K H (.ref x) (.ref C) := .base (.ins h T.nd.cls T.ha T.hn T.htk T.hm)
theorem NdI.kitN {K : PySem.W.Frag} {mg : Str → Option Value} {C : Addr} (T : NdI K mg C) : PySem.W.kitOne K (.ref C) (.ref C) = some true := by
  unfold PySem.W.kitOne
  rw [if_pos (beq_self_eq_true _)]
/-- node[name], the field there -/
def spGet (C : Addr) : Sp := fun vs H Q _ => ∃ x dx kd hh hd a b c d n v, vs = [.ref x, .str n] ∧ H x = some (.ins C dx (ndF kd hh a b c d)) ∧ H hh = some (.dK hd) ∧ valV hd (Sum.inr n) = some v ∧ Q v H
/-- checked_node, of a node -/
def spChk0 (C : Addr) : Sp := fun vs H Q _ => ∃ x dx fs, vs = [.ref x] ∧ H x = some (.ins C dx fs) ∧ Q (.ref x) H
def spPlaceOf4 (C : Addr) : Sp := fun vs H Q _ => ∃ x dx kd hh v0 v1 v2 v3, vs = [.ref x] ∧ H x = some (.ins C dx (ndF kd hh v0 v1 v2 v3)) ∧ ∀ p, H p = none → Q (.ref p) (upd H p (.tup [v0, v1, v2, v3]))
def spSetPlace (C : Addr) : Sp := fun vs H Q _ => ∃ x dx kd hh v0 v1 v2 v3 p u0 u1 u2 u3, vs = [.ref x, .ref p] ∧ H x = some (.ins C dx (ndF kd hh v0 v1 v2 v3)) ∧ H p = some (.tup [u0, u1, u2, u3]) ∧
  ∀ H', (∀ b o, H b = some o → b ≠ x → H' b = some o) → H' x = some (.ins C dx (ndF kd hh u0 u1 u2 u3)) → Q .non H'
def orN (a b : V) : V := if a = .non then b else a
def spJoin : Sp := fun vs H Q _ => ∃ p q v0 v1 v2 v3 u0 u1 u2 u3, vs = [.ref p, .ref q] ∧ H p = some (.tup [v0, v1, v2, v3]) ∧ H q = some (.tup [u0, u1, u2, u3]) ∧
  ∀ l H', Same H H' → H' l = some (.tup [orN v0 u0, orN v1 u1, orN v2 u2, orN v3 u3]) → Q (.ref l) H'
def spCopyLoc (C : Addr) : Sp := fun vs H Q _ => ∃ x dx kd hh v0 v1 v2 v3 y dy ke he u0 u1 u2 u3, vs = [.ref x, .ref y] ∧ H x = some (.ins C dx (ndF kd hh v0 v1 v2 v3)) ∧ H y = some (.ins C dy (ndF ke he u0 u1 u2 u3)) ∧
  ∀ H', (∀ b o, H b = some o → b ≠ x → H' b = some o) → H' x = some (.ins C dx (ndF kd hh (orN u0 v0) (orN u1 v1) (orN u2 v2) (orN u3 v3))) → Q (.ref x) H'
open RZ in
theorem walk_zipT {K : PySem.W.Frag} {a b : Addr} {xs ys : List V} {n : Nat} (hn : n = min xs.length ys.length) : Walk (ItzT K a b) n (fun H => SqT K H a xs ∧ SqT K H b ys) (YPair (fun i => xs[i]?) (fun i => ys[i]?)) := by
  subst hn
  refine ⟨fun i _ hi q => ?_, fun _ q => ⟨xs, ys, q.1, q.2, by omega⟩, fun i H v H' _ q y => ?_⟩
  · have l1 : i < xs.length := by omega
    have l2 : i < ys.length := by omega
    exact ⟨xs, ys, xs[i], ys[i], q.1, q.2, by simp [l1], by simp [l2]⟩
  · obtain ⟨T, x, z, k1, k2, k3, k4, k5⟩ := y
    exact ⟨T, x, z, k1, k2, k3, k4 xs q.1, k5 ys q.2⟩
end Tq

/-! ### lists of texts as data -/
namespace Tq
open PySem L2 PySem.Spec PyProof.Rows
/-- a list != [] -/
def rNeNil (K : PySem.W.Frag) : R2 := fun x y H Q => ∃ a b xs, x = .ref a ∧ y = .ref b ∧ SqL K H a xs ∧ SqL K H b [] ∧ Q (.bl (!xs.isEmpty)) H
theorem op_neNil {X : Cx} (hu : X.A.units < cLine) : OpR X (compareOp .NotEq) (rNeNil X.K) := by
  intro pins s σ H x y v u Q I rx ry h
  obtain ⟨a, b, xs, rfl, rfl, h1, h2, q⟩ := h
  obtain rfl : v = Value.ref a := rx
  obtain rfl : u = Value.ref b := ry
  obtain ⟨its, rv, p, _⟩ := I.list h1
  obtain ⟨its2, rv2, p2, _⟩ := I.list h2
  have l1 := rv.length
  have l2 := rv2.length
  cases its2 with
  | cons _ _ => simp at l2
  | nil =>
    cases its with
    | nil =>
      have e : xs = [] := by cases xs with | nil => rfl | cons _ _ => simp at l1
      subst e
      exact SeqAt.RcNeAt.lists (e := fun _ => true) p.isList p2.isList rfl hu (fun j h1 _ => by simp at h1) _ _ _ _ ⟨.bl false, H, I, rfl, q⟩
    | cons y ys =>
      have e : (!xs.isEmpty) = true := by cases xs with | nil => simp at l1 | cons _ _ => rfl
      rw [e] at q
      exact SeqAt.RcNeAt.lists_lengths p.isList p2.isList (by simp) hu _ _ _ _ ⟨.bl true, H, I, rfl, q⟩
theorem eraseIdx_map {α β : Type} (f : α → β) : ∀ (l : List α) (i : Nat), (l.map f).eraseIdx i = (l.eraseIdx i).map f
  | [], _ => rfl
  | _ :: _, 0 => rfl
  | a :: l, i + 1 => congrArg (f a :: ·) (eraseIdx_map f l i)
theorem seqIx {r : Int} {n : Nat} (h0 : 0 ≤ r) (h1 : r < n) : seqIndex? r n = some r.toNat := by
  unfold seqIndex?
  have h : ¬ r < 0 := by omega
  simp [h, h0, h1]
end Tq

/-! ### a node made of its kind alone -/
namespace Tq
open PySem L2 PySem.Spec PyProof.Rows
structure Fr (C : Addr) (H H' : Hp) (x dx : Addr) (z : Str) (rows : List Str) (hh : Addr) (hd : List (Key × V)) (fps : List (List Addr)) : Prop where
  same : Same H H'
  nx : H x = none
  nh : H hh = none
  xh : x ≠ hh
  node : H' x = some (.ins C dx (ndF (.str z) hh .non .non .non .non))
  held : H' hh = some (.dK hd)
  ents : Ents C H' [] rows hd fps
  nd : fps.flatten.Nodup
  fresh : ∀ a ∈ fps.flatten, H a = none ∧ a ≠ x ∧ a ≠ hh
theorem make0 {t : Tb} {C : Addr} {H : Hp} {z : Str} {rows : List Str} {Q : Addr → Hp → Prop} {E : XK} (hz : t.rows z = some rows) (k : ∀ x dx hh hd fps H', Fr C H H' x dx z rows hh hd fps → Q x H') :
    ∀ x dx p d, H x = none → H dx = none → dx ≠ x → H p = none → H d = none → p ≠ x → p ≠ dx → d ≠ x → d ≠ dx → d ≠ p →
      spInit t C true [.ref x, .str z, .ref p, .ref d] (upd (upd (upd (upd H dx (.own x)) x (.ins C dx [])) p (.tup [])) d (.dK (kdOf [] []))) (fun v H3 => v = .non ∧ Q x H3) E := by
  intro x dx p d hx hdx nx hp hd px pdx xd ddx dp
  refine ⟨x, dx, p, d, z, rows, [], [], rfl, ?_, ?_, upd_same, hz, fun h => Bool.noConfusion h, Nat.zero_le _, Nat.zero_le _, List.nodup_nil, (fun _ h => nomatch h), fun hh hd' fps H' M => ⟨rfl, ?_⟩⟩
  · rw [upd_ne xd.symm, upd_ne px.symm, upd_same]
  · rw [upd_ne dp.symm, upd_same]
  have eg : kdOf (rows.map rowN) [] ++ ([] : List (Key × V)) = [] := by unfold kdOf; simp
  rw [eg] at M
  have sm : Same H (upd (upd (upd (upd H dx (.own x)) x (.ins C dx [])) p (.tup [])) d (.dK (kdOf [] []))) := fun b o e => by
    have ne : ∀ {c : Addr}, H c = none → b ≠ c := fun hc q => by rw [q, hc] at e; cases e
    rw [upd_ne (ne hd), upd_ne (ne hp), upd_ne (ne hx), upd_ne (ne hdx)]
    exact e
  have gx : (upd (upd (upd (upd H dx (.own x)) x (.ins C dx [])) p (.tup [])) d (.dK (kdOf [] []))) x ≠ none := by rw [upd_ne xd.symm, upd_ne px.symm, upd_same]; exact fun e => nomatch e
  exact k x dx hh hd' fps H' ⟨fun b o e => M.keep b o (sm b o e) (fun q => by rw [q, hx] at e; cases e), hx, same_none sm M.new, fun e => gx (e ▸ M.new), M.node, M.held, M.ents, M.nd,
    fun a ha => ⟨same_none sm (M.fresh a ha).1, fun e => gx (e ▸ (M.fresh a ha).1), (M.fresh a ha).2⟩⟩
theorem make1 {t : Tb} {C : Addr} {H : Hp} {z n : Str} {r : Str} {rs : List Str} {u v : V} {Q : Addr → Hp → Prop} {E : XK} (G : TbOk t) (hz : t.rows z = some (r :: rs)) (hn : n ∈ places) (k : ∀ x dx hh a b c d H', Same H H' → H x = none → H' x = some (.ins C dx (ndF (.str z) hh a b c d)) → Q x H') :
    ∀ x dx p d, H x = none → H dx = none → dx ≠ x → H p = none → H d = none → p ≠ x → p ≠ dx → d ≠ x → d ≠ dx → d ≠ p →
      spInit t C true [.ref x, .str z, .ref p, .ref d] (upd (upd (upd (upd H dx (.own x)) x (.ins C dx [])) p (.tup [u])) d (.dK (kdOf [n] [v]))) (fun v H3 => v = .non ∧ Q x H3) E := by
  intro x dx p d hx hdx nx hp hd px pdx xd ddx dp
  refine ⟨x, dx, p, d, z, r :: rs, [u], kdOf [n] [v], rfl, ?_, ?_, upd_same, hz, fun h => Bool.noConfusion h, ?_, ?_, ?_, ?_, fun hh hd' fps H' M => ⟨rfl, ?_⟩⟩
  · rw [upd_ne xd.symm, upd_ne px.symm, upd_same]
  · rw [upd_ne dp.symm, upd_same]
  · simp
  · exact (by decide : 1 ≤ 1000)
  · simp [kdOf]
  · intro k hk
    have e : k = Sum.inr n := by simpa [kdOf] using hk
    refine ⟨n, e, List.mem_append_right _ hn, fun h => ?_⟩
    have e2 : n = rowN r := by simpa using h
    exact (G.row z (r :: rs) hz).2.2.1 r (.head _) (e2 ▸ hn)
  have sm : Same H (upd (upd (upd (upd H dx (.own x)) x (.ins C dx [])) p (.tup [u])) d (.dK (kdOf [n] [v]))) := fun b o e => by
    have ne : ∀ {c : Addr}, H c = none → b ≠ c := fun hc q => by rw [q, hc] at e; cases e
    rw [upd_ne (ne hd), upd_ne (ne hp), upd_ne (ne hx), upd_ne (ne hdx)]
    exact e
  exact k x dx hh _ _ _ _ H' (fun b o e => M.keep b o (sm b o e) (fun q => by rw [q, hx] at e; cases e)) hx M.node
theorem Ents.drop {C : Addr} {H : Hp} {given : List (Key × V)} : ∀ {rs : List Str} {kvs : List (Key × V)} {fps : List (List Addr)} (i : Nat), Ents C H given rs kvs fps → Ents C H given (rs.drop i) (kvs.drop i) (fps.drop i)
  | _, _, _, 0, h => h
  | _, _, _, i + 1, .nil => by simpa using Ents.nil
  | _, _, _, i + 1, .cons _ t => by simpa using Ents.drop i t
theorem Ents.at {C : Addr} {H : Hp} {given : List (Key × V)} : ∀ {rs : List Str} {kvs : List (Key × V)} {fps : List (List Addr)} {i : Nat} {r : Str}, Ents C H given rs kvs fps → rs[i]? = some r → ∃ kv fp, kvs[i]? = some kv ∧ fps[i]? = some fp ∧ Ent C H given r kv fp
  | _, _, _, i, r, .nil, h => by simp at h
  | _, _, _, 0, r, .cons (kv := kv) (fp := fp) a t, h => ⟨kv, fp, rfl, rfl, (Option.some.inj h) ▸ a⟩
  | _, _, _, i + 1, r, .cons a t, h => by
    obtain ⟨kv, fp, g1, g2, g3⟩ := Ents.at (i := i) t (by simpa using h)
    exact ⟨kv, fp, by simpa using g1, by simpa using g2, g3⟩
theorem StV.held {C : Addr} {H : Hp} {n h h' : Str} {v : V} {fp : List Addr} (e : isMany h' = isMany h) (s : StV C H n h v fp) : StV C H n h' v fp := by
  unfold StV at s ⊢
  rw [e]
  exact s
end Tq

/-! ### isinstance of a caught error with fields; repr of any data -/
namespace Tq
open PySem L2 PySem.Spec PyProof.Rows
def rIsE3 (K : PySem.W.Frag) (cls : Value) (d : Option Addr) (a : Addr) : List V → Hp → VK → Prop := fun xs H Q => ∃ D dd fs, cls = .ref D ∧ d = some dd ∧ H dd = some (.xd fs) ∧ ExcC K D ∧ rIsE K D a xs H Q
theorem call_isE3 {X : Cx} {a : Addr} {oe : Obj} {pn : List (Addr × Obj)} {cls : Value} {d : Option Addr} (hz : Zc cls d oe) (hf : ∃ vs, oe.data = .fields vs) :
    CallR (X.suite a ((a, oe) :: pn)) (.builtin "isinstance") (rIsE3 X.K cls d a) := by
  intro pins s σ H xs us Q I r h
  obtain ⟨D, dd, fs, rfl, rfl, hdd, C, c, cv, b, rfl, hcv, e, q⟩ := h
  cases r with
  | cons rx rr =>
    cases rr with
    | cons rt rr =>
      cases rr
      cases rx
      have ec := hcv _ rt
      subst ec
      obtain ⟨hget, _⟩ := I.pin (a, oe) (List.mem_append.mpr (.inl List.mem_cons_self))
      obtain ⟨vs, hv⟩ := hf
      have hx : ObjOk X.prog X.w H s.heap dd (.xd fs) := I.hok dd _ hdd
      obtain ⟨mA, hns, _⟩ := hx
      obtain ⟨od, ho, _⟩ := lookIn_ns hns
      have J : PySem.W.InstAt s.heap a oe D (some od) := ⟨hget, hz.1, by unfold PySem.W.notCls; rw [hv] <;> rfl, by rw [hz.2]; exact ho⟩
      exact PySem.W.kia_one (PySem.W.tq_kitx C) I.kIn J e (fun z => nomatch z) fun tk => ⟨.bl b, H, I.kept (t' := tk) fun _ _ z => z, rfl, q⟩
def rReprA (K : PySem.W.Frag) : List V → Hp → VK → Prop := fun xs H Q =>
  ∃ (v : V) (d : PyData), xs = [v] ∧ Dp K H v d ∧ d.showable = true ∧ d.hasDict = false ∧ d.depth ≤ 60 ∧ d.shown.length ≤ sizeLine ∧ Q (.str d.shown) H
theorem call_reprU {X : Cx} (hq : Quiet X.A) (hu : X.A.units + 65 < cLine) : CallR X (.builtin "repr") (rReprA X.K) := by
  intro pins s σ H xs us Q I r h
  obtain ⟨v, d, rfl, hd, hs, hn, hp, hz, q⟩ := h
  obtain ⟨u, rfl, rv⟩ := vals1 r
  cases hd with
  | non =>
    cases rv
    exact PySem.P.repr_of_none ⟨.str _, H, I.tok _, ⟨_, rfl⟩, q⟩
  | bl b =>
    cases rv
    exact PySem.P.repr_of_bool ⟨.str _, H, I.tok _, ⟨_, rfl⟩, q⟩
  | int i =>
    obtain ⟨t, rfl⟩ := rv
    exact PySem.P.repr_of_int (by rw [PyData.showable] at hs; exact of_decide_eq_true hs) ⟨.str _, H, I.tok _, ⟨_, rfl⟩, q⟩
  | str x =>
    obtain ⟨t, rfl⟩ := rv
    exact PySem.P.repr_of_str ⟨.str _, H, I.tok _, ⟨_, rfl⟩, q⟩ hz
  | lst h1 h2 =>
    cases rv
    obtain ⟨as, rd⟩ := Dp.reads I _ (.ref _) (.ref _) (.lst h1 h2) rfl
    refine repr_of_reads' rd hs (fun z => by rw [hn] at z; cases z) hq (by omega) (fun _ _ e => e) (fun h' u tk kp => ?_) hz
    exact ⟨.str _, H, I.kept kp, ⟨u, rfl⟩, q⟩
  | tup h1 h2 =>
    cases rv
    obtain ⟨as, rd⟩ := Dp.reads I _ (.ref _) (.ref _) (.tup h1 h2) rfl
    refine repr_of_reads' rd hs (fun z => by rw [hn] at z; cases z) hq (by omega) (fun _ _ e => e) (fun h' u tk kp => ?_) hz
    exact ⟨.str _, H, I.kept kp, ⟨u, rfl⟩, q⟩
theorem call_reprA {X : Cx} {k : Nat} (hq : Quiet X.A) (hr : Room k X.A) : CallR X (.builtin "repr") (rReprA X.K) := call_reprU hq (by have := hr.un; omega)
end Tq

/-! ### an own error with a field (the block of the worked proof 42, turned) -/
namespace PySem
namespace LowX
open PySem.W PySem.Calls PyProof.Rows PySem.HandSPX
/-! ### the text of __init__ -/
def iA (p1 p2 : Pos) : Arguments := { posonlyargs := [], args := [{ arg := "self", annotation := none, pos := p1 }, { arg := "kind", annotation := none, pos := p2 }], vararg := none, kwonlyargs := [], kw_defaults := [], kwarg := none, defaults := [] }
def iB (q1 q2 q3 q4 : Pos) : List Stmt := [.Assign [.Attribute (.Name "self" q1) "kind" q2] (.Name "kind" q3) q4]
def iS : Scope := { kind := .function, names := [(PySem.Str.ofString "self", .local), (PySem.Str.ofString "kind", .local)], isGenerator := false, isCoroutine := false, more := [] }
/-- what the written part says of Low, at C, and of its __init__, at fI -/
structure LowTxt (K : Frag) (mg : Str → Option Value) (C fI : Addr) : Prop where
  gC : mg "BadKind" = some (.ref C)
  cls : ∃ nm q N bs bm sn sub ab col dd k0 k1 k2 k3 k5, K.lookup C = some (excClassObj nm q C N bs bm true sn sub ab col dd k0 k1 k2 k3 k5 "ValueError.__new__") ∧ refsVE bm = true
  sa : findIn K (.ref C) "__setattr__" = some (some (.builtin "object.__setattr__"))
  ga : findIn K (.ref C) "__getattribute__" = some (some (.builtin "BaseException.__getattribute__"))
  gg : findIn K (.ref C) "__getattr__" = some none
  noN : findIn K (.ref C) "kind" = some none
  iC : findIn K (.ref C) "__init__" = some (some (.ref fI))
  tC : typeIn K (.ref fI) = some (.type "function")
  kC : keepIn K (.ref C) = true
  exC : subIn K (.ref C) (.type "BaseException") = some true
  tyC : typeIn K (.ref C) = some (.type "type")
  hdC : hasDictIn K C = true
  te : exmOne K (.ref C) (.ref C) = some true
  fn : ∃ (oc : Value) (od : Option Addr) (doc pm : Value) (an : Option Addr) (cdv ct : Value) (osl : Array (Option Value)) (p1 p2 q1 q2 q3 q4 : Pos),
    K.lookup fI = some ⟨oc, od, .func (fnOf "__init__" "BadKind.__init__" (iA p1 p2) (iB q1 q2 q3 q4) iS .none .none doc pm an cdv ct), osl⟩ ∧ codeIn K cdv "BadKind.__init__" = true
theorem one_size (v : Value) : [v].length ≤ sizeLine := by
  rw [sizeLine_eq]
  exact (by decide : 1 ≤ 16777216)
theorem kept_but {K : Frag} {h h' : Heap} {x : Addr} (X : K.In h) (hx : K.lookup x = none) (k : ∀ b o, b ≠ x → h.get? b = some o → h'.get? b = some o) : K.In h' := fun a o e =>
  k a o (fun z => by rw [z, hx] at e; cases e) (X a o e)
theorem ldC {M : Model} {s : Shared} {name : Str} {scope : Scope} {L a : Addr} {cd : Value} {m : Str → Option Value} {x : Str} {pos : Pos} {v : Value} {Q : Value → Shared → Prop} {A : Around} {E : Value → Shared → Prop} (hn : s.heap.Ns L m) (hv : m x = some v) (h : Q v s)
    (hk : scope.kind = .function := by rfl) (hl : (envOfC name scope L a cd).kindOf x = some .local := by rfl) (hd : (x == ("__debug__" : Str)) = false := by decide) :
    wpAny M A (eval (.Name x pos) (envOfC name scope L a cd)) Q E s := wpAny_Name (wpAny_loadName_local hk hl hn hv h) hd
/-- what __init__ leaves of a fresh exception at x -/
structure InitEnd (h h' : Heap) (x C dx t1 : Addr) (v : Value) : Prop where
  keep : ∀ b o, b ≠ x → h.get? b = some o → h'.get? b = some o
  obj : h'.get? x = some { cls := .ref C, dict := some dx, data := .fields #[.ref t1, .none, .none, .none, .bool false, .none] }
  dbig : h.objs.size ≤ dx
  dne : dx ≠ x
  ns : h'.Ns1 dx (fun y => if y = "kind" then some v else none)
/-- a made Low -/
structure OwnMade (h h' : Heap) (e C d : Addr) (v : Value) : Prop where
  keep : ∀ b o, h.get? b = some o → h'.get? b = some o
  new : h.objs.size ≤ e
  obj : ∃ oe vs, h'.get? e = some oe ∧ oe.cls = .ref C ∧ oe.dict = some d ∧ oe.data = .fields vs ∧ vs[1]? = some .none
  dbig : h.objs.size ≤ d
  dne : d ≠ e
  ns : h'.Ns1 d (fun y => if y = "kind" then some v else none)
section
variable {prog : Program} {w : World} {A : Around} {E : Value → Shared → Prop} {R : Result → Shared → Prop} {s : Shared} {K : Frag} {mg : Str → Option Value} {C fI : Addr}
theorem low_init (T : LowTxt K mg C fI) {x t0 : Addr} {v : Value} (X : K.In s.heap) (hlim : s.heap.NoLimit) (hx : s.heap.get? x = some (excO C t0)) (hnx : K.lookup x = none) (hroom : A.depth < recursionLimit)
    (hq : ∀ h' tk dx, InitEnd s.heap h' x C dx t0 v → R (.ok (.ret .none)) { s with heap := h', toks := tk }) :
    codeAny (model prog w) A (.call (.ref fI) ⟨[.ref x, v], []⟩) R s := by
  obtain ⟨oc, od, doc, pm, an, cdv, ct, osl, p1, p2, q1, q2, q3, q4, ho, hcd⟩ := T.fn
  obtain ⟨nm, q, N, bs, bm, sn, sub, ab, col, dd, k0, k1, k2, k3, k5, hC, hbm⟩ := T.cls
  have hcl : clsIn K C = some { name := nm, bases := bs, mro := .ref C :: bm, ns := N, qualname := q, hasDict := true, slotNames := sn, subclasses := sub, abstract := ab, collection := col, hasDel := false } := by unfold clsIn; rw [hC] <;> rfl
  refine Att.call_fn (binds := [("self", .ref x), ("kind", v)]) X hlim ho hcd hroom (BindsTo.of_eq (by first | rfl | with_unfolding_all rfl)) (by first | rfl | decide | with_unfolding_all rfl) (fun s₁ IC => ?_) rfl rfl rfl
  obtain ⟨h₁, tk₁, rfl⟩ := IC.toInCall.same
  have k : ∀ b o, s.heap.get? b = some o → h₁.get? b = some o := IC.toInCall.keep
  have hn := IC.toInCall.ns
  have hxL : s.heap.objs.size ≠ x := Nat.ne_of_gt (Heap.lt_size hx)
  have X₁ : K.In h₁ := X.keeps k
  have hx₁ := k _ _ hx
  -- self.by = by
  show wpAny _ _ (execs _ _) _ _ _
  refine wpAny_execs_cons (plainObj_wpAny_Assign_Attribute ?_)
  refine ldC (v := v) hn (by first | rfl | with_unfolding_all rfl | kernel_rfl) (ldC (v := .ref x) hn (by first | rfl | with_unfolding_all rfl | kernel_rfl) ?_)
  refine set_plain X₁ (ox := excO C t0) (od := none) ⟨hx₁, rfl, rfl, trivial⟩ T.sa ?_
  refine exc_osa X₁ hx₁ hcl (show refsVE (.ref C :: bm) = true from hbm) rfl T.noN (fun h₃ tk₃ dx k₃ dn dne hx₃ hn₃ => ?_)
  show wpAny _ _ (execs _ _) _ _ _
  have z : s.heap.objs.size < h₁.objs.size := hn.lt
  exact wpAny_execs_nil (hq h₃ tk₃ dx ⟨fun b o hb e => k₃ b o hb (k b o e), hx₃, Nat.le_of_lt (Nat.lt_of_lt_of_le z dn), dne, hn₃⟩)
theorem low_made (T : LowTxt K mg C fI) {v : Value} (X : K.In s.heap) (hlim : s.heap.NoLimit) (hroom : A.depth + 1 < recursionLimit)
    (hq : ∀ h' tk e d, OwnMade s.heap h' e C d v → R (.ok (.ret (.ref e))) { s with heap := h', toks := tk }) :
    codeAny (model prog w) A (.call (.ref C) ⟨[v], []⟩) R s := by
  obtain ⟨nm, q, N, bs, bm, sn, sub, ab, col, dd, k0, k1, k2, k3, k5, hC, hbm⟩ := T.cls
  obtain ⟨hp, g, dr, tk, os⟩ := s
  have k : ∀ b o, hp.get? b = some o → ((hp.push (kdv_tup [v])).push (excO C hp.objs.size)).get? b = some o := fun b o e => Heap.get?_push_of_some _ (Heap.get?_push_of_some _ e)
  have hget : ((hp.push (kdv_tup [v])).push (excO C hp.objs.size)).get? (hp.objs.size + 1) = some (excO C hp.objs.size) := by heap_get
  have hnx : K.lookup (hp.objs.size + 1) = none := by
    cases e : K.lookup (hp.objs.size + 1) with
    | none => rfl
    | some o =>
      have z : hp.get? (hp.objs.size + 1) = some o := X _ _ e
      exact absurd (Nat.lt_of_succ_lt (Heap.lt_size z)) (Nat.lt_irrefl _)
  refine call_own F.excBase_ValueError (fun X => refsVE_contains X bm hbm) (X _ _ hC) (looks_findIn X T.iC) (fun self => bind_fn X self T.tC) (one_size v) ?_
  refine low_init (s := ⟨(hp.push (kdv_tup [v])).push (excO C hp.objs.size), g, dr, tk, os⟩) T (X.keeps k) (hlim.keeps k) hget hnx ?_ fun h' tk' dx ⟨k', hx, dn, dne, hns⟩ => ?_
  · show A.depth + 1 < recursionLimit
    exact hroom
  · have old : ∀ b o, hp.get? b = some o → h'.get? b = some o := fun b o e => k' b o (Nat.ne_of_lt (Nat.lt_succ_of_lt (Heap.lt_size e))) (k b o e)
    have z : hp.objs.size + 1 + 1 ≤ dx := by
      first
        | (simpa only [Heap.size_push] using dn)
        | exact dn
        | (have q := dn; rw [Heap.size_push, Heap.size_push] at q; exact q)
    exact ⟨rfl, hq h' tk' (hp.objs.size + 1) dx ⟨old, Nat.le_succ _, ⟨_, _, hx, rfl, rfl, rfl, rfl⟩, Nat.le_trans (Nat.le_trans (Nat.le_succ _) (Nat.le_succ _)) z, dne, hns⟩⟩
end
end LowX
end PySem
namespace L2
open PySem PySem.Spec PyProof.Rows
theorem relO_low {v : V} {v' : Value} (r : RelV v v') (f : Str) : RelO (List.lookup f [(("kind" : Str), v)]) (if f = "kind" then some v' else none) := by
  by_cases hw : f = "kind"
  · subst hw
    rw [if_pos rfl]
    have q : List.lookup ("kind" : Str) [(("kind" : Str), v)] = some v := by simp [List.lookup]
    rw [q]
    exact r
  · rw [if_neg hw]
    have qw : (f == ("kind" : Str)) = false := by simpa using hw
    have q2 : List.lookup f [(("kind" : Str), v)] = none := by simp [List.lookup, qw]
    rw [q2]
    trivial
section
variable {X : Cx} {C fI : Addr}
/-- Low(e) -/
def tMkLow (C : Addr) (ta : TA) : St → Hp → XK → Prop := fun σ H Q => ta σ H fun vs H1 => ∃ v, vs = [v] ∧ ∀ d, H1 d = none → Q (.ref C) (some d) (upd H1 d (.xd [(("kind" : Str), v)]))
theorem pmk_low {a : Expr} {ta : TA} {p pos : Pos} {k : Nat} (T : PySem.LowX.LowTxt X.K X.mg C fI) (hr : Room k X.A) (ha : PA X [a] ta) (hg : Gl X "BadKind" := by rfl)
    (he : starEach (a :: []) X.env = (false, eval a X.env) :: starEach [] X.env := by rfl) (hpl : (backTo pos (starEach [] X.env)).any (·.1) = false := by rfl) :
    PMk X (.Call (.Name "BadKind" p) [a] [] pos) (tMkLow C ta) := by
  intro pins s σ H Q I h
  refine wpAny_Call_Name_kw (ld_glob I hg T.gC ?_)
  refine PySem.W.callWith_K (h₀ := X.base) I.ok.mod.kin T.kC (thn (ha.run pos pins s σ H _ I h) fun us s1 hh => ?_) he hpl
  obtain ⟨vs, H1, I1, r1, v, ev, q1⟩ := hh
  subst ev
  refine ⟨I1.kIn, ?_⟩
  cases r1 with
  | cons rv rn =>
    rename_i v' us'
    cases rn
    show wpAny _ _ (call (.ref C) [v']) _ _ _
    have hlim := I1.nolimit
    obtain ⟨hp, g, dr, tk, os⟩ := s1
    refine wpAny_call (PySem.LowX.low_made T I1.kIn hlim (by have := hr.dp; omega) fun h' tk' e d M => ?_)
    show MkP X pins σ Q (.ref e) ⟨h', g, dr, tk', os⟩
    obtain ⟨oe, fv, hoe, hc, hd, hdat, h1⟩ := M.obj
    have hns := M.ns
    obtain ⟨G', g1, g2⟩ := restrict h' fun b => decide (b ≠ e)
    have gk : ∀ b, b ≠ e → G'.get? b = h'.get? b := fun b hb => g1 b (decide_eq_true hb)
    have ge : G'.get? e = none := g2 e (by simp)
    have old : ∀ b o, hp.get? b = some o → G'.get? b = some o := fun b o q => (gk b (Nat.ne_of_lt (Nat.lt_of_lt_of_le (Heap.lt_size q) M.new))).trans (M.keep b o q)
    have ob : ObjOk X.prog X.w (upd H1 d (.xd [(("kind" : Str), v)])) G' d (.xd [(("kind" : Str), v)]) :=
      ⟨_, hns.at (fun o q => (gk d M.dne).trans q), fun f => relO_low rv f⟩
    have J : Inv X pins σ (upd H1 d (.xd [(("kind" : Str), v)])) ⟨G', g, dr, tk', os⟩ := I1.laid (t' := tk') old M.dbig ob
    refine ⟨e, oe, fv, ⟨G', g, dr, tk', os⟩, _, .ref C, some d, rfl, J, fun b o q => ?_, ge, hoe, ⟨hc, hd⟩, hdat, h1, ?_, rfl, I1.bare, raises_own T.exC T.tyC, q1 d (I1.hok.fresh M.dbig)⟩
    · by_cases hb : b = e
      · have q' : G'.get? b = some o := q
        rw [hb, ge] at q'; cases q'
      · exact (gk b hb).symm.trans q
    · rw [upd_ne (Ne.symm M.dne)]
      exact I1.hok.fresh M.new
/-- raise Low(e) -/
def tRaiseLow (C : Addr) (W : WX) (ta : TA) : TS := fun _ σ H => tMkLow C ta σ H fun cls d H' => W cls d σ H'
theorem ps_raiseLow {a : Expr} {ta : TA} {W : WX} {p pos pos2 : Pos} {k : Nat} (hc : X.calm = true) (T : PySem.LowX.LowTxt X.K X.mg C fI) (hr : Room k X.A) (tk : Takes X W) (ha : PA X [a] ta) (hg : Gl X "BadKind" := by rfl)
    (he : starEach (a :: []) X.env = (false, eval a X.env) :: starEach [] X.env := by rfl) (hpl : (backTo pos (starEach [] X.env)).any (·.1) = false := by rfl) :
    PS X (.Raise (some (.Call (.Name "BadKind" p) [a] [] pos)) none pos2) (tRaiseLow C W ta) := ps_raise hc tk (pmk_low T hr ha hg he hpl)
/-- low.by, low the exception that the suite holds (at a; its class cls, its dict d) -/
def tByLow (C : Addr) (a : Addr) (cls : Value) (d : Option Addr) (te : TE) : TE := fun σ H Q => te σ H fun x H1 => x = .ref a ∧ cls = .ref C ∧ ∃ (dd : Addr) (v : V), d = some dd ∧ H1 dd = some (.xd [(("kind" : Str), v)]) ∧ Q v H1
theorem pe_byLow {a : Addr} {oe : Obj} {cls : Value} {d : Option Addr} {pn : List (Addr × Obj)} {e : Expr} {te : TE} {pos : Pos} (T : PySem.LowX.LowTxt X.K X.mg C fI) (hz : Zc cls d oe) (hf : ∃ vs, oe.data = .fields vs) (he : PE (X.suite a ((a, oe) :: pn)) e te)
    (hb : attributeBase e "kind" X.env (eval e X.env) = eval e X.env := by rfl) :
    PE (X.suite a ((a, oe) :: pn)) (.Attribute e "kind" pos) (tByLow C a cls d te) := by
  refine ⟨fun pins s σ H Q I h => ?_⟩
  refine attr_of hb (thn (he.run pins s σ H _ I h) fun u s1 hh => ?_)
  obtain ⟨x, H1, I1, rx, ex, ec, dd, v, ed, ea, q⟩ := hh
  subst ex
  obtain rfl : u = Value.ref a := rx
  subst ec
  subst ed
  obtain ⟨ha, _⟩ := I1.pin (a, oe) (List.mem_append_left _ List.mem_cons_self)
  obtain ⟨vs, hd⟩ := hf
  have hx : ObjOk X.prog X.w H1 s1.heap dd (.xd [(("kind" : Str), v)]) := I1.hok dd _ ea
  obtain ⟨mA, hns, hr⟩ := hx
  obtain ⟨od, ho, hl⟩ := lookIn_ns hns
  have l : List.lookup ("kind" : Str) [(("kind" : Str), v)] = some v := by simp [List.lookup]
  obtain ⟨u, hu, ru⟩ := RelO.some_of (v := v) (o := mA "kind") (by rw [← l]; exact hr "kind")
  have J : PySem.W.InstAt s1.heap a oe C (some od) := ⟨ha, hz.1, by unfold PySem.W.notCls; rw [hd] <;> rfl, by rw [hz.2]; exact ho⟩
  exact HandSPX.exc_get I1.kIn J T.ga T.gg T.exC (PySem.W.findObj_own T.hdC T.noN rfl (by rw [hl, hu])) (handed_of ru) ⟨v, H1, I1.tok _, ru, q⟩
end
end L2

namespace Tq
open PySem L2
theorem exm_self {K : PySem.W.Frag} {S : Addr} (h1 : PySem.W.subIn K (.ref S) (.type "BaseException") = some true) (h2 : PySem.W.isClsIn K S = true) (h3 : PySem.W.typeIn K (.ref S) = some (.type "type")) (h4 : PySem.W.subIn K (.ref S) (.ref S) = some true) :
    PySem.W.exmOne K (.ref S) (.ref S) = some true := by
  have e1 : (PySem.W.subIn K (.ref S) (.type "BaseException") == some true) = true := by rw [h1] <;> rfl
  have e2 : ((PySem.W.clsIn K S).isSome && PySem.W.typeIn K (.ref S) == some (.type "type")) = true := by
    have h2' : (PySem.W.clsIn K S).isSome = true := h2
    rw [h2', h3] <;> rfl
  show (if (PySem.W.subIn K (.ref S) (.type "BaseException") == some true) = true then (if ((PySem.W.clsIn K S).isSome && PySem.W.typeIn K (.ref S) == some (.type "type")) = true then PySem.W.subIn K (.ref S) (.ref S) else none) else none) = some true
  rw [if_pos e1, if_pos e2]
  exact h4
end Tq


namespace K04
open PySem L2 Tq
def top (i : Nat) : Stmt := PySem.Challenge.pw_treequill_k04_fields_of_kinds.main.body.getD i (.Pass ⟨0, 0, 0, 0⟩)
def inClass (s : Stmt) (j : Nat) : Stmt := match s with
  | .ClassDef _ _ _ b _ _ _ _ _ _ _ => b.getD j (.Pass ⟨0, 0, 0, 0⟩)
  | _ => .Pass ⟨0, 0, 0, 0⟩
abbrev stable_of : Stmt := top 19
abbrev Ntable_of : List Str := ["kind", "group"]
theorem sctable_of : FnScope Ntable_of ["kind"] (defScope stable_of) := ⟨rfl, rfl, rfl, by decide +kernel, rfl, by decide +kernel, by decide +kernel⟩
abbrev ssplit_fields : Stmt := top 20
abbrev Nsplit_fields : List Str := ["kind", "row"]
theorem scsplit_fields : FnScope Nsplit_fields ["kind"] (defScope ssplit_fields) := ⟨rfl, rfl, rfl, by decide +kernel, rfl, by decide +kernel, by decide +kernel⟩
abbrev sfields_of : Stmt := top 23
abbrev Nfields_of : List Str := ["kind", "name", "held"]
theorem scfields_of : FnScope Nfields_of ["kind"] (defScope sfields_of) := ⟨rfl, rfl, rfl, by decide +kernel, rfl, by decide +kernel, by decide +kernel⟩
abbrev sstart_value : Stmt := top 24
abbrev Nstart_value : List Str := ["name", "held"]
theorem scstart_value : FnScope Nstart_value ["name", "held"] (defScope sstart_value) := ⟨rfl, rfl, rfl, by decide +kernel, rfl, by decide +kernel, by decide +kernel⟩
structure Txt (mg : Str → Option Value) : Prop where
  b_int : mg "int" = none
  b_len : mg "len" = none
  b_list : mg "list" = none
  b_tuple : mg "tuple" = none
  b_repr : mg "repr" = none
  b_str : mg "str" = none
  b_any : mg "any" = none
  b_all : mg "all" = none
  b_sorted : mg "sorted" = none
  b_dict : mg "dict" = none
  b_zip : mg "zip" = none
  b_bool : mg "bool" = none
  range : mg "range" = none
  b_isinstance : mg "isinstance" = none
section
variable {P : Program} {w : World} {K : PySem.W.Frag} {mg : Str → Option Value} {base : Heap} {t : Tb} {d1 d2 d3 d4 d5 d6 d7 : Addr}
theorem ok_table {f : Addr} {fd : FuncData} (F : Fun K "table_of" "table_of" stable_of f fd) (T : Txt mg) (G : Kd K w mg t d1 d2 d3 d4 d5 d6 d7) :
    FnG P w K mg base CX0 1 f fd ["kind"] (spTable K t) := by
  refine okG0 F sctable_of (fun vs H Q E h => ?_) (fun cdv A outer s H vs Q E hq hr h => ?_)
  · obtain ⟨v, rfl, _⟩ := h
    rfl
  · obtain ⟨v, rfl, h⟩ := h
    refine ⟨_, (pss_cons (ps_if (pt_not (pt_val (pe_callB call_isi (by rfl) T.b_isinstance (by decide +kernel) (pa_cons (pv 0) (pa_cons (pe_bltn (v := .ty "str") rfl T.b_str (by decide +kernel) rfl) pa_nil)))))
      (pss_one (ps_ret pe_non))
      pss_nil)
      (pss_cons (ps_if (pt_cmpR (op_in_tab G.t1) (pv 0) (pe_glob (v := .ref d1) rfl G.m_STATEMENTS rfl) (by rfl))
      (pss_one (ps_ret (pe_ix (ix_tabR G.t1) (pe_glob (v := .ref d1) rfl G.m_STATEMENTS rfl) (pv 0) (fun _ _ => rfl))))
      pss_nil)
      (pss_cons (ps_if (pt_cmpR (op_in_tab G.t2) (pv 0) (pe_glob (v := .ref d2) rfl G.m_EXPRESSIONS rfl) (by rfl))
      (pss_one (ps_ret (pe_ix (ix_tabR G.t2) (pe_glob (v := .ref d2) rfl G.m_EXPRESSIONS rfl) (pv 0) (fun _ _ => rfl))))
      pss_nil)
      (pss_cons (ps_if (pt_cmpR (op_in_tab G.t3) (pv 0) (pe_glob (v := .ref d3) rfl G.m_PATTERNS rfl) (by rfl))
      (pss_one (ps_ret (pe_ix (ix_tabR G.t3) (pe_glob (v := .ref d3) rfl G.m_PATTERNS rfl) (pv 0) (fun _ _ => rfl))))
      pss_nil)
      (pss_cons (ps_if (pt_cmpR (op_in_tab G.t4) (pv 0) (pe_glob (v := .ref d4) rfl G.m_PARTS rfl) (by rfl))
      (pss_one (ps_ret (pe_ix (ix_tabR G.t4) (pe_glob (v := .ref d4) rfl G.m_PARTS rfl) (pv 0) (fun _ _ => rfl))))
      pss_nil)
      (pss_cons (ps_if (pt_cmpR (op_in_tab G.t5) (pv 0) (pe_glob (v := .ref d5) rfl G.m_PLACELESS rfl) (by rfl))
      (pss_one (ps_ret (pe_ix (ix_tabR G.t5) (pe_glob (v := .ref d5) rfl G.m_PLACELESS rfl) (pv 0) (fun _ _ => rfl))))
      pss_nil)
      (pss_one (ps_ret (pe_ifExp (pt_val (pe_callB (cr_any rfl) (by rfl) T.b_any (by decide +kernel) (pa_cons (pe_lc (own := [("group", 1)]) (by rfl) sctable_of.nd (pi_kd G.t6 (pe_glob (v := .ref d6) rfl G.m_GROUPS rfl)) (blkOk_by (own := [("group", 1)]) (N := Ntable_of) (sc := defScope stable_of) (by decide +kernel)) (fun _ _ _ _ _ => (pg_name (i := 1) sctable_of.nd rfl (Or.inl rfl))) (fun _ _ _ _ _ => pts_nil) (fun _ _ _ _ _ => (pe_cmpR (castOp (K := K) (r := (fun K => rIn K false)) op_in_seq) (pv 0) (pe_ix (castIx (K := K) (r := fun K => rIxTab K d6 t.gr) (ix_tabR G.t6)) (pe_glob (v := .ref d6) rfl G.m_GROUPS rfl) (pv 1) (fun _ _ => rfl)) (by rfl)))) pa_nil))) (pe_tup pa_nil) pe_non))))))))), ?_⟩
    rcases h with ⟨z, rfl, hs, hn⟩ | ⟨ty, hty, hk, hq0⟩
    · refine ⟨_, rfl, _, _, _, _, true, rfl, .ty "str", .base (.str z), kit_ty (by decide +kernel), _, rfl, if0 rfl ?_⟩
      refine ⟨_, rfl, z, rfl, rfl, _, rfl, ?_⟩
      cases e1 : t.st.lookup z with
      | some rows => exact if1 rfl ⟨_, rfl, z, rows, rfl, rfl, e1, fun a ka => hs rows (by unfold Tb.rows; rw [e1]) a H (Same.refl H) (ka.sq H)⟩
      | none =>
      refine if0 rfl ⟨_, rfl, z, rfl, rfl, _, rfl, ?_⟩
      cases e2 : t.ex.lookup z with
      | some rows => exact if1 rfl ⟨_, rfl, z, rows, rfl, rfl, e2, fun a ka => hs rows (by unfold Tb.rows; rw [e1, e2]) a H (Same.refl H) (ka.sq H)⟩
      | none =>
      refine if0 rfl ⟨_, rfl, z, rfl, rfl, _, rfl, ?_⟩
      cases e3 : t.pa.lookup z with
      | some rows => exact if1 rfl ⟨_, rfl, z, rows, rfl, rfl, e3, fun a ka => hs rows (by unfold Tb.rows; rw [e1, e2, e3]) a H (Same.refl H) (ka.sq H)⟩
      | none =>
      refine if0 rfl ⟨_, rfl, z, rfl, rfl, _, rfl, ?_⟩
      cases e4 : t.pr.lookup z with
      | some rows => exact if1 rfl ⟨_, rfl, z, rows, rfl, rfl, e4, fun a ka => hs rows (by unfold Tb.rows; rw [e1, e2, e3, e4]) a H (Same.refl H) (ka.sq H)⟩
      | none =>
      refine if0 rfl ⟨_, rfl, z, rfl, rfl, _, rfl, ?_⟩
      cases e5 : t.pl.lookup z with
      | some rows => exact if1 rfl ⟨_, rfl, z, rows, rfl, rfl, e5, fun a ka => hs rows (by unfold Tb.rows; rw [e1, e2, e3, e4, e5]) a H (Same.refl H) (ka.sq H)⟩
      | none =>
      have er : t.rows z = if (t.gr.any fun g => g.2.contains z) = true then some [] else none := by unfold Tb.rows; rw [e1, e2, e3, e4, e5]
      refine if0 rfl ⟨rfl, fun D hD => ?_⟩
      refine lc_kd (fun i H' => Same H H' ∧ H' D = some (.lst ((t.gr.take i).map fun g => V.bl (g.2.contains z)))) ⟨same_new hD, upd_same⟩ (fun i k H' hi h => ?_) (fun H' h => ?_)
      · obtain ⟨sm, hd⟩ := h
        obtain ⟨rows, g1, g2⟩ := look_at G.ok.gnd hi
        have hlt : i < t.gr.length := (List.getElem?_eq_some_iff.mp g1).1
        refine ⟨rfl, yes ⟨_, rfl, _, rfl, k, rows, rfl, rfl, g2, fun a ka => ⟨a, _, rfl, .inr (ka.sq _), rfl, flat_strs _, _, hd, ?_, ?_, ?_⟩⟩⟩
        · rw [List.length_map, List.length_take]
          have := G.ok.glen
          exact Nat.lt_of_le_of_lt (Nat.le_trans (Nat.min_le_right _ _) this) (by decide)
        · exact fun b o e => by
            rw [upd_ne (fun q => by rw [q, hD] at e; cases e)]
            exact sm b o e
        · rw [upd_same, inV_strs, List.take_add_one, g1, List.map_append]
          rfl
      · obtain ⟨sm, hd⟩ := h
        rw [List.length_map, List.take_length] at hd
        refine ⟨D, t.gr.map fun g => g.2.contains z, rfl, SqL.of (by rw [List.map_map]; exact hd), _, rfl, ?_⟩
        have ea : (t.gr.map fun g => g.2.contains z).any id = t.gr.any fun g => g.2.contains z := by rw [List.any_map]; rfl
        rw [ea]
        cases eb : t.gr.any fun g => g.2.contains z with
        | true =>
          refine if1 rfl ⟨by decide, fun p hp => hs [] (by rw [er, eb]; rfl) p _ (fun b o e => ?_) (.inl (.inl upd_same))⟩
          exact same_new hp b o (sm b o e)
        | false => exact if0 rfl (hn (by rw [er, eb]; rfl) H' sm)
    · refine ⟨_, rfl, _, _, _, _, false, rfl, .ty "str", hty, hk, _, rfl, if1 rfl hq0⟩
end

end K04


namespace K04
open PySem L2 Tq
section
variable {P : Program} {w : World} {K : PySem.W.Frag} {mg : Str → Option Value} {base : Heap} {t : Tb}
theorem ok_split {f : Addr} {fd : FuncData} (F : Fun K "split_fields" "split_fields" ssplit_fields f fd) (T : Txt mg) (G : TbOk t) (Dtable_of : Df P w K mg base CX0 1 "table_of" (spTable K t)) :
    FnG P w K mg base CX0 2 f fd ["kind"] (spSplit t) := by
  refine okG0 F scsplit_fields (fun vs H Q E h => ?_) (fun cdv A outer s H vs Q E hq hr h => ?_)
  · obtain ⟨z, rows, rfl, _⟩ := h
    rfl
  · obtain ⟨z, rows, rfl, hz, h⟩ := h
    refine ⟨_, (pss_one (ps_ret (pe_lc (own := [("row", 1)]) (by rfl) scsplit_fields.nd (pi_tup (pe_df Dtable_of hq hr pass0 (pa_cons (pv 0) pa_nil))) (blkOk_by (own := [("row", 1)]) (N := Nsplit_fields) (sc := defScope ssplit_fields) (by decide +kernel)) (fun _ _ _ _ _ => (pg_name (i := 1) scsplit_fields.nd rfl (Or.inl rfl))) (fun _ _ _ _ _ => pts_nil) (fun _ _ _ _ _ => (pe_callTy (castCall (K := K) (r := rTupOf) call_tuple_of) (by rfl) T.b_tuple (by decide +kernel) (pa_cons (pe_split (pv 1) pe_str) pa_nil)))))), ?_⟩
    refine ⟨_, rfl, V.str z, rfl, .inl ⟨z, rfl, fun rows' hz' a H1 sm hsq => ?_, fun hn => absurd (hz.symm.trans hn) (fun e => nomatch e)⟩⟩
    obtain rfl : rows = rows' := Option.some.inj (hz.symm.trans hz')
    obtain ⟨rok, _, _, rlen⟩ := G.row z rows hz
    refine ⟨a, rfl, ⟨_, hsq⟩, fun D hD => ?_⟩
    refine lc_tup (xs := rows.map V.str) (fun i H' => Same H1 H' ∧ ∃ qs, H' D = some (.lst qs) ∧ qs.length = i ∧ Flds H' qs (rows.take i)) ⟨same_new hD, [], upd_same, rfl, .nil⟩ (fun i H' _ h => sqT_same h.1 hsq) (fun i x H' hi hv => ?_) (fun H' hv => ?_)
    · obtain ⟨sm1, qs, hd, ql, fl⟩ := hv
      obtain ⟨r, hr, rfl⟩ : ∃ r, rows[i]? = some r ∧ V.str r = x := by simpa using hi
      have hlt : i < rows.length := (List.getElem?_eq_some_iff.mp hr).1
      have ro := rok r (List.mem_of_getElem? hr)
      refine ⟨rfl, yes ⟨_, rfl, ⟨r, rfl⟩, r, " ", rfl, rfl, rfl, ro.len, fun p hp => ⟨p, _, rfl, .inl ⟨SqL.of upd_same, fun l hl => ?_⟩⟩⟩⟩
      have hpD : D ≠ p := fun e => by rw [e, hp] at hd; cases hd
      have s2 := same_new (o := .lst ((Txt.split r " ").map V.str)) hp
      generalize upd H' p (.lst ((Txt.split r " ").map V.str)) = H2 at hl s2 ⊢
      have hlD : D ≠ l := fun e => by rw [← e] at hl; rw [s2 D _ hd] at hl; cases hl
      have s3 := same_new (o := .tup ((Txt.split r " ").map V.str)) hl
      have e3 : (upd H2 l (.tup ((Txt.split r " ").map V.str))) l = some (.tup ((Txt.split r " ").map V.str)) := upd_same
      generalize upd H2 l (.tup ((Txt.split r " ").map V.str)) = H3 at s3 e3 ⊢
      have d3 : H3 D = some (.lst qs) := s3 D _ (s2 D _ hd)
      refine ⟨qs, d3, by rw [ql]; exact Nat.lt_of_lt_of_le hlt (Nat.le_trans rlen (by decide)), ?_⟩
      have tp : ∀ b xs, H3 b = some (.tup xs) → (upd H3 D (.lst (qs ++ [V.ref l]))) b = some (.tup xs) := fun b xs e => by
        rw [upd_ne (fun q => by rw [q, d3] at e; cases e)]
        exact e
      refine ⟨fun b o e => ?_, qs ++ [.ref l], upd_same, by simp [ql], ?_⟩
      · rw [upd_ne (fun q => by rw [q, hD] at e; cases e)]
        exact s3 b o (s2 b o (sm1 b o e))
      · rw [List.take_add_one, hr]
        refine Flds.snoc ⟨l, rfl, tp l _ ?_⟩ (Flds.but tp (fl.same (s2.trans s3)))
        rw [e3, ro.two]
        rfl
    · obtain ⟨sm1, qs, hd, ql, fl⟩ := hv
      rw [List.length_map, List.take_length] at fl
      exact h D qs H' (sm.trans sm1) (same_none sm hD) hd fl
theorem ok_fields {f : Addr} {fd : FuncData} (F : Fun K "fields_of" "fields_of" sfields_of f fd) (T : Txt mg) (G : TbOk t) (Dtable_of : Df P w K mg base CX0 1 "table_of" (spTable K t)) (Dsplit_fields : Df P w K mg base CX0 2 "split_fields" (spSplit t)) :
    FnG P w K mg base CX0 3 f fd ["kind"] (spFields t) := by
  refine okG0 F scfields_of (fun vs H Q E h => ?_) (fun cdv A outer s H vs Q E hq hr h => ?_)
  · obtain ⟨z, rows, rfl, _⟩ := h
    rfl
  · obtain ⟨z, rows, rfl, hz, h⟩ := h
    refine ⟨_, (pss_cons (ps_if (pt_cmpR op_isN (pe_df Dtable_of hq hr pass0 (pa_cons (pv 0) pa_nil)) pe_non (nomark _))
      (pss_one L2.ps_never)
      pss_nil)
      (pss_one (ps_ret (pe_callTy call_tuple_of (by rfl) T.b_tuple (by decide +kernel) (pa_cons (pe_lc (own := [("name", 1), ("held", 2)]) (by rfl) scfields_of.nd (pi_list (pe_df Dsplit_fields hq hr pass0 (pa_cons (pv 0) pa_nil))) (blkOk_by (own := [("name", 1), ("held", 2)]) (N := Nfields_of) (sc := defScope sfields_of) (by decide +kernel)) (fun _ _ _ _ _ => (castPG (K := K) (r := fun K => gTup K 2 _) (pg_tup (by rfl) (pgs_cons (pg_name (i := 1) scfields_of.nd rfl (Or.inl rfl)) (pgs_cons (pg_name (i := 2) scfields_of.nd rfl (Or.inl rfl)) pgs_nil))))) (fun _ _ _ _ _ => pts_nil) (fun _ _ _ _ _ => (pv 1))) pa_nil))))), ?_⟩
    refine ⟨_, rfl, V.str z, rfl, .inl ⟨z, rfl, fun rows' hz' a H1 sm hsq => ?_, fun hn => absurd (hz.symm.trans hn) (fun e => nomatch e)⟩⟩
    obtain rfl : rows = rows' := Option.some.inj (hz.symm.trans hz')
    obtain ⟨rok, _, _, rlen⟩ := G.row z rows hz
    refine ⟨rfl, _, rfl, if0 (decide_eq_false (fun e => nomatch e)) ?_⟩
    refine ⟨_, rfl, z, rows, rfl, hz, fun p qs H2 sm2 hp hl fl => ⟨p, rfl, ⟨qs, SqL.of hl⟩, fun D hD => ?_⟩⟩
    refine lc_list (xs := qs) (fun i H' => Same H2 H' ∧ H' D = some (.lst ((rows.take i).map fun r => V.str (rowN r)))) ⟨same_new hD, upd_same⟩ (fun i H' _ h => sqL_same h.1 (SqL.of hl)) (fun i x H' hi hv => ?_) (fun H' hv => ?_)
    · obtain ⟨sm3, hd⟩ := hv
      obtain ⟨r, b, hr, rfl, hb⟩ := fl.get hi
      have hlt : i < rows.length := (List.getElem?_eq_some_iff.mp hr).1
      refine ⟨b, _, rfl, .inl (.inl (sm3 b _ hb)), rfl, _, _, rfl, _, _, rfl, rfl, rfl, yes ⟨_, rfl, _, hd, ?_, ?_, ?_⟩⟩
      · rw [List.length_map, List.length_take]
        exact Nat.lt_of_le_of_lt (Nat.min_le_left _ _) (Nat.lt_of_lt_of_le hlt (Nat.le_trans rlen (by decide)))
      · exact fun c o e => by
          rw [upd_ne (fun q => by rw [q, hD] at e; cases e)]
          exact sm3 c o e
      · rw [upd_same, List.take_add_one, hr, List.map_append]
        rfl
    · obtain ⟨sm3, hd⟩ := hv
      have hn : qs.length = rows.length := Paired.length fl
      rw [hn, List.take_length] at hd
      refine ⟨D, _, rfl, .inl ⟨SqL.of hd, fun l hl => h l _ ?_ (same_none (sm.trans (sm2.trans sm3)) hl) upd_same⟩⟩
      exact (sm.trans (sm2.trans sm3)).trans (same_new hl)
end

end K04

set_option pp.maxSteps 400

namespace K04
open PySem L2 Tq
abbrev sNode___init__ : Stmt := inClass (top 25) 0
abbrev NNode___init__ : List Str := ["self", "kind", "parts", "more", "names", "given", "name", "what"]
theorem scNode___init__ : FnScope NNode___init__ ["self", "kind", "parts", "more"] (defScope sNode___init__) := ⟨rfl, rfl, rfl, by decide +kernel, rfl, by decide +kernel, by decide +kernel⟩
section
variable {P : Program} {w : World} {K : PySem.W.Frag} {mg : Str → Option Value} {base : Heap} {t : Tb} {C : Addr}
theorem ok_start {f : Addr} {fd : FuncData} (F : Fun K "start_value" "start_value" sstart_value f fd) (T : Txt mg) (G : TbOk t) (Dnode : Nd P w K mg base CX0 4 "Node" C "self" "kind" (spInit t C false)) :
    FnG P w K mg base CX0 6 f fd ["name", "held"] (spStart C true) := by
  refine okG0 F scstart_value (fun vs H Q E h => ?_) (fun cdv A outer s H vs Q E hq hr h => ?_)
  · obtain ⟨_, n, h, rfl, _⟩ := h
    rfl
  · obtain ⟨_, n, h, rfl, hl, hz, k⟩ := h
    refine ⟨_, (pss_cons (ps_if (pt_cmpR op_in_str (pe_ix ix_str (pv 1) (pe_un un_neg pe_int) (fun _ _ => rfl)) pe_str (by rfl))
      (pss_one (ps_ret (pe_lst pa_nil)))
      pss_nil)
      (pss_one (ps_ret (pe_ifExp (pt_cmpR op_eq (pv 0) pe_str (nomark _)) (pe_makeW0 Dnode hq hr pass0 (pa_cons pe_str pa_nil)) pe_non)))), ?_⟩
    obtain ⟨c, hc⟩ := Option.isSome_iff_exists.mp hl
    have em : isMany h = !(Builtin.Str.occurrences "*+" ⟨#[c]⟩ 0 ("*+" : Str).length 1).isEmpty := by unfold isMany; rw [hc]
    refine ⟨_, rfl, _, rfl, h, -1, c, rfl, rfl, hz, hc, _, _, rfl, rfl, _, rfl, ?_⟩
    cases hm : isMany h with
    | true =>
      refine if1 (em.symm.trans hm) ⟨by decide, fun p hp => k (.ref p) [p] _ (same_new hp) (.inl ⟨hm, p, rfl, rfl, upd_same⟩) fun a ha => ?_⟩
      rw [List.mem_singleton.mp ha]
      exact hp
    | false =>
      refine if0 (em.symm.trans hm) ⟨_, rfl, rfl, _, rfl, ?_⟩
      by_cases hn : n = "ctx"
      · subst hn
        refine if1 (decide_eq_true rfl) ⟨_, [], rfl, by decide, rfl, fun x dx p d hx hdx nx hp hd px pdx xd ddx dp => ?_⟩
        refine ⟨x, dx, p, d, "Load", [], [], [], rfl, ?_, ?_, upd_same, G.load, fun _ => rfl, Nat.le_refl _, Nat.zero_le _, List.nodup_nil, (fun _ h => nomatch h), fun hh hd' fps H' M => ⟨rfl, ?_⟩⟩
        · rw [upd_ne xd.symm, upd_ne px.symm, upd_same]
        · rw [upd_ne dp.symm, upd_same]
        have sm : Same H (upd (upd (upd (upd H dx (.own x)) x (.ins C dx [])) p (.tup [])) d (.dK (kdOf [] []))) := fun b o e => by
          have ne : ∀ {c : Addr}, H c = none → b ≠ c := fun hc q => by rw [q, hc] at e; cases e
          rw [upd_ne (ne hd), upd_ne (ne hp), upd_ne (ne hx), upd_ne (ne hdx)]
          exact e
        have gx : (upd (upd (upd (upd H dx (.own x)) x (.ins C dx [])) p (.tup [])) d (.dK (kdOf [] []))) x ≠ none := by rw [upd_ne xd.symm, upd_ne px.symm, upd_same]; exact fun e => nomatch e
        have gdx : (upd (upd (upd (upd H dx (.own x)) x (.ins C dx [])) p (.tup [])) d (.dK (kdOf [] []))) dx = some (.own x) := by rw [upd_ne ddx.symm, upd_ne pdx.symm, upd_ne nx, upd_same]
        have h1 : x ≠ hh := fun e => gx (e ▸ M.new)
        have h2 : dx ≠ hh := fun e => by
          have z := M.new
          rw [← e, gdx] at z
          cases z
        have en := M.ents
        cases en
        refine k (.ref x) [x, dx, hh] H' (fun b o e => M.keep b o (sm b o e) (fun q => by rw [q, hx] at e; cases e)) (.inr (.inl ⟨hm, rfl, x, dx, hh, rfl, rfl, by simp [h1, h2, nx.symm], M.keep dx _ gdx nx, M.node, M.held⟩)) fun a ha => ?_
        simp only [List.mem_cons, List.not_mem_nil, or_false] at ha
        rcases ha with e | e | e
        · rw [e]; exact hx
        · rw [e]; exact hdx
        · rw [e]; exact same_none sm M.new
      · refine if0 (decide_eq_false (fun e => hn (by cases e; rfl))) (k .non [] H (Same.refl H) (.inr (.inr ⟨hm, hn, rfl, rfl⟩)) (fun _ h => nomatch h))
theorem ok_init {f : Addr} {fd : FuncData} {d1 d2 d3 d4 d5 d6 d7 : Addr} (F : Fun K "__init__" "Node.__init__" sNode___init__ f fd) (T : Txt mg) (G : Kd K w mg t d1 d2 d3 d4 d5 d6 d7) (N : NdC K C) (b : Bool) (m : Nat) (hm : 3 ≤ m) (Dfields_of : Df P w K mg base CX0 3 "fields_of" (spFields t))
    (Dsplit_fields : Df P w K mg base CX0 2 "split_fields" (spSplit t)) (Dstart_value : Df P w K mg base CX0 m "start_value" (spStart C b)) :
    FnKw P w K mg base CX0 (m + 1) f ["self", "kind"] (spInit t C b) := by
  refine okKw0 F rfl scNode___init__ (by decide) (fun cdv A outer s H vs Q E hq hr h => ?_)
  obtain ⟨x, dx, p, d, z, rows, rest, kd, rfl, hx, hp, hd, hz, hb, hl, kl, knd, kin, k⟩ := h
  refine ⟨_, (pss_cons (ps_set (i := 4) scNode___init__.nd rfl (Or.inl rfl) (pe_df Dfields_of hq hr pass0 (pa_cons (pv 1) pa_nil)))
      (pss_cons (ps_if (pt_cmpR op_gt (pe_callB call_len_seq (by rfl) T.b_len (by decide +kernel) (pa_cons (pv 2) pa_nil)) (pe_callB call_len_seq (by rfl) T.b_len (by decide +kernel) (pa_cons (pv 4) pa_nil)) (nomark _))
      (pss_one L2.ps_never)
      pss_nil)
      (pss_cons (ps_set (i := 5) scNode___init__.nd rfl (Or.inl rfl) (pe_dictZip rfl rfl T.b_zip rfl T.b_dict (pa_cons (pv 4) (pa_cons (pv 2) pa_nil))))
      (pss_cons (ps_lock (ps_for PassesOwn.never rfl (pi_keys (pv 3)) (pg_name (i := 6) scNode___init__.nd rfl (Or.inl rfl))
      (pss_cons (ps_if (PW.pt (pw_or (pt_cmpR op_notIn_seq (pv 6) (pe_op op_catA (pv 4) (pe_glob (v := .ref d7) rfl G.m_PLACE rfl)) (by rfl)) (pw_or1 (pt_cmp (pc_din (hu_of hr) (pv 6) (pv 5))))))
      (pss_one L2.ps_never)
      pss_nil)
      (pss_one (ps_dput (hu_of hr) (pv 5) (pv 6) (pe_dget (hu_of hr) (pv 3) (pv 6) (fun _ _ => rfl)) rfl)))))
      (pss_cons (ps_fld (pv 0) (pv 1) rfl)
      (pss_cons (ps_fld (pv 0) pe_dnewK rfl)
      (pss_cons (ps_for PassesOwn.never rfl (pi_list (pe_df Dsplit_fields hq hr pass0 (pa_cons (pv 1) pa_nil))) (pg_tup (by rfl) (pgs_cons (pg_name (i := 6) scNode___init__.nd rfl (Or.inl rfl)) (pgs_cons (pg_name (i := 7) scNode___init__.nd rfl (Or.inl rfl)) pgs_nil)))
      (pss_one (ps_dput (hu_of hr) (pe_fld (pv 0) rfl) (pv 6) (pe_ifExp (pt_cmp (pc_din (hu_of hr) (pv 6) (pv 5))) (pe_dget (hu_of hr) (pv 5) (pv 6) (fun _ _ => rfl)) (pe_df Dstart_value hq hr pass0 (pa_cons (pv 6) (pa_cons (pv 7) pa_nil)))) rfl)))
      (pss_cons (ps_fld (pv 0) (pe_dget1 (hu_of hr) (pv 5) pe_str ⟨rfl, rfl, rfl, rfl⟩) rfl)
      (pss_cons (ps_fld (pv 0) (pe_dget1 (hu_of hr) (pv 5) pe_str ⟨rfl, rfl, rfl, rfl⟩) rfl)
      (pss_cons (ps_fld (pv 0) (pe_dget1 (hu_of hr) (pv 5) pe_str ⟨rfl, rfl, rfl, rfl⟩) rfl)
      (pss_one (ps_fld (pv 0) (pe_dget1 (hu_of hr) (pv 5) pe_str ⟨rfl, rfl, rfl, rfl⟩) rfl)))))))))))), ?_⟩
  obtain ⟨rok, rnd, rpl, rlen⟩ := G.ok.row z rows hz
  have en : (rows.map fun r => V.str (rowN r)) = (rows.map rowN).map V.str := by rw [List.map_map]; rfl
  -- names
  refine ⟨_, rfl, z, rows, rfl, hz, fun pn H1 sm1 hpn0 hpn => nm ?_⟩
  dsimp only
  rw [en] at hpn
  refine ⟨_, rfl, p, rest, rfl, .inr (.inl (.inl (sm1 p _ hp))), _, rfl, pn, _, rfl, .inr (.inl (.inl hpn)), _, _, rfl, rfl, _, rfl, if0 (decide_eq_false ?_) ?_⟩
  · rw [List.length_map, List.length_map]
    omega
  -- given
  refine ⟨_, rfl, _, rfl, pn, p, rows.map rowN, rest, rfl, .inl (.inl hpn), .inl (.inl (sm1 p _ hp)), fun g hg => nm ?_⟩
  dsimp only
  have kk : (kdOf (rows.map rowN) rest).map (·.1) = ((rows.map rowN).take rest.length).map Sum.inr := kdOf_keys (by rw [List.length_map]; exact hl)
  have gnd : ((kdOf (rows.map rowN) rest ++ kd).map (·.1)).Nodup := by
    rw [List.map_append, kk, List.nodup_append]
    refine ⟨List.Pairwise.map Sum.inr (fun _ _ h e => h (Sum.inr.inj e)) (rnd.sublist (List.take_sublist _ _)), knd, fun a ha b hb e => ?_⟩
    obtain ⟨n, e1, _, e3⟩ := kin b hb
    obtain ⟨n', hn', e4⟩ := List.mem_map.mp ha
    have : n' = n := Sum.inr.inj (e4.trans (e.trans e1))
    exact e3 (this ▸ hn')
  have gnd0 : ((kdOf (rows.map rowN) rest).map (·.1)).Nodup := by
    rw [List.map_append, List.nodup_append] at gnd
    exact gnd.1
  rw [mergeK_new (by rw [List.nil_append]; exact gnd0), List.nil_append]
  have sm2 := same_new (o := .dK (kdOf (rows.map rowN) rest)) hg
  have hg2 : (upd H1 g (.dK (kdOf (rows.map rowN) rest))) g = some (.dK (kdOf (rows.map rowN) rest)) := upd_same
  generalize upd H1 g (.dK (kdOf (rows.map rowN) rest)) = H2 at sm2 hg2 ⊢
  have s02 := sm1.trans sm2
  have hgH : H g = none := same_none sm1 hg
  have hgd : g ≠ d := fun e => by rw [e, hd] at hgH; cases hgH
  have hgx : g ≠ x := fun e => by rw [e, hx] at hgH; cases hgH
  have hpng : pn ≠ g := fun e => by rw [e, hg] at hpn; cases hpn
  have hpnd : pn ≠ d := fun e => by rw [e, hd] at hpn0; cases hpn0
  -- the keywords
  refine ⟨d, .dK kd, s02 d _ hd, trivial, fun od => ⟨_, rfl, d, od, rfl, .inl ⟨kd, upd_same, ?_⟩⟩⟩
  refine for_it walk_keys (fun i σ' H' => (∃ s6, σ' = [some (.ref x), some (.str z), some (.ref p), some (.ref d), some (.ref pn), some (.ref g), s6, none]) ∧ H' d = some (.frz od (.dK kd)) ∧ H' g = some (.dK (kdOf (rows.map rowN) rest ++ kd.take i)) ∧
    (∀ b o, H2 b = some o → b ≠ g → b ≠ d → H' b = some o)) ⟨⟨none, rfl⟩, upd_same, ?_, fun b o e _ ne => by rw [upd_ne ne]; exact e⟩ (fun _ _ _ _ h => h.2.1) (fun i y σ' H' H'' hi pv hy => ?_) (fun σ' H' pv => ?_)
  · rw [upd_ne hgd, hg2, List.take_zero, List.append_nil]
  · obtain ⟨⟨s6, rfl⟩, hdf, hgf, kp⟩ := pv
    obtain ⟨rfl, k', v', hk, rfl⟩ := hy
    obtain ⟨n, rfl, n1, n2⟩ := kin k' (List.mem_map.mpr ⟨_, List.mem_of_getElem? hk, rfl⟩)
    refine nm ?_
    have sqp : SqT K H'' pn ((rows.map rowN).map V.str) := .inl (.inl (kp pn _ (sm2 pn _ hpn) hpng hpnd))
    refine ⟨_, rfl, _, rfl, ?_⟩
    simp only [tC]
    refine catA_to sqp (G.t7.sq _) ?_ fun q H3 sm3 sq3 => ?_
    · rw [List.length_map, List.length_map, List.length_map]
      exact Nat.le_trans (Nat.add_le_add_right rlen 4) (by decide)
    rw [← List.map_append] at sq3
    refine ⟨q, _, rfl, .inr sq3, rfl, flat_strs _, _, rfl, if0 ?_ ?_⟩
    · show (!inV (V.str n) _) = false
      rw [inV_strs, List.contains_iff_mem.mpr n1]
      rfl
    have nin : (Sum.inr n : Key) ∉ (kdOf (rows.map rowN) rest ++ kd.take i).map (·.1) := by
      have hlt : i < kd.length := (List.getElem?_eq_some_iff.mp hk).1
      have e : kdOf (rows.map rowN) rest ++ kd = (kdOf (rows.map rowN) rest ++ kd.take i) ++ kd.drop i := by rw [List.append_assoc, List.take_append_drop]
      rw [e, List.map_append, List.nodup_append] at gnd
      refine fun hm => gnd.2.2 _ hm (Sum.inr n) ?_ rfl
      exact List.mem_map.mpr ⟨(Sum.inr n, v'), by rw [List.mem_drop_iff_getElem]; exact ⟨0, by simpa using hlt, by simpa using (List.getElem?_eq_some_iff.mp hk).2⟩, rfl⟩
    refine ⟨_, rfl, _, rfl, g, none, rfl, .inl ⟨_, Sum.inr n, .inl (sm3 g _ hgf), rfl, (valV_none nin).symm⟩, _, rfl, if0 rfl ?_⟩
    have hlen : (kdOf (rows.map rowN) rest ++ kd.take i).length < sizeLine := by
      rw [List.length_append, List.length_take, List.length_zip, List.length_map, List.length_map]
      exact Nat.lt_of_le_of_lt (Nat.add_le_add (Nat.le_trans (Nat.min_le_left _ _) rlen) (Nat.le_trans (Nat.min_le_right _ _) kl)) (by decide)
    refine ⟨_, rfl, _, rfl, d, v', rfl, .inl ⟨kd, Sum.inr n, .inr ⟨od, sm3 d _ hdf⟩, rfl, (valV_at knd hk).symm⟩, _, rfl, _, rfl, g, _, rfl, .inl ⟨_, Sum.inr n, sm3 g _ hgf, rfl, hlen, rfl⟩, ?_⟩
    refine ⟨⟨_, rfl⟩, ?_, ?_, fun b o e n1 n2 => ?_⟩
    · rw [upd_ne hgd.symm]
      exact sm3 d _ hdf
    · rw [upd_same, putK_new nin, List.take_add_one, hk, List.append_assoc]
      rfl
    · rw [upd_ne n1]
      exact sm3 b o (kp b o e n1 n2)
  obtain ⟨⟨s6, rfl⟩, hdf, hgf, kp⟩ := pv
  refine ⟨hdf, ?_⟩
  rw [List.take_length] at hgf
  obtain ⟨given, eg⟩ : ∃ given, given = kdOf (rows.map rowN) rest ++ kd := ⟨_, rfl⟩
  rw [← eg] at hgf gnd k
  have k3 : ∀ b o, H b = some o → (upd H' d (.dK kd)) b = some o := fun b o e => by
    by_cases hbd : b = d
    · subst hbd
      rw [upd_same]
      exact hd.symm.trans e
    · rw [upd_ne hbd]
      exact kp b o (s02 b o e) (fun q => by rw [q, hgH] at e; cases e) hbd
  have hg3 : (upd H' d (.dK kd)) g = some (.dK given) := by rw [upd_ne hgd]; exact hgf
  generalize upd H' d (.dK kd) = H3 at k3 hg3 ⊢
  -- kind, held
  refine ⟨_, rfl, _, rfl, x, C, dx, [], rfl, k3 x _ hx, N.cls, N.no _ (by simp), by decide, ?_⟩
  refine fun hh hhn => ⟨_, rfl, x, C, dx, putF "kind" (.str z) [], rfl, ?_, N.cls, N.no _ (by simp), (by show 1 < 1000; decide), ?_⟩
  · rw [upd_ne (fun e => by rw [← e, upd_same] at hhn; cases hhn), upd_same]
  have hxh : hh ≠ x := fun e => by rw [e, upd_same] at hhn; cases hhn
  have hh3 : H3 hh = none := by rw [upd_ne hxh] at hhn; exact hhn
  obtain ⟨H5, e5⟩ : ∃ H5, H5 = upd (upd (upd H3 x (.ins C dx (putF "kind" (.str z) []))) hh (.dK [])) x (.ins C dx (putF "held" (.ref hh) (putF "kind" (.str z) []))) := ⟨_, rfl⟩
  rw [← e5]
  have hx5 : H5 x = some (.ins C dx (putF "held" (.ref hh) (putF "kind" (.str z) []))) := by rw [e5, upd_same]
  have hh5 : H5 hh = some (.dK []) := by rw [e5, upd_ne hxh, upd_same]
  have k5 : ∀ b o, H3 b = some o → b ≠ x → H5 b = some o := fun b o e n1 => by
    rw [e5, upd_ne n1, upd_ne (fun q => by rw [q, hh3] at e; cases e), upd_ne n1]
    exact e
  clear e5 hhn
  -- the fields
  refine ⟨_, rfl, z, rows, rfl, hz, fun pq qs H6 sm6 hpq hlst fl => ⟨pq, rfl, ⟨qs, SqL.of hlst⟩, ?_⟩⟩
  have hx6 := sm6 x _ hx5
  have hh6 := sm6 hh _ hh5
  have hg6 := sm6 g _ (k5 g _ hg3 hgx)
  have hgh : g ≠ hh := fun e => by rw [e, hh3] at hg3; cases hg3
  refine for_list (K := K) (xs := qs) (fun i σ' H' => (∃ s6 s7, σ' = [some (.ref x), some (.str z), some (.ref p), some (.ref d), some (.ref pn), some (.ref g), s6, s7]) ∧ (∀ b o, H6 b = some o → b ≠ hh → H' b = some o) ∧
    ∃ hl fps, H' hh = some (.dK hl) ∧ Ents C H' given (rows.take i) hl fps ∧ fps.flatten.Nodup ∧ ∀ a ∈ fps.flatten, H6 a = none) ⟨⟨s6, none, rfl⟩, fun b o e _ => e, [], [], hh6, .nil, List.nodup_nil, fun _ h => nomatch h⟩
    (fun i σ' H' _ h => SqL.of (h.2.1 pq _ hlst (fun e => by rw [e, hh6] at hlst; cases hlst))) (fun i q σ' H' hi pv => ?_) (fun σ' H' pv => ?_)
  · obtain ⟨⟨s6, s7, rfl⟩, kp, hl, fps, hhH, ents, fnd, fnew⟩ := pv
    obtain ⟨r, b', hr, rfl, hb'⟩ := fl.get hi
    have hlt : i < rows.length := (List.getElem?_eq_some_iff.mp hr).1
    have ro := rok r (List.mem_of_getElem? hr)
    have gH := kp g _ hg6 hgh
    have xH := kp x _ hx6 hxh.symm
    have keys : hl.map (·.1) = (rows.take i).map fun r => Sum.inr (rowN r) := ents.keys
    have nin : (Sum.inr (rowN r) : Key) ∉ hl.map (·.1) := by
      rw [keys]
      intro hm
      obtain ⟨r', hr', e⟩ := List.mem_map.mp hm
      have e' : rowN r' = rowN r := Sum.inr.inj e
      have sp : rows.map rowN = (rows.take i).map rowN ++ (rows.drop i).map rowN := by rw [← List.map_append, List.take_append_drop]
      rw [sp, List.nodup_append] at rnd
      refine rnd.2.2 _ (List.mem_map.mpr ⟨r', hr', rfl⟩) (rowN r) (List.mem_map.mpr ⟨r, ?_, rfl⟩) e'
      rw [List.mem_drop_iff_getElem]
      exact ⟨0, by simpa using hlt, by simpa using (List.getElem?_eq_some_iff.mp hr).2⟩
    have hlen : hl.length < sizeLine := by
      have := congrArg List.length keys
      rw [List.length_map, List.length_map, List.length_take] at this
      rw [this]
      exact Nat.lt_of_le_of_lt (Nat.le_trans (Nat.min_le_right _ _) rlen) (by decide)
    have et : rows.take (i + 1) = rows.take i ++ [r] := by rw [List.take_add_one, hr]; rfl
    refine ⟨b', _, rfl, .inl (.inl (kp b' _ hb' (fun e => by rw [e, hh6] at hb'; cases hb'))), rfl, _, _, rfl, _, _, rfl, rfl, ?_⟩
    refine ⟨_, rfl, _, rfl, g, valV given (Sum.inr (rowN r)), rfl, .inl ⟨given, Sum.inr (rowN r), .inl gH, rfl, rfl⟩, _, rfl, ?_⟩
    cases ev : valV given (Sum.inr (rowN r)) with
    | some v =>
      refine if1 rfl ⟨_, rfl, _, rfl, g, v, rfl, .inl ⟨given, Sum.inr (rowN r), .inl gH, rfl, ev.symm⟩, _, rfl, x, C, dx, _, _, rfl, xH, N.cls, N.no _ (by simp), rfl, _, rfl, hh, _, rfl, .inl ⟨hl, Sum.inr (rowN r), hhH, rfl, hlen, rfl⟩, ?_⟩
      refine ⟨⟨_, _, rfl⟩, fun b o e n1 => by rw [upd_ne n1]; exact kp b o e n1, hl ++ [(Sum.inr (rowN r), v)], fps ++ [[]], by rw [upd_same, putK_new nin], ?_, by simpa using fnd, by simpa using fnew⟩
      rw [et]
      refine Ents.snoc ⟨rfl, .inl ⟨ev, rfl⟩⟩ (ents.same fun a o ha e => ?_)
      rw [upd_ne (fun q => by have := fnew a ha; rw [q, hh6] at this; cases this)]
      exact e
    | none =>
      have hbt : b = true := by
        cases hb2 : b with
        | true => rfl
        | false => rw [hb hb2] at hlt; exact absurd hlt (Nat.not_lt_zero _)
      refine if0 rfl ⟨_, rfl, _, rfl, hbt, rowN r, rowW r, rfl, ro.last, ro.wlen, fun v fp H7 sm7 sv nw => ?_⟩
      have hh7 := sm7 hh _ hhH
      refine ⟨_, rfl, x, C, dx, _, _, rfl, sm7 x _ xH, N.cls, N.no _ (by simp), rfl, _, rfl, hh, _, rfl, .inl ⟨hl, Sum.inr (rowN r), hh7, rfl, hlen, rfl⟩, ?_⟩
      have neh : ∀ a ∈ fps.flatten ++ fp, a ≠ hh := fun a ha q => by
        rcases List.mem_append.mp ha with ha | ha
        · have := fnew a ha
          rw [q, hh6] at this
          cases this
        · have := nw a ha
          rw [q, hhH] at this
          cases this
      refine ⟨⟨_, _, rfl⟩, fun b o e n1 => by rw [upd_ne n1]; exact sm7 b o (kp b o e n1), hl ++ [(Sum.inr (rowN r), v)], fps ++ [fp], by rw [upd_same, putK_new nin], ?_, ?_, ?_⟩
      · rw [et]
        refine Ents.snoc ⟨rfl, .inr ⟨ev, sv.same fun a o ha e => ?_⟩⟩ (ents.same fun a o ha e => ?_)
        · rw [upd_ne (neh a (List.mem_append_right _ ha))]
          exact e
        · rw [upd_ne (neh a (List.mem_append_left _ ha))]
          exact sm7 a o e
      · rw [List.flatten_append, List.nodup_append]
        refine ⟨fnd, by simpa using sv.nodup, fun a ha c hc e => ?_⟩
        exact ents.dom ha (e ▸ nw c (by simpa using hc))
      · intro a ha
        rw [List.flatten_append] at ha
        rcases List.mem_append.mp ha with ha | ha
        · exact fnew a ha
        · have ha' : a ∈ fp := by simpa using ha
          have := nw a ha'
          cases e6 : H6 a with
          | none => rfl
          | some o => rw [kp a o e6 (neh a (List.mem_append_right _ ha'))] at this; cases this
  obtain ⟨⟨s6, s7, rfl⟩, kp, hl, fps, hhH, ents, fnd, fnew⟩ := pv
  rw [(Paired.length fl : qs.length = rows.length), List.take_length] at ents
  have gH := kp g _ hg6 hgh
  have xH := kp x _ hx6 hxh.symm
  have sg : ∀ (Hc : Hp) (fs : List (Str × V)), Hc g = some (.dK given) → (upd Hc x (.ins C dx fs)) g = some (.dK given) := fun Hc fs e => by rw [upd_ne hgx]; exact e
  refine ⟨_, rfl, g, rfl, .inl ⟨given, .inl gH⟩, valV given (Sum.inr "lineno"), .inl ⟨given, Sum.inr "lineno", .inl gH, rfl, rfl⟩, _, rfl, x, C, dx, _, rfl, xH, N.cls, N.no _ (by simp), (by show 2 < 1000; decide), ?_⟩
  have g1 := sg _ (putF "lineno" ((valV given (Sum.inr "lineno")).getD .non) (putF "held" (.ref hh) (putF "kind" (.str z) []))) gH
  refine ⟨_, rfl, g, rfl, .inl ⟨given, .inl g1⟩, valV given (Sum.inr "col_offset"), .inl ⟨given, Sum.inr "col_offset", .inl g1, rfl, rfl⟩, _, rfl, x, C, dx, _, rfl, upd_same, N.cls, N.no _ (by simp), (by show 3 < 1000; decide), ?_⟩
  have g2 := sg _ (putF "col_offset" ((valV given (Sum.inr "col_offset")).getD .non) (putF "lineno" ((valV given (Sum.inr "lineno")).getD .non) (putF "held" (.ref hh) (putF "kind" (.str z) [])))) g1
  refine ⟨_, rfl, g, rfl, .inl ⟨given, .inl g2⟩, valV given (Sum.inr "end_lineno"), .inl ⟨given, Sum.inr "end_lineno", .inl g2, rfl, rfl⟩, _, rfl, x, C, dx, _, rfl, upd_same, N.cls, N.no _ (by simp), (by show 4 < 1000; decide), ?_⟩
  have g3 := sg _ (putF "end_lineno" ((valV given (Sum.inr "end_lineno")).getD .non) (putF "col_offset" ((valV given (Sum.inr "col_offset")).getD .non) (putF "lineno" ((valV given (Sum.inr "lineno")).getD .non) (putF "held" (.ref hh) (putF "kind" (.str z) []))))) g2
  refine ⟨_, rfl, g, rfl, .inl ⟨given, .inl g3⟩, valV given (Sum.inr "end_col_offset"), .inl ⟨given, Sum.inr "end_col_offset", .inl g3, rfl, rfl⟩, _, rfl, x, C, dx, _, rfl, upd_same, N.cls, N.no _ (by simp), (by show 5 < 1000; decide), ?_⟩
  refine k hh hl fps _ ⟨fun b o e n1 => ?_, ?_, ?_, ?_, ?_, fnd, fun a ha => ⟨?_, ?_⟩⟩
  · rw [upd_ne n1, upd_ne n1, upd_ne n1, upd_ne n1]
    exact kp b o (sm6 b o (k5 b o (k3 b o e) n1)) (fun q => by have := k3 b o e; rw [q, hh3] at this; cases this)
  · cases e0 : H hh with
    | none => rfl
    | some o => rw [k3 hh o e0] at hh3; cases hh3
  · rw [upd_ne hxh, upd_ne hxh, upd_ne hxh, upd_ne hxh]
    exact hhH
  · rw [upd_same]
    rfl
  · refine ents.same fun a o ha e => ?_
    have ne : a ≠ x := fun q => by have := fnew a ha; rw [q, hx6] at this; cases this
    rw [upd_ne ne, upd_ne ne, upd_ne ne, upd_ne ne]
    exact e
  · have := fnew a ha
    cases e0 : H a with
    | none => rfl
    | some o =>
      have ne : a ≠ x := fun q => by rw [q, hx6] at this; cases this
      rw [sm6 a o (k5 a o (k3 a o e0) ne)] at this
      cases this
  · intro q
    have := fnew a ha
    rw [q, hh6] at this
    cases this
end

end K04

set_option pp.maxSteps 1500
namespace K04
open PySem L2 Tq
/-- what is no kind -/
def Bad (K : PySem.W.Frag) (t : Tb) (H : Hp) (v : V) : Prop := (∃ z, v = .str z ∧ t.rows z = none) ∨ ∃ ty, TyX K H v ty ∧ PySem.W.kitOne K ty (.type "str") = some false
def spBad (K : PySem.W.Frag) (t : Tb) (CB : Addr) : Sp := fun vs H _ E => ∃ v, vs = [v] ∧ Bad K t H v ∧ ∀ d H', Same H H' → H' d = some (.xd [("kind", v)]) → E (.ref CB) (some d) H'
def spBadI (K : PySem.W.Frag) (t : Tb) (CB : Addr) : Sp := fun vs H _ E => ∃ v a b c, vs = [a, v, b, c] ∧ Bad K t H v ∧ ∀ d H', Same H H' → H' d = some (.xd [("kind", v)]) → E (.ref CB) (some d) H'
section
variable {P : Program} {w : World} {K : PySem.W.Frag} {mg : Str → Option Value} {base : Heap} {t : Tb} {CB fB : Addr}
theorem ok_fieldsX {f : Addr} {fd : FuncData} (F : Fun K "fields_of" "fields_of" sfields_of f fd) (L : PySem.LowX.LowTxt K mg CB fB) (Dtable_of : Df P w K mg base CX0 1 "table_of" (spTable K t)) :
    FnG P w K mg base (L2.CX P w) 3 f fd ["kind"] (spBad K t CB) := by
  refine okG F scfields_of (fun vs H Q E h => ?_) (fun cdv A outer s H vs Q E hq hr h => ?_)
  · obtain ⟨v, rfl, _⟩ := h
    rfl
  · obtain ⟨v, rfl, hb, k⟩ := h
    refine ⟨_, pss_cons (ps_if (pt_cmpR op_isN (pe_df Dtable_of hq hr pass0 (pa_cons (pv 0) pa_nil)) pe_non (nomark _)) (pss_one (ps_raiseLow rfl L hr (takes_of rfl rfl rfl rfl) (pa_cons (pv 0) pa_nil))) pss_nil) pss_dead, ?_⟩
    have fin : ∀ H1, Same H H1 → ∀ d, H1 d = none → E (.ref CB) (some d) (upd H1 d (.xd [("kind", v)])) := fun H1 sm d hd => k d _ (sm.trans (same_new hd)) upd_same
    refine ⟨_, rfl, v, rfl, ?_⟩
    rcases hb with ⟨z, rfl, hz⟩ | ⟨ty, h1, h2⟩
    · exact .inl ⟨z, rfl, fun rows hz' => absurd (hz.symm.trans hz') (fun e => nomatch e), fun _ H1 sm => ⟨rfl, _, rfl, if1 (decide_eq_true rfl) ⟨_, rfl, _, rfl, fin H1 sm⟩⟩⟩
    · exact .inr ⟨ty, h1, h2, ⟨rfl, _, rfl, if1 (decide_eq_true rfl) ⟨_, rfl, _, rfl, fin H (Same.refl H)⟩⟩⟩
theorem ok_initX {f : Addr} {fd : FuncData} (F : Fun K "__init__" "Node.__init__" sNode___init__ f fd) (Dfields_of : Df P w K mg base (L2.CX P w) 3 "fields_of" (spBad K t CB)) :
    FnKw P w K mg base (L2.CX P w) 4 f ["self", "kind"] (spBadI K t CB) := by
  refine okKw F rfl scNode___init__ ?_ (by decide) (fun cdv A outer s H vs Q E hq hr h => ?_)
  · exact StX.cxUp
  · obtain ⟨v, a, b, c, rfl, hb, k⟩ := h
    refine ⟨_, pss_cons (ps_set (i := 4) scNode___init__.nd rfl (Or.inl rfl) (pe_df Dfields_of hq hr (passes_call (takes_of rfl rfl rfl rfl) (fun _ _ _ _ h => h)) (pa_cons (pv 1) pa_nil))) pss_dead, ?_⟩
    exact ⟨_, rfl, v, rfl, hb, k⟩
end
end K04

set_option pp.maxSteps 1500

namespace K04
open PySem L2 Tq
abbrev sNode___getitem__ : Stmt := inClass (top 25) 1
abbrev NNode___getitem__ : List Str := ["self", "name"]
theorem scNode___getitem__ : FnScope NNode___getitem__ ["self", "name"] (defScope sNode___getitem__) := ⟨rfl, rfl, rfl, by decide +kernel, rfl, by decide +kernel, by decide +kernel⟩
abbrev schecked_node : Stmt := top 26
abbrev Nchecked_node : List Str := ["thing"]
theorem scchecked_node : FnScope Nchecked_node ["thing"] (defScope schecked_node) := ⟨rfl, rfl, rfl, by decide +kernel, rfl, by decide +kernel, by decide +kernel⟩
abbrev splace_of : Stmt := top 28
abbrev Nplace_of : List Str := ["node"]
theorem scplace_of : FnScope Nplace_of ["node"] (defScope splace_of) := ⟨rfl, rfl, rfl, by decide +kernel, rfl, by decide +kernel, by decide +kernel⟩
abbrev sset_place : Stmt := top 29
abbrev Nset_place : List Str := ["node", "place"]
theorem scset_place : FnScope Nset_place ["node", "place"] (defScope sset_place) := ⟨rfl, rfl, rfl, by decide +kernel, rfl, by decide +kernel, by decide +kernel⟩
abbrev sjoined_place : Stmt := top 30
abbrev Njoined_place : List Str := ["place", "other", "one", "two"]
theorem scjoined_place : FnScope Njoined_place ["place", "other"] (defScope sjoined_place) := ⟨rfl, rfl, rfl, by decide +kernel, rfl, by decide +kernel, by decide +kernel⟩
abbrev scopy_location : Stmt := top 31
abbrev Ncopy_location : List Str := ["new", "old"]
theorem sccopy_location : FnScope Ncopy_location ["new", "old"] (defScope scopy_location) := ⟨rfl, rfl, rfl, by decide +kernel, rfl, by decide +kernel, by decide +kernel⟩
section
variable {P : Program} {w : World} {K : PySem.W.Frag} {mg : Str → Option Value} {base : Heap} {C : Addr}
theorem ok_get {f : Addr} {fd : FuncData} (F : Fun K "__getitem__" "Node.__getitem__" sNode___getitem__ f fd) (T : Txt mg) (N : NdC K C) : FnG P w K mg base CX0 1 f fd ["self", "name"] (spGet C) := by
  refine okG0 F scNode___getitem__ (fun vs H Q E h => ?_) (fun cdv A outer s H vs Q E hq hr h => ?_)
  · obtain ⟨x, dx, kd, hh, hd, a, b, c, d, n, v, rfl, _⟩ := h
    rfl
  · obtain ⟨x, dx, kd, hh, hd, a, b, c, d, n, v, rfl, hx, hhd, hv, k⟩ := h
    refine ⟨_, (pss_cons (ps_if (PW.pt (pw_or (pt_not (pt_val (pe_callB call_isi (by rfl) T.b_isinstance (by decide +kernel) (pa_cons (pv 1) (pa_cons (pe_bltn (v := .ty "str") rfl T.b_str (by decide +kernel) rfl) pa_nil))))) (pw_or1 (pt_cmp (pc_dnotin (hu_of hr) (pv 1) (pe_fld (pv 0) rfl))))))
      (pss_one L2.ps_never)
      pss_nil)
      (pss_one (ps_ret (pe_dget (hu_of hr) (pe_fld (pv 0) rfl) (pv 1) (fun _ _ => rfl))))), ?_⟩
    refine ⟨_, rfl, _, _, _, _, true, rfl, .ty "str", .base (.str n), kit_ty (by decide +kernel), _, rfl, if0 rfl ?_⟩
    refine ⟨_, rfl, _, rfl, x, C, dx, _, _, rfl, hx, N.cls, N.no _ (by simp), rfl, hh, some v, rfl, .inl ⟨hd, Sum.inr n, .inl hhd, rfl, hv.symm⟩, _, rfl, if0 rfl ?_⟩
    exact ⟨_, rfl, x, C, dx, _, _, rfl, hx, N.cls, N.no _ (by simp), rfl, _, rfl, hh, v, rfl, .inl ⟨hd, Sum.inr n, .inl hhd, rfl, hv.symm⟩, k⟩
theorem ok_chk {f : Addr} {fd : FuncData} (F : Fun K "checked_node" "checked_node" schecked_node f fd) (T : Txt mg) (U : NdI K mg C) : FnG P w K mg base CX0 1 f fd ["thing"] (spChk0 C) := by
  refine okG0 F scchecked_node (fun vs H Q E h => ?_) (fun cdv A outer s H vs Q E hq hr h => ?_)
  · obtain ⟨x, dx, fs, rfl, _⟩ := h
    rfl
  · obtain ⟨x, dx, fs, rfl, hx, k⟩ := h
    refine ⟨_, (pss_cons (ps_if (pt_not (pt_val (pe_callB call_isi (by rfl) T.b_isinstance (by decide +kernel) (pa_cons (pv 0) (pa_cons (pe_glob (v := .ref C) rfl U.gN rfl) pa_nil)))))
      (pss_one L2.ps_never)
      pss_nil)
      (pss_one (ps_ret (pv 0)))), ?_⟩
    exact ⟨_, rfl, _, _, _, _, true, rfl, .own C, U.isN hx, U.kitN, _, rfl, if0 rfl ⟨_, rfl, k⟩⟩
theorem ok_placeof {f : Addr} {fd : FuncData} (F : Fun K "place_of" "place_of" splace_of f fd) (N : NdC K C) : FnG P w K mg base CX0 1 f fd ["node"] (spPlaceOf4 C) := by
  refine okG0 F scplace_of (fun vs H Q E h => ?_) (fun cdv A outer s H vs Q E hq hr h => ?_)
  · obtain ⟨x, dx, kd, hh, v0, v1, v2, v3, rfl, _⟩ := h
    rfl
  · obtain ⟨x, dx, kd, hh, v0, v1, v2, v3, rfl, hx, k⟩ := h
    refine ⟨_, (pss_one (ps_ret (pe_tup (pa_cons (pe_fld (pv 0) rfl) (pa_cons (pe_fld (pv 0) rfl) (pa_cons (pe_fld (pv 0) rfl) (pa_cons (pe_fld (pv 0) rfl) pa_nil))))))), ?_⟩
    exact ⟨_, rfl, x, C, dx, _, _, rfl, hx, N.cls, N.no _ (by simp), rfl, _, rfl, x, C, dx, _, _, rfl, hx, N.cls, N.no _ (by simp), rfl, _, rfl, x, C, dx, _, _, rfl, hx, N.cls, N.no _ (by simp), rfl, _, rfl, x, C, dx, _, _, rfl, hx, N.cls, N.no _ (by simp), rfl, (by show 4 ≤ sizeLine; decide), k⟩
theorem ok_setplace {f : Addr} {fd : FuncData} (F : Fun K "set_place" "set_place" sset_place f fd) (N : NdC K C) : FnG P w K mg base CX0 1 f fd ["node", "place"] (spSetPlace C) := by
  refine okG0 F scset_place (fun vs H Q E h => ?_) (fun cdv A outer s H vs Q E hq hr h => ?_)
  · obtain ⟨x, dx, kd, hh, v0, v1, v2, v3, p, u0, u1, u2, u3, rfl, _⟩ := h
    rfl
  · obtain ⟨x, dx, kd, hh, v0, v1, v2, v3, p, u0, u1, u2, u3, rfl, hx, hp, k⟩ := h
    refine ⟨_, (pss_one (ps_asg (pv 1) (pg_tup (by rfl) (pgs_cons (pg_fld (pv 0)) (pgs_cons (pg_fld (pv 0)) (pgs_cons (pg_fld (pv 0)) (pgs_cons (pg_fld (pv 0)) pgs_nil))))))), ?_⟩
    have hxp : p ≠ x := fun e => by rw [e, hx] at hp; cases hp
    refine ⟨_, rfl, p, _, rfl, .inl (.inl hp), rfl, ?_⟩
    refine ⟨_, _, rfl, _, rfl, x, C, dx, _, rfl, hx, N.cls, N.no _ (by simp), (show 6 < 1000 by decide), ?_⟩
    refine ⟨_, _, rfl, _, rfl, x, C, dx, _, rfl, upd_same, N.cls, N.no _ (by simp), (show 6 < 1000 by decide), ?_⟩
    refine ⟨_, _, rfl, _, rfl, x, C, dx, _, rfl, upd_same, N.cls, N.no _ (by simp), (show 6 < 1000 by decide), ?_⟩
    refine ⟨_, _, rfl, _, rfl, x, C, dx, _, rfl, upd_same, N.cls, N.no _ (by simp), (show 6 < 1000 by decide), rfl, ?_⟩
    refine k _ (fun b o e n => ?_) upd_same
    rw [upd_ne n, upd_ne n, upd_ne n, upd_ne n]
    exact e
theorem ok_join {f : Addr} {fd : FuncData} (F : Fun K "joined_place" "joined_place" sjoined_place f fd) (T : Txt mg) : FnG P w K mg base CX0 1 f fd ["place", "other"] spJoin := by
  refine okG0 F scjoined_place (fun vs H Q E h => ?_) (fun cdv A outer s H vs Q E hq hr h => ?_)
  · obtain ⟨p, q, v0, v1, v2, v3, u0, u1, u2, u3, rfl, _⟩ := h
    rfl
  · obtain ⟨p, q, v0, v1, v2, v3, u0, u1, u2, u3, rfl, hp, hq, k⟩ := h
    refine ⟨_, (pss_one (ps_ret (pe_callTy call_tuple_of (by rfl) T.b_tuple (by decide +kernel) (pa_cons (pe_lc (own := [("one", 2), ("two", 3)]) (by rfl) scjoined_place.nd (RZ.pi_zipA (by rfl) T.b_zip (pa_cons (pv 0) (pa_cons (pv 1) pa_nil))) (blkOk_by (own := [("one", 2), ("two", 3)]) (N := Njoined_place) (sc := defScope sjoined_place) (by decide +kernel)) (fun _ _ _ _ _ => (castPG (K := K) (r := fun K => gTup K 2 _) (pg_tup (by rfl) (pgs_cons (pg_name (i := 2) scjoined_place.nd rfl (Or.inl rfl)) (pgs_cons (pg_name (i := 3) scjoined_place.nd rfl (Or.inl rfl)) pgs_nil))))) (fun _ _ _ _ _ => pts_nil) (fun _ _ _ _ _ => (pe_ifExp (pt_cmpR op_isN (pv 2) pe_non (nomark _)) (pv 3) (pv 2)))) pa_nil)))), ?_⟩
    refine ⟨_, rfl, _, rfl, p, q, _, _, rfl, .inr ⟨.inl (.inl hp), .inl (.inl hq), fun D hD => ?_⟩⟩
    refine lc_it (walk_zipT (K := K) (xs := [v0, v1, v2, v3]) (ys := [u0, u1, u2, u3]) (n := 4) rfl) (fun i H' => Same H H' ∧ H' D = some (.lst ([orN v0 u0, orN v1 u1, orN v2 u2, orN v3 u3].take i))) ⟨same_new hD, upd_same⟩ (fun i H' _ h => ⟨.inl (.inl (h.1 p _ hp)), .inl (.inl (h.1 q _ hq))⟩) (fun i x H' H'' hi pv hy => ?_) (fun H' pv => ?_)
    · obtain ⟨sm, hd⟩ := pv
      obtain ⟨T1, a, b, rfl, hT, rfl, ha, hb⟩ := hy
      have hab : [orN v0 u0, orN v1 u1, orN v2 u2, orN v3 u3][i]? = some (orN a b) := by
        match i, hi with
        | 0, _ => cases ha; cases hb; rfl
        | 1, _ => cases ha; cases hb; rfl
        | 2, _ => cases ha; cases hb; rfl
        | 3, _ => cases ha; cases hb; rfl
      have s2 := same_new (o := .tup [a, b]) hT
      refine ⟨T1, _, rfl, .inl (.inl upd_same), rfl, _, _, rfl, _, _, rfl, rfl, rfl, yes ⟨_, rfl, rfl, _, rfl, ?_⟩⟩
      have fin : ∃ acc, (upd H' T1 (.tup [a, b])) D = some (.lst acc) ∧ acc.length < sizeLine ∧ (Same H (upd (upd H' T1 (.tup [a, b])) D (.lst (acc ++ [orN a b]))) ∧ (upd (upd H' T1 (.tup [a, b])) D (.lst (acc ++ [orN a b]))) D = some (.lst ([orN v0 u0, orN v1 u1, orN v2 u2, orN v3 u3].take (i + 1)))) := by
        refine ⟨_, s2 D _ hd, ?_, fun c o e => ?_, ?_⟩
        · rw [List.length_take]
          exact Nat.lt_of_le_of_lt (Nat.min_le_left _ _) (Nat.lt_trans hi (by decide))
        · rw [upd_ne (fun q => by rw [q, hD] at e; cases e)]
          exact s2 c o (sm c o e)
        · rw [upd_same, List.take_add_one, hab]
          rfl
      by_cases hn : a = .non
      · refine if1 (decide_eq_true hn) ⟨_, rfl, ?_⟩
        have e : orN a b = b := if_pos hn
        rw [e] at fin
        exact fin
      · refine if0 (decide_eq_false hn) ⟨_, rfl, ?_⟩
        have e : orN a b = a := if_neg hn
        rw [e] at fin
        exact fin
    · obtain ⟨sm, hd⟩ := pv
      exact ⟨D, _, rfl, .inl ⟨SqL.of hd, fun l hl => k l _ (sm.trans (same_new hl)) upd_same⟩⟩
theorem ok_copyloc {f : Addr} {fd : FuncData} (F : Fun K "copy_location" "copy_location" scopy_location f fd) (T : Txt mg) (Dchecked_node : Df P w K mg base CX0 1 "checked_node" (spChk0 C)) (Dplace_of : Df P w K mg base CX0 1 "place_of" (spPlaceOf4 C))
    (Dset_place : Df P w K mg base CX0 1 "set_place" (spSetPlace C)) (Djoined_place : Df P w K mg base CX0 1 "joined_place" spJoin) : FnG P w K mg base CX0 2 f fd ["new", "old"] (spCopyLoc C) := by
  refine okG0 F sccopy_location (fun vs H Q E h => ?_) (fun cdv A outer s H vs Q E hq hr h => ?_)
  · obtain ⟨x, dx, kd, hh, v0, v1, v2, v3, y, dy, ke, he, u0, u1, u2, u3, rfl, _⟩ := h
    rfl
  · obtain ⟨x, dx, kd, hh, v0, v1, v2, v3, y, dy, ke, he, u0, u1, u2, u3, rfl, hx, hy, k⟩ := h
    refine ⟨_, (pss_cons (ps_expr (pe_df Dchecked_node hq hr pass0 (pa_cons (pv 0) pa_nil)))
      (pss_cons (ps_expr (pe_df Dset_place hq hr pass0 (pa_cons (pv 0) (pa_cons (pe_df Djoined_place hq hr pass0 (pa_cons (pe_df Dplace_of hq hr pass0 (pa_cons (pe_df Dchecked_node hq hr pass0 (pa_cons (pv 1) pa_nil)) pa_nil)) (pa_cons (pe_df Dplace_of hq hr pass0 (pa_cons (pv 0) pa_nil)) pa_nil))) pa_nil))))
      (pss_one (ps_ret (pv 0))))), ?_⟩
    refine ⟨_, rfl, x, dx, _, rfl, hx, ?_⟩
    refine ⟨_, rfl, _, rfl, y, dy, _, rfl, hy, y, dy, ke, he, u0, u1, u2, u3, rfl, hy, fun p hp => ?_⟩
    have s1 := same_new (o := .tup [u0, u1, u2, u3]) hp
    have e1 : (upd H p (.tup [u0, u1, u2, u3])) p = some (.tup [u0, u1, u2, u3]) := upd_same
    dsimp only
    generalize upd H p (.tup [u0, u1, u2, u3]) = H1 at s1 e1 ⊢
    refine ⟨_, rfl, x, dx, kd, hh, v0, v1, v2, v3, rfl, s1 x _ hx, fun q hq => ?_⟩
    have s2 := same_new (o := .tup [v0, v1, v2, v3]) hq
    have e2 : (upd H1 q (.tup [v0, v1, v2, v3])) q = some (.tup [v0, v1, v2, v3]) := upd_same
    dsimp only
    generalize upd H1 q (.tup [v0, v1, v2, v3]) = H2 at s2 e2 ⊢
    refine ⟨p, q, u0, u1, u2, u3, v0, v1, v2, v3, rfl, s2 p _ e1, e2, fun l H3 s3 e3 => ?_⟩
    have s4 := s1.trans (s2.trans s3)
    refine ⟨x, dx, kd, hh, v0, v1, v2, v3, l, _, _, _, _, rfl, s4 x _ hx, e3, fun H4 kp hx4 => ?_⟩
    exact ⟨_, rfl, k H4 (fun b o e n => kp b o (s4 b o e) n) hx4⟩
end
end K04

set_option pp.maxSteps 1500

namespace K04
open PySem L2 Tq
abbrev s_law_statements : Stmt := top 36
abbrev N_law_statements : List Str := ["_law_loop", "_law_function", "_law_rows"]
theorem sc_law_statements : FnScope N_law_statements [] (defScope s_law_statements) := ⟨rfl, rfl, rfl, by decide +kernel, rfl, by decide +kernel, by decide +kernel⟩
abbrev s_law_expressions : Stmt := top 37
abbrev N_law_expressions : List Str := ["_law_comp", "_law_rows"]
theorem sc_law_expressions : FnScope N_law_expressions [] (defScope s_law_expressions) := ⟨rfl, rfl, rfl, by decide +kernel, rfl, by decide +kernel, by decide +kernel⟩
abbrev s_law_patterns : Stmt := top 38
abbrev N_law_patterns : List Str := ["_law_rows"]
theorem sc_law_patterns : FnScope N_law_patterns [] (defScope s_law_patterns) := ⟨rfl, rfl, rfl, by decide +kernel, rfl, by decide +kernel, by decide +kernel⟩
abbrev s_law_parts : Stmt := top 39
abbrev N_law_parts : List Str := ["_law_rows", "_law_more"]
theorem sc_law_parts : FnScope N_law_parts [] (defScope s_law_parts) := ⟨rfl, rfl, rfl, by decide +kernel, rfl, by decide +kernel, by decide +kernel⟩
abbrev s_law_signs_of : Stmt := top 40
abbrev N_law_signs_of : List Str := ["_law_word", "_law_rows"]
theorem sc_law_signs_of : FnScope N_law_signs_of ["_law_word"] (defScope s_law_signs_of) := ⟨rfl, rfl, rfl, by decide +kernel, rfl, by decide +kernel, by decide +kernel⟩
def spDict (T : List (Str × Str)) : Sp := fun vs H Q _ => vs = [] ∧ ∀ d H', Wr H H' d T → Q (.ref d) H'

def sta0 : List (Str × Str) := [("FunctionDef", "name N, args arguments, body S+, decorator_list E*, returns E?"), ("AsyncFunctionDef", "name N, args arguments, body S+, decorator_list E*, returns E?"), ("For", "target E, iter E, body S+, orelse S*"), ("AsyncFor", "target E, iter E, body S+, orelse S*"), ("Expr", "value E")]
def sta1 : List (Str × Str) := [("ClassDef", "name N, bases E*, keywords keyword*, body S+, decorator_list E*"), ("Return", "value E?")]
def sta2 : List (Str × Str) := [("Delete", "targets E+"), ("Assign", "targets E+, value E"), ("AugAssign", "target E, op O, value E")]
def sta3 : List (Str × Str) := [("AnnAssign", "target E, annotation E, value E?, simple 01"), ("While", "test E, body S+, orelse S*")]
def sta4 : List (Str × Str) := [("If", "test E, body S+, orelse S*"), ("With", "items withitem+, body S+"), ("Raise", "exc E?, cause E?")]
def sta5 : List (Str × Str) := [("AsyncWith", "items withitem+, body S+"), ("Match", "subject E, cases match_case+"), ("Pass", "")]
def sta6 : List (Str × Str) := [("Assert", "test E, msg E?"), ("Try", "body S+, handlers ExceptHandler*, orelse S*, finalbody S*")]
def sta7 : List (Str × Str) := [("Import", "names alias+"), ("ImportFrom", "module D?, names alias+, level I"), ("Global", "names N+")]
def sta8 : List (Str × Str) := [("Nonlocal", "names N+"), ("Break", ""), ("Continue", "")]
def staT : List (Str × Str) := sta0 ++ sta1 ++ sta2 ++ sta3 ++ sta4 ++ sta5 ++ sta6 ++ sta7 ++ sta8
theorem staT_lit : staT = ([("FunctionDef", "name N, args arguments, body S+, decorator_list E*, returns E?"), ("AsyncFunctionDef", "name N, args arguments, body S+, decorator_list E*, returns E?"), ("For", "target E, iter E, body S+, orelse S*"), ("AsyncFor", "target E, iter E, body S+, orelse S*"), ("Expr", "value E"), ("ClassDef", "name N, bases E*, keywords keyword*, body S+, decorator_list E*"), ("Return", "value E?"), ("Delete", "targets E+"), ("Assign", "targets E+, value E"), ("AugAssign", "target E, op O, value E"), ("AnnAssign", "target E, annotation E, value E?, simple 01"), ("While", "test E, body S+, orelse S*"), ("If", "test E, body S+, orelse S*"), ("With", "items withitem+, body S+"), ("Raise", "exc E?, cause E?"), ("AsyncWith", "items withitem+, body S+"), ("Match", "subject E, cases match_case+"), ("Pass", ""), ("Assert", "test E, msg E?"), ("Try", "body S+, handlers ExceptHandler*, orelse S*, finalbody S*"), ("Import", "names alias+"), ("ImportFrom", "module D?, names alias+, level I"), ("Global", "names N+"), ("Nonlocal", "names N+"), ("Break", ""), ("Continue", "")] : List (Str × Str)) := rfl
def exp0 : List (Str × Str) := [("ListComp", "elt E, generators comprehension+"), ("SetComp", "elt E, generators comprehension+"), ("GeneratorExp", "elt E, generators comprehension+")]
def exp1 : List (Str × Str) := [("DictComp", "key E, value E, generators comprehension+")]
def exp2 : List (Str × Str) := [("BoolOp", "op B, values E+"), ("NamedExpr", "target E, value E"), ("BinOp", "left E, op O, right E")]
def exp3 : List (Str × Str) := [("UnaryOp", "op U, operand E"), ("Lambda", "args arguments, body E"), ("IfExp", "test E, body E, orelse E")]
def exp4 : List (Str × Str) := [("Dict", "keys E?*, values E*"), ("Set", "elts E+"), ("Await", "value E"), ("Yield", "value E?")]
def exp5 : List (Str × Str) := [("YieldFrom", "value E"), ("Compare", "left E, ops C+, comparators E+"), ("JoinedStr", "values E*")]
def exp6 : List (Str × Str) := [("Call", "func E, args E*, keywords keyword*"), ("Constant", "value V"), ("Name", "id N, ctx X")]
def exp7 : List (Str × Str) := [("FormattedValue", "value E, conversion R, format_spec JoinedStr?"), ("Starred", "value E, ctx X")]
def exp8 : List (Str × Str) := [("Attribute", "value E, attr N, ctx X"), ("Subscript", "value E, slice E, ctx X")]
def exp9 : List (Str × Str) := [("List", "elts E*, ctx X"), ("Tuple", "elts E*, ctx X"), ("Slice", "lower E?, upper E?, step E?")]
def expT : List (Str × Str) := exp0 ++ exp1 ++ exp2 ++ exp3 ++ exp4 ++ exp5 ++ exp6 ++ exp7 ++ exp8 ++ exp9
theorem expT_lit : expT = ([("ListComp", "elt E, generators comprehension+"), ("SetComp", "elt E, generators comprehension+"), ("GeneratorExp", "elt E, generators comprehension+"), ("DictComp", "key E, value E, generators comprehension+"), ("BoolOp", "op B, values E+"), ("NamedExpr", "target E, value E"), ("BinOp", "left E, op O, right E"), ("UnaryOp", "op U, operand E"), ("Lambda", "args arguments, body E"), ("IfExp", "test E, body E, orelse E"), ("Dict", "keys E?*, values E*"), ("Set", "elts E+"), ("Await", "value E"), ("Yield", "value E?"), ("YieldFrom", "value E"), ("Compare", "left E, ops C+, comparators E+"), ("JoinedStr", "values E*"), ("Call", "func E, args E*, keywords keyword*"), ("Constant", "value V"), ("Name", "id N, ctx X"), ("FormattedValue", "value E, conversion R, format_spec JoinedStr?"), ("Starred", "value E, ctx X"), ("Attribute", "value E, attr N, ctx X"), ("Subscript", "value E, slice E, ctx X"), ("List", "elts E*, ctx X"), ("Tuple", "elts E*, ctx X"), ("Slice", "lower E?, upper E?, step E?")] : List (Str × Str)) := rfl
def pat0 : List (Str × Str) := [("MatchValue", "value E"), ("MatchSingleton", "value L"), ("MatchSequence", "patterns P*")]
def pat1 : List (Str × Str) := [("MatchOr", "patterns P+"), ("MatchMapping", "keys E*, patterns P*, rest N?")]
def pat2 : List (Str × Str) := [("MatchStar", "name N?"), ("MatchAs", "pattern P?, name N?")]
def pat3 : List (Str × Str) := [("MatchClass", "cls E, patterns P*, kwd_attrs N*, kwd_patterns P*")]
def patT : List (Str × Str) := pat0 ++ pat1 ++ pat2 ++ pat3
theorem patT_lit : patT = ([("MatchValue", "value E"), ("MatchSingleton", "value L"), ("MatchSequence", "patterns P*"), ("MatchOr", "patterns P+"), ("MatchMapping", "keys E*, patterns P*, rest N?"), ("MatchStar", "name N?"), ("MatchAs", "pattern P?, name N?"), ("MatchClass", "cls E, patterns P*, kwd_attrs N*, kwd_patterns P*")] : List (Str × Str)) := rfl
def par0 : List (Str × Str) := [("Module", "body S*"), ("Expression", "body E"), ("comprehension", "target E, iter E, ifs E*, is_async 01")]
def par1 : List (Str × Str) := [("ExceptHandler", "exc E?, name N?, body S+"), ("arguments", "posonlyargs arg*, args arg*, vararg arg?, kwonlyargs arg*, kw_defaults E?*, kwarg arg?, defaults E*"), ("arg", "arg N, annotation E?")]
def par2 : List (Str × Str) := [("keyword", "arg N?, value E"), ("alias", "name A, asname N?")]
def par3 : List (Str × Str) := [("withitem", "context_expr E, optional_vars E?")]
def par4 : List (Str × Str) := [("match_case", "pattern P, guard E?, body S+")]
def parT : List (Str × Str) := par0 ++ par1 ++ par2 ++ par3 ++ par4
theorem parT_lit : parT = ([("Module", "body S*"), ("Expression", "body E"), ("comprehension", "target E, iter E, ifs E*, is_async 01"), ("ExceptHandler", "exc E?, name N?, body S+"), ("arguments", "posonlyargs arg*, args arg*, vararg arg?, kwonlyargs arg*, kw_defaults E?*, kwarg arg?, defaults E*"), ("arg", "arg N, annotation E?"), ("keyword", "arg N?, value E"), ("alias", "name A, asname N?"), ("withitem", "context_expr E, optional_vars E?"), ("match_case", "pattern P, guard E?, body S+")] : List (Str × Str)) := rfl
def sig0 : List (Str × Str) := [("B", "And Or"), ("U", "Invert Not UAdd USub"), ("X", "Load Store Del")]
def sig1 : List (Str × Str) := [("O", "Add Sub Mult MatMult Div FloorDiv Pow LShift RShift BitOr BitXor BitAnd")]
def sig2 : List (Str × Str) := [("C", "Eq NotEq Lt LtE Gt GtE Is IsNot In NotIn")]
def sigT : List (Str × Str) := sig0 ++ sig1 ++ sig2
theorem sigT_lit : sigT = ([("B", "And Or"), ("U", "Invert Not UAdd USub"), ("X", "Load Store Del"), ("O", "Add Sub Mult MatMult Div FloorDiv Pow LShift RShift BitOr BitXor BitAnd"), ("C", "Eq NotEq Lt LtE Gt GtE Is IsNot In NotIn")] : List (Str × Str)) := rfl
def spSign : Sp := fun vs H Q _ => ∃ z g, vs = [.str z] ∧ sigT.lookup z = some g ∧ ∀ p H', Same H H' → H p = none → H' p = some (.lst ((Txt.split g " ").map V.str)) → Q (.ref p) H'
theorem sigLen : ∀ r ∈ sigT, r.2.length + 2 ≤ sizeLine := by decide +kernel
theorem look_mem : ∀ {T : List (Str × Str)} {z g : Str}, T.lookup z = some g → (z, g) ∈ T
  | [], _, _, h => by cases h
  | (k, v) :: T, z, g, h => by
    rw [List.lookup] at h
    cases e : z == k with
    | true =>
      rw [e] at h
      cases h
      rw [eq_of_beq e]
      exact .head _
    | false =>
      rw [e] at h
      exact .tail _ (look_mem h)
theorem val_look : ∀ (T : List (Str × Str)) (z : Str), valV (kvT T) (Sum.inr z) = (T.lookup z).map V.str
  | [], _ => rfl
  | (k, v) :: T, z => by
    by_cases e : z = k
    · subst e
      simp [kvT, valV, List.lookup]
    · have ih := val_look T z
      have e1 : (z == k) = false := beq_eq_false_iff_ne.mpr e
      have e2 : ¬ (Sum.inr k : Key) = Sum.inr z := fun q => e (Sum.inr.inj q).symm
      rw [List.lookup, e1]
      rw [← ih]
      unfold valV kvT
      rw [List.map_cons, List.find?_cons]
      rw [show decide ((Sum.inr k : Key) = Sum.inr z) = false from decide_eq_false e2]
section
variable {P : Program} {w : World} {K : PySem.W.Frag} {mg : Str → Option Value} {base : Heap}
theorem ok_sta {f : Addr} {fd : FuncData} (F : Fun K "_law_statements" "_law_statements" s_law_statements f fd) (T : Txt mg) : FnG P w K mg base CX0 1 f fd [] (spDict staT) := by
  refine okG0 F sc_law_statements (fun vs H Q E h => ?_) (fun cdv A outer s H vs Q E hq hr h => ?_)
  · obtain ⟨rfl, _⟩ := h
    rfl
  · obtain ⟨rfl, k⟩ := h
    refine ⟨_, (pss_cons (ps_set (i := 0) sc_law_statements.nd rfl (Or.inl rfl) pe_str)
      (pss_cons (ps_set (i := 1) sc_law_statements.nd rfl (Or.inl rfl) pe_str)
      (pss_cons (ps_set (i := 2) sc_law_statements.nd rfl (Or.inl rfl) (pe_disp (pps_cons pe_str (pv 1) (pps_cons pe_str (pv 1) (pps_cons pe_str (pv 0) (pps_cons pe_str (pv 0) (pps_cons pe_str pe_str pps_nil))))) rfl rfl (by decide) (by decide)))
      (pss_cons (ps_expr (pe_bm PySem.F.plainAttrs_dict PySem.F.slot_dict_update PySem.F.type_dict_update mt_update (pv 2) (pa_cons (pe_disp (pps_cons pe_str pe_str (pps_cons pe_str pe_str pps_nil)) rfl rfl (by decide) (by decide)) pa_nil)))
      (pss_cons (ps_expr (pe_bm PySem.F.plainAttrs_dict PySem.F.slot_dict_update PySem.F.type_dict_update mt_update (pv 2) (pa_cons (pe_disp (pps_cons pe_str pe_str (pps_cons pe_str pe_str (pps_cons pe_str pe_str pps_nil))) rfl rfl (by decide) (by decide)) pa_nil)))
      (pss_cons (ps_expr (pe_bm PySem.F.plainAttrs_dict PySem.F.slot_dict_update PySem.F.type_dict_update mt_update (pv 2) (pa_cons (pe_disp (pps_cons pe_str pe_str (pps_cons pe_str pe_str pps_nil)) rfl rfl (by decide) (by decide)) pa_nil)))
      (pss_cons (ps_expr (pe_bm PySem.F.plainAttrs_dict PySem.F.slot_dict_update PySem.F.type_dict_update mt_update (pv 2) (pa_cons (pe_disp (pps_cons pe_str pe_str (pps_cons pe_str pe_str (pps_cons pe_str pe_str pps_nil))) rfl rfl (by decide) (by decide)) pa_nil)))
      (pss_cons (ps_expr (pe_bm PySem.F.plainAttrs_dict PySem.F.slot_dict_update PySem.F.type_dict_update mt_update (pv 2) (pa_cons (pe_disp (pps_cons pe_str pe_str (pps_cons pe_str pe_str (pps_cons pe_str pe_str pps_nil))) rfl rfl (by decide) (by decide)) pa_nil)))
      (pss_cons (ps_expr (pe_bm PySem.F.plainAttrs_dict PySem.F.slot_dict_update PySem.F.type_dict_update mt_update (pv 2) (pa_cons (pe_disp (pps_cons pe_str pe_str (pps_cons pe_str pe_str pps_nil)) rfl rfl (by decide) (by decide)) pa_nil)))
      (pss_cons (ps_expr (pe_bm PySem.F.plainAttrs_dict PySem.F.slot_dict_update PySem.F.type_dict_update mt_update (pv 2) (pa_cons (pe_disp (pps_cons pe_str pe_str (pps_cons pe_str pe_str (pps_cons pe_str pe_str pps_nil))) rfl rfl (by decide) (by decide)) pa_nil)))
      (pss_cons (ps_expr (pe_bm PySem.F.plainAttrs_dict PySem.F.slot_dict_update PySem.F.type_dict_update mt_update (pv 2) (pa_cons (pe_disp (pps_cons pe_str pe_str (pps_cons pe_str pe_str (pps_cons pe_str pe_str pps_nil))) rfl rfl (by decide) (by decide)) pa_nil)))
      (pss_one (ps_ret (pv 2)))))))))))))), ?_⟩
    refine set_c ?_
    refine set_c ?_
    refine disp_seq sta0 (fun _ _ q => ⟨_, rfl, _, rfl, _, rfl, _, rfl, q⟩) (by decide +kernel) (by decide) fun d H1 W0 => ?_
    refine upd_seq W0 sta1 (fun _ q => ⟨_, rfl, q⟩) (fun _ _ q => q) (by decide +kernel) (by decide) (by decide +kernel) fun H2 W1 => ?_
    refine upd_seq W1 sta2 (fun _ q => ⟨_, rfl, q⟩) (fun _ _ q => q) (by decide +kernel) (by decide) (by decide +kernel) fun H3 W2 => ?_
    refine upd_seq W2 sta3 (fun _ q => ⟨_, rfl, q⟩) (fun _ _ q => q) (by decide +kernel) (by decide) (by decide +kernel) fun H4 W3 => ?_
    refine upd_seq W3 sta4 (fun _ q => ⟨_, rfl, q⟩) (fun _ _ q => q) (by decide +kernel) (by decide) (by decide +kernel) fun H5 W4 => ?_
    refine upd_seq W4 sta5 (fun _ q => ⟨_, rfl, q⟩) (fun _ _ q => q) (by decide +kernel) (by decide) (by decide +kernel) fun H6 W5 => ?_
    refine upd_seq W5 sta6 (fun _ q => ⟨_, rfl, q⟩) (fun _ _ q => q) (by decide +kernel) (by decide) (by decide +kernel) fun H7 W6 => ?_
    refine upd_seq W6 sta7 (fun _ q => ⟨_, rfl, q⟩) (fun _ _ q => q) (by decide +kernel) (by decide) (by decide +kernel) fun H8 W7 => ?_
    refine upd_seq W7 sta8 (fun _ q => ⟨_, rfl, q⟩) (fun _ _ q => q) (by decide +kernel) (by decide) (by decide +kernel) fun H9 W8 => ?_
    exact ⟨_, rfl, k _ _ W8⟩
theorem ok_exp {f : Addr} {fd : FuncData} (F : Fun K "_law_expressions" "_law_expressions" s_law_expressions f fd) (T : Txt mg) : FnG P w K mg base CX0 1 f fd [] (spDict expT) := by
  refine okG0 F sc_law_expressions (fun vs H Q E h => ?_) (fun cdv A outer s H vs Q E hq hr h => ?_)
  · obtain ⟨rfl, _⟩ := h
    rfl
  · obtain ⟨rfl, k⟩ := h
    refine ⟨_, (pss_cons (ps_set (i := 0) sc_law_expressions.nd rfl (Or.inl rfl) pe_str)
      (pss_cons (ps_set (i := 1) sc_law_expressions.nd rfl (Or.inl rfl) (pe_disp (pps_cons pe_str (pv 0) (pps_cons pe_str (pv 0) (pps_cons pe_str (pv 0) pps_nil))) rfl rfl (by decide) (by decide)))
      (pss_cons (ps_expr (pe_bm PySem.F.plainAttrs_dict PySem.F.slot_dict_update PySem.F.type_dict_update mt_update (pv 1) (pa_cons (pe_disp (pps_cons pe_str pe_str pps_nil) rfl rfl (by decide) (by decide)) pa_nil)))
      (pss_cons (ps_expr (pe_bm PySem.F.plainAttrs_dict PySem.F.slot_dict_update PySem.F.type_dict_update mt_update (pv 1) (pa_cons (pe_disp (pps_cons pe_str pe_str (pps_cons pe_str pe_str (pps_cons pe_str pe_str pps_nil))) rfl rfl (by decide) (by decide)) pa_nil)))
      (pss_cons (ps_expr (pe_bm PySem.F.plainAttrs_dict PySem.F.slot_dict_update PySem.F.type_dict_update mt_update (pv 1) (pa_cons (pe_disp (pps_cons pe_str pe_str (pps_cons pe_str pe_str (pps_cons pe_str pe_str pps_nil))) rfl rfl (by decide) (by decide)) pa_nil)))
      (pss_cons (ps_expr (pe_bm PySem.F.plainAttrs_dict PySem.F.slot_dict_update PySem.F.type_dict_update mt_update (pv 1) (pa_cons (pe_disp (pps_cons pe_str pe_str (pps_cons pe_str pe_str (pps_cons pe_str pe_str (pps_cons pe_str pe_str pps_nil)))) rfl rfl (by decide) (by decide)) pa_nil)))
      (pss_cons (ps_expr (pe_bm PySem.F.plainAttrs_dict PySem.F.slot_dict_update PySem.F.type_dict_update mt_update (pv 1) (pa_cons (pe_disp (pps_cons pe_str pe_str (pps_cons pe_str pe_str (pps_cons pe_str pe_str pps_nil))) rfl rfl (by decide) (by decide)) pa_nil)))
      (pss_cons (ps_expr (pe_bm PySem.F.plainAttrs_dict PySem.F.slot_dict_update PySem.F.type_dict_update mt_update (pv 1) (pa_cons (pe_disp (pps_cons pe_str pe_str (pps_cons pe_str pe_str (pps_cons pe_str pe_str pps_nil))) rfl rfl (by decide) (by decide)) pa_nil)))
      (pss_cons (ps_expr (pe_bm PySem.F.plainAttrs_dict PySem.F.slot_dict_update PySem.F.type_dict_update mt_update (pv 1) (pa_cons (pe_disp (pps_cons pe_str pe_str (pps_cons pe_str pe_str pps_nil)) rfl rfl (by decide) (by decide)) pa_nil)))
      (pss_cons (ps_expr (pe_bm PySem.F.plainAttrs_dict PySem.F.slot_dict_update PySem.F.type_dict_update mt_update (pv 1) (pa_cons (pe_disp (pps_cons pe_str pe_str (pps_cons pe_str pe_str pps_nil)) rfl rfl (by decide) (by decide)) pa_nil)))
      (pss_cons (ps_expr (pe_bm PySem.F.plainAttrs_dict PySem.F.slot_dict_update PySem.F.type_dict_update mt_update (pv 1) (pa_cons (pe_disp (pps_cons pe_str pe_str (pps_cons pe_str pe_str (pps_cons pe_str pe_str pps_nil))) rfl rfl (by decide) (by decide)) pa_nil)))
      (pss_one (ps_ret (pv 1)))))))))))))), ?_⟩
    refine set_c ?_
    refine disp_seq exp0 (fun _ _ q => ⟨_, rfl, _, rfl, _, rfl, q⟩) (by decide +kernel) (by decide) fun d H1 W0 => ?_
    refine upd_seq W0 exp1 (fun _ q => ⟨_, rfl, q⟩) (fun _ _ q => q) (by decide +kernel) (by decide) (by decide +kernel) fun H2 W1 => ?_
    refine upd_seq W1 exp2 (fun _ q => ⟨_, rfl, q⟩) (fun _ _ q => q) (by decide +kernel) (by decide) (by decide +kernel) fun H3 W2 => ?_
    refine upd_seq W2 exp3 (fun _ q => ⟨_, rfl, q⟩) (fun _ _ q => q) (by decide +kernel) (by decide) (by decide +kernel) fun H4 W3 => ?_
    refine upd_seq W3 exp4 (fun _ q => ⟨_, rfl, q⟩) (fun _ _ q => q) (by decide +kernel) (by decide) (by decide +kernel) fun H5 W4 => ?_
    refine upd_seq W4 exp5 (fun _ q => ⟨_, rfl, q⟩) (fun _ _ q => q) (by decide +kernel) (by decide) (by decide +kernel) fun H6 W5 => ?_
    refine upd_seq W5 exp6 (fun _ q => ⟨_, rfl, q⟩) (fun _ _ q => q) (by decide +kernel) (by decide) (by decide +kernel) fun H7 W6 => ?_
    refine upd_seq W6 exp7 (fun _ q => ⟨_, rfl, q⟩) (fun _ _ q => q) (by decide +kernel) (by decide) (by decide +kernel) fun H8 W7 => ?_
    refine upd_seq W7 exp8 (fun _ q => ⟨_, rfl, q⟩) (fun _ _ q => q) (by decide +kernel) (by decide) (by decide +kernel) fun H9 W8 => ?_
    refine upd_seq W8 exp9 (fun _ q => ⟨_, rfl, q⟩) (fun _ _ q => q) (by decide +kernel) (by decide) (by decide +kernel) fun H10 W9 => ?_
    exact ⟨_, rfl, k _ _ W9⟩
theorem ok_pat {f : Addr} {fd : FuncData} (F : Fun K "_law_patterns" "_law_patterns" s_law_patterns f fd) (T : Txt mg) : FnG P w K mg base CX0 1 f fd [] (spDict patT) := by
  refine okG0 F sc_law_patterns (fun vs H Q E h => ?_) (fun cdv A outer s H vs Q E hq hr h => ?_)
  · obtain ⟨rfl, _⟩ := h
    rfl
  · obtain ⟨rfl, k⟩ := h
    refine ⟨_, (pss_cons (ps_set (i := 0) sc_law_patterns.nd rfl (Or.inl rfl) (pe_disp (pps_cons pe_str pe_str (pps_cons pe_str pe_str (pps_cons pe_str pe_str pps_nil))) rfl rfl (by decide) (by decide)))
      (pss_cons (ps_expr (pe_bm PySem.F.plainAttrs_dict PySem.F.slot_dict_update PySem.F.type_dict_update mt_update (pv 0) (pa_cons (pe_disp (pps_cons pe_str pe_str (pps_cons pe_str pe_str pps_nil)) rfl rfl (by decide) (by decide)) pa_nil)))
      (pss_cons (ps_expr (pe_bm PySem.F.plainAttrs_dict PySem.F.slot_dict_update PySem.F.type_dict_update mt_update (pv 0) (pa_cons (pe_disp (pps_cons pe_str pe_str (pps_cons pe_str pe_str pps_nil)) rfl rfl (by decide) (by decide)) pa_nil)))
      (pss_cons (ps_expr (pe_bm PySem.F.plainAttrs_dict PySem.F.slot_dict_update PySem.F.type_dict_update mt_update (pv 0) (pa_cons (pe_disp (pps_cons pe_str pe_str pps_nil) rfl rfl (by decide) (by decide)) pa_nil)))
      (pss_one (ps_ret (pv 0))))))), ?_⟩
    refine disp_seq pat0 (fun _ _ q => q) (by decide +kernel) (by decide) fun d H1 W0 => ?_
    refine upd_seq W0 pat1 (fun _ q => ⟨_, rfl, q⟩) (fun _ _ q => q) (by decide +kernel) (by decide) (by decide +kernel) fun H2 W1 => ?_
    refine upd_seq W1 pat2 (fun _ q => ⟨_, rfl, q⟩) (fun _ _ q => q) (by decide +kernel) (by decide) (by decide +kernel) fun H3 W2 => ?_
    refine upd_seq W2 pat3 (fun _ q => ⟨_, rfl, q⟩) (fun _ _ q => q) (by decide +kernel) (by decide) (by decide +kernel) fun H4 W3 => ?_
    exact ⟨_, rfl, k _ _ W3⟩
theorem ok_par {f : Addr} {fd : FuncData} (F : Fun K "_law_parts" "_law_parts" s_law_parts f fd) (T : Txt mg) : FnG P w K mg base CX0 1 f fd [] (spDict parT) := by
  refine okG0 F sc_law_parts (fun vs H Q E h => ?_) (fun cdv A outer s H vs Q E hq hr h => ?_)
  · obtain ⟨rfl, _⟩ := h
    rfl
  · obtain ⟨rfl, k⟩ := h
    refine ⟨_, (pss_cons (ps_set (i := 0) sc_law_parts.nd rfl (Or.inl rfl) (pe_disp (pps_cons pe_str pe_str (pps_cons pe_str pe_str (pps_cons pe_str pe_str pps_nil))) rfl rfl (by decide) (by decide)))
      (pss_cons (ps_set (i := 1) sc_law_parts.nd rfl (Or.inl rfl) pe_str)
      (pss_cons (ps_expr (pe_bm PySem.F.plainAttrs_dict PySem.F.slot_dict_update PySem.F.type_dict_update mt_update (pv 0) (pa_cons (pe_disp (pps_cons pe_str pe_str (pps_cons pe_str (pv 1) (pps_cons pe_str pe_str pps_nil))) rfl rfl (by decide) (by decide)) pa_nil)))
      (pss_cons (ps_expr (pe_bm PySem.F.plainAttrs_dict PySem.F.slot_dict_update PySem.F.type_dict_update mt_update (pv 0) (pa_cons (pe_disp (pps_cons pe_str pe_str (pps_cons pe_str pe_str pps_nil)) rfl rfl (by decide) (by decide)) pa_nil)))
      (pss_cons (ps_expr (pe_bm PySem.F.plainAttrs_dict PySem.F.slot_dict_update PySem.F.type_dict_update mt_update (pv 0) (pa_cons (pe_disp (pps_cons pe_str pe_str pps_nil) rfl rfl (by decide) (by decide)) pa_nil)))
      (pss_cons (ps_expr (pe_bm PySem.F.plainAttrs_dict PySem.F.slot_dict_update PySem.F.type_dict_update mt_update (pv 0) (pa_cons (pe_disp (pps_cons pe_str pe_str pps_nil) rfl rfl (by decide) (by decide)) pa_nil)))
      (pss_one (ps_ret (pv 0))))))))), ?_⟩
    refine disp_seq par0 (fun _ _ q => q) (by decide +kernel) (by decide) fun d H1 W0 => ?_
    refine set_c ?_
    refine upd_seq W0 par1 (fun _ q => ⟨_, rfl, q⟩) (fun _ _ q => ⟨_, rfl, q⟩) (by decide +kernel) (by decide) (by decide +kernel) fun H2 W1 => ?_
    refine upd_seq W1 par2 (fun _ q => ⟨_, rfl, q⟩) (fun _ _ q => q) (by decide +kernel) (by decide) (by decide +kernel) fun H3 W2 => ?_
    refine upd_seq W2 par3 (fun _ q => ⟨_, rfl, q⟩) (fun _ _ q => q) (by decide +kernel) (by decide) (by decide +kernel) fun H4 W3 => ?_
    refine upd_seq W3 par4 (fun _ q => ⟨_, rfl, q⟩) (fun _ _ q => q) (by decide +kernel) (by decide) (by decide +kernel) fun H5 W4 => ?_
    exact ⟨_, rfl, k _ _ W4⟩
theorem ok_sig {f : Addr} {fd : FuncData} (F : Fun K "_law_signs_of" "_law_signs_of" s_law_signs_of f fd) (T : Txt mg) : FnG P w K mg base CX0 1 f fd ["_law_word"] spSign := by
  refine okG0 F sc_law_signs_of (fun vs H Q E h => ?_) (fun cdv A outer s H vs Q E hq hr h => ?_)
  · obtain ⟨z, g, rfl, _⟩ := h
    rfl
  · obtain ⟨z, g, rfl, hg, k⟩ := h
    refine ⟨_, (pss_cons (ps_set (i := 1) sc_law_signs_of.nd rfl (Or.inl rfl) (pe_disp (pps_cons pe_str pe_str (pps_cons pe_str pe_str (pps_cons pe_str pe_str pps_nil))) rfl rfl (by decide) (by decide)))
      (pss_cons (ps_expr (pe_bm PySem.F.plainAttrs_dict PySem.F.slot_dict_update PySem.F.type_dict_update mt_update (pv 1) (pa_cons (pe_disp (pps_cons pe_str pe_str pps_nil) rfl rfl (by decide) (by decide)) pa_nil)))
      (pss_cons (ps_expr (pe_bm PySem.F.plainAttrs_dict PySem.F.slot_dict_update PySem.F.type_dict_update mt_update (pv 1) (pa_cons (pe_disp (pps_cons pe_str pe_str pps_nil) rfl rfl (by decide) (by decide)) pa_nil)))
      (pss_one (ps_ret (pe_ifExp (pt_cmp (pc_din (hu_of hr) (pv 0) (pv 1))) (pe_split (pe_dget (hu_of hr) (pv 1) (pv 0) (fun _ _ => rfl)) pe_str) (pe_lst pa_nil))))))), ?_⟩
    refine disp_seq sig0 (fun _ _ q => q) (by decide +kernel) (by decide) fun d H1 W0 => ?_
    refine upd_seq W0 sig1 (fun _ q => ⟨_, rfl, q⟩) (fun _ _ q => q) (by decide +kernel) (by decide) (by decide +kernel) fun H2 W1 => ?_
    refine upd_seq W1 sig2 (fun _ q => ⟨_, rfl, q⟩) (fun _ _ q => q) (by decide +kernel) (by decide) (by decide +kernel) fun H3 W2 => ?_
    have ev : valV (kvT sigT) (Sum.inr z) = some (V.str g) := by rw [val_look, hg]; rfl
    have hw : H3 d = some (.dK (kvT sigT)) := W2.at_
    refine ⟨_, rfl, _, rfl, d, some (.str g), rfl, .inl ⟨kvT sigT, Sum.inr z, .inl hw, rfl, ev.symm⟩, _, rfl, if1 rfl ?_⟩
    refine ⟨_, rfl, _, rfl, d, .str g, rfl, .inl ⟨kvT sigT, Sum.inr z, .inl hw, rfl, ev.symm⟩, ⟨g, rfl⟩, g, " ", rfl, rfl, rfl, sigLen _ (look_mem hg), fun p hp => k p _ (W2.sm.trans (same_new hp)) (same_none W2.sm hp) upd_same⟩
end
end K04

namespace K04
open PySem L2 Tq
def sigW : List Str := ["B", "U", "X", "O", "C"]
def sigOf (z : Str) : List Str := match sigT.lookup z with
  | some g => Txt.split g " "
  | none => []
def TT : List (List (Str × Str)) := [staT, expT, patT, parT]
def lawTab : List (Str × Rw) := tabOf TT.flatten ++ ((sigW.map sigOf).flatten.map fun k => (k, ([] : Rw)))
theorem law_nd : (lawTab.map (·.1)).Nodup := by decide +kernel
theorem law_rowB : ∀ T ∈ TT, ∀ r ∈ T, lrowB r.2 = true := by decide +kernel
theorem law_len : lawTab.length ≤ 1000 := by decide +kernel
theorem sig_all : ∀ (i c : Nat), (Str.ofString "BUXOC").cps[i]? = some c → ∃ g, sigT.lookup ⟨#[c]⟩ = some g ∧ sigW[i]? = some (⟨#[c]⟩ : Str) := by
  intro i c h
  have hl : i < 5 := by
    rcases Nat.lt_or_ge i 5 with q | q
    · exact q
    · rw [Array.getElem?_eq_none (show (Str.ofString "BUXOC").cps.size ≤ i from q)] at h
      cases h
  match i, hl, h with
  | 0, _, h => cases h; exact ⟨_, rfl, rfl⟩
  | 1, _, h => cases h; exact ⟨_, rfl, rfl⟩
  | 2, _, h => cases h; exact ⟨_, rfl, rfl⟩
  | 3, _, h => cases h; exact ⟨_, rfl, rfl⟩
  | 4, _, h => cases h; exact ⟨_, rfl, rfl⟩
end K04

set_option pp.maxSteps 2500

namespace K04
open PySem L2 Tq
abbrev s_law_table : Stmt := top 41
abbrev N_law_table : List Str := ["_law_found", "_law_rows", "_law_kind", "_law_word", "_law_part"]
theorem sc_law_table : FnScope N_law_table [] (defScope s_law_table) := ⟨rfl, rfl, rfl, by decide +kernel, rfl, by decide +kernel, by decide +kernel⟩
def spTab4 : Sp := fun vs H Q _ => vs = [] ∧ ∀ d kvs H', Same H H' → H d = none → H' d = some (.dK kvs) → LTab (nw H H') kvs lawTab → Q (.ref d) H'
theorem tab_take {T acc : List (Str × Str)} {j : Nat} {r : Str × Str} (h : T[j]? = some r) : tabOf (acc ++ T.take (j + 1)) = tabOf (acc ++ T.take j) ++ [(r.1, rowsOf r.2)] := by
  unfold tabOf
  rw [List.take_add_one, h, ← List.append_assoc, List.map_append]
  rfl
section
variable {P : Program} {w : World} {K : PySem.W.Frag} {mg : Str → Option Value} {base : Heap}
theorem ok_table4 {f : Addr} {fd : FuncData} (F : Fun K "_law_table" "_law_table" s_law_table f fd) (T : Txt mg)
    (D_law_statements : Df P w K mg base CX0 1 "_law_statements" (spDict staT)) (D_law_expressions : Df P w K mg base CX0 1 "_law_expressions" (spDict expT)) (D_law_patterns : Df P w K mg base CX0 1 "_law_patterns" (spDict patT)) (D_law_parts : Df P w K mg base CX0 1 "_law_parts" (spDict parT))
    (D_law_signs_of : Df P w K mg base CX0 1 "_law_signs_of" spSign) : FnG P w K mg base CX0 2 f fd [] spTab4 := by
  refine okG0 F sc_law_table (fun vs H Q E h => ?_) (fun cdv A outer s H vs Q E hq hr h => ?_)
  · obtain ⟨rfl, _⟩ := h
    rfl
  · obtain ⟨rfl, k⟩ := h
    refine ⟨_, (pss_cons (ps_set (i := 0) sc_law_table.nd rfl (Or.inl rfl) pe_dnewK)
      (pss_cons (ps_for PassesOwn.never rfl (pi_tup (pe_tup (pa_cons (pe_df0 D_law_statements hq hr pass0) (pa_cons (pe_df0 D_law_expressions hq hr pass0) (pa_cons (pe_df0 D_law_patterns hq hr pass0) (pa_cons (pe_df0 D_law_parts hq hr pass0) pa_nil)))))) (pg_name (i := 1) sc_law_table.nd rfl (Or.inl rfl))
      (pss_one (ps_lock (ps_for PassesOwn.never rfl (pi_keys (pv 1)) (pg_name (i := 2) sc_law_table.nd rfl (Or.inl rfl))
      (pss_one (ps_dput (hu_of hr) (pv 0) (pv 2) (pe_ifExp (pt_cmpR op_ne (pe_dget (hu_of hr) (pv 1) (pv 2) (fun _ _ => rfl)) pe_str (nomark _)) (pe_lc (own := [("_law_part", 4)]) (by rfl) sc_law_table.nd (pi_list (pe_split (pe_dget (hu_of hr) (pv 1) (pv 2) (fun _ _ => rfl)) pe_str)) (blkOk_by (own := [("_law_part", 4)]) (N := N_law_table) (sc := defScope s_law_table) (by decide +kernel)) (fun _ _ _ _ _ => (pg_name (i := 4) sc_law_table.nd rfl (Or.inl rfl))) (fun _ _ _ _ _ => pts_nil) (fun _ _ _ _ _ => (pe_split (pv 4) pe_str))) (pe_lst pa_nil)) rfl))))))
      (pss_cons (ps_for PassesOwn.never rfl (pi_str pe_str) (pg_name (i := 3) sc_law_table.nd rfl (Or.inl rfl))
      (pss_one (ps_for PassesOwn.never rfl (pi_list (pe_df D_law_signs_of hq hr pass0 (pa_cons (pv 3) pa_nil))) (pg_name (i := 2) sc_law_table.nd rfl (Or.inl rfl))
      (pss_one (ps_dput (hu_of hr) (pv 0) (pv 2) (pe_lst pa_nil) rfl)))))
      (pss_one (ps_ret (pv 0)))))), ?_⟩
    refine fun d hd0 => nm ?_
    dsimp only
    refine ⟨rfl, fun d1 H1 W1 => ⟨rfl, fun d2 H2 W2 => ⟨rfl, fun d3 H3 W3 => ⟨rfl, fun d4 H4 W4 => ⟨(by show 4 ≤ sizeLine; decide), fun p hp => ?_⟩⟩⟩⟩⟩
    have hdd : (upd H d (.dK [])) d = some (.dK []) := upd_same
    have smd : Same H (upd H d (.dK [])) := same_new hd0
    generalize upd H d (.dK []) = Hd at *
    have sm5 := same_new (o := .tup [V.ref d1, .ref d2, .ref d3, .ref d4]) hp
    have hp5 : (upd H4 p (.tup [V.ref d1, .ref d2, .ref d3, .ref d4])) p = some (.tup [V.ref d1, .ref d2, .ref d3, .ref d4]) := upd_same
    generalize upd H4 p (.tup [V.ref d1, .ref d2, .ref d3, .ref d4]) = H5 at sm5 hp5 ⊢
    have nw : ∀ {Ha Hb : Hp} {b : Addr}, Hb b = none → Same Hd Hb → b ≠ d := fun hb sm e => by
      have := sm d _ hdd
      rw [← e, hb] at this
      cases this
    have s1 := W1.sm
    have s2 := s1.trans W2.sm
    have s3 := s2.trans W3.sm
    have s4 := s3.trans W4.sm
    have s5 := s4.trans sm5
    have prs : Paired (fun (x : V) (T : List (Str × Str)) => ∃ b, x = .ref b ∧ H5 b = some (.dK (kvT T)) ∧ b ≠ d) [V.ref d1, .ref d2, .ref d3, .ref d4] TT :=
      .cons ⟨d1, rfl, sm5 _ _ (W4.sm _ _ (W3.sm _ _ (W2.sm _ _ W1.at_))), nw (Ha := Hd) W1.new (Same.refl _)⟩ (.cons ⟨d2, rfl, sm5 _ _ (W4.sm _ _ (W3.sm _ _ W2.at_)), nw (Ha := Hd) W2.new s1⟩
        (.cons ⟨d3, rfl, sm5 _ _ (W4.sm _ _ W3.at_), nw (Ha := Hd) W3.new s2⟩ (.cons ⟨d4, rfl, sm5 _ _ W4.at_, nw (Ha := Hd) W4.new s3⟩ .nil)))
    have hd5 := s5 d _ hdd
    have hpd : p ≠ d := fun e => by rw [e, hd5] at hp5; cases hp5
    have sH5 : Same H H5 := smd.trans s5
    clear W1 W2 W3 W4 s1 s2 s3 s4 s5 sm5 nw hp smd hdd
    have nd := law_nd
    refine ⟨p, rfl, ⟨_, .inl (.inl hp5)⟩, ?_⟩
    refine for_tup (K := K) (xs := [V.ref d1, .ref d2, .ref d3, .ref d4]) (fun i σ' H' => (∃ s1 s2, σ' = [some (.ref d), s1, s2, none, none]) ∧ (∀ b o, H5 b = some o → b ≠ d → H' b = some o) ∧ ∃ kvs, H' d = some (.dK kvs) ∧ LTab (nw H H') kvs (tabOf (TT.take i).flatten))
      ⟨⟨_, _, rfl⟩, fun _ _ e _ => e, [], hd5, .nil⟩ (fun i σ' H' _ h => .inl (.inl (h.2.1 p _ hp5 hpd))) (fun i x σ' H' hi pv => ?_) (fun σ' H' pv => ?_)
    · obtain ⟨⟨s1, s2, rfl⟩, kp, kvs0, hd', lt⟩ := pv
      obtain ⟨T1, hT, b, rfl, hb5, hbd⟩ := Tq.paired_get prs hi
      have hT1 : ∀ r ∈ T1, lrowB r.2 = true := law_rowB T1 (List.mem_of_getElem? hT)
      refine nm ?_
      refine ⟨b, .dK (kvT T1), kp b _ hb5 hbd, trivial, fun od => ⟨_, rfl, b, od, rfl, .inl ⟨kvT T1, upd_same, ?_⟩⟩⟩
      have eT : (TT.take (i + 1)).flatten = (TT.take i).flatten ++ T1 := by rw [List.take_add_one, hT, List.flatten_append]; simp
      -- the keys so far
      have ndT : ((tabOf ((TT.take i).flatten ++ T1)).map (·.1)).Nodup := by
        have e : TT.flatten = ((TT.take i).flatten ++ T1) ++ (TT.drop (i + 1)).flatten := by rw [← eT, ← List.flatten_append, List.take_append_drop]
        unfold lawTab at nd
        rw [e] at nd
        unfold tabOf at nd ⊢
        rw [List.map_append, List.map_append, List.map_append] at nd
        exact (List.nodup_append.mp (List.nodup_append.mp nd).1).1
      have lenT : ((TT.take i).flatten ++ T1).length ≤ 1000 := by
        have e : TT.flatten = ((TT.take i).flatten ++ T1) ++ (TT.drop (i + 1)).flatten := by rw [← eT, ← List.flatten_append, List.take_append_drop]
        have := law_len
        unfold lawTab tabOf at this
        rw [e, List.length_append, List.length_map, List.length_append] at this
        omega
      refine for_it walk_keys (fun j σ2 H2 => (∃ s2, σ2 = [some (.ref d), some (.ref b), s2, none, none]) ∧ H2 b = some (.frz od (.dK (kvT T1))) ∧ (∀ c o, H5 c = some o → c ≠ d → c ≠ b → H2 c = some o) ∧ ∃ kvs, H2 d = some (.dK kvs) ∧ LTab (nw H H2) kvs (tabOf ((TT.take i).flatten ++ T1.take j)))
        ⟨⟨_, rfl⟩, upd_same, fun c o e n1 n2 => by rw [upd_ne n2]; exact kp c o e n1, kvs0, by rw [upd_ne hbd.symm]; exact hd', ?_⟩ (fun _ _ _ _ h => h.2.1) (fun j y σ2 H2 H3 hj pv hy => ?_) (fun σ2 H2 pv => ?_)
      · rw [List.take_zero, List.append_nil]
        refine lt.but (nw_but fun c xs e => ?_)
        rw [upd_ne (fun q => by rw [q, kp b _ hb5 hbd] at e; cases e)]
        exact e
      · obtain ⟨⟨s2, rfl⟩, hbf, kp2, kvs, hd2, lt2⟩ := pv
        obtain ⟨rfl, k', v', hk, rfl⟩ := hy
        obtain ⟨⟨z, tx⟩, hr, e⟩ : ∃ r, T1[j]? = some r ∧ ((Sum.inr r.1 : Key), V.str r.2) = (k', v') := by
          unfold kvT at hk
          rw [List.getElem?_map] at hk
          exact Option.map_eq_some_iff.mp hk
        cases e
        dsimp only at hk hr ⊢
        refine nm ?_
        have ndk : ((kvT T1).map (·.1)).Nodup := by
          unfold tabOf at ndT
          rw [List.map_map, List.map_append] at ndT
          exact kvT_nd (List.nodup_append.mp ndT).2.1
        have ev : valV (kvT T1) (Sum.inr z) = some (V.str tx) := valV_at ndk hk
        have nin : (Sum.inr z : Key) ∉ kvs.map (·.1) := by
          rw [lt2.keys]
          intro hm
          obtain ⟨z', hz', e⟩ := List.mem_map.mp hm
          obtain rfl : z' = z := Sum.inr.inj e
          have e2 : (TT.take i).flatten ++ T1 = ((TT.take i).flatten ++ T1.take j) ++ T1.drop j := by rw [List.append_assoc, List.take_append_drop]
          unfold tabOf at ndT hz'
          rw [e2, List.map_append, List.map_append] at ndT
          refine (List.nodup_append.mp ndT).2.2 _ hz' z' ?_ rfl
          have hlt : j < T1.length := (List.getElem?_eq_some_iff.mp hr).1
          exact List.mem_map.mpr ⟨(z', rowsOf tx), List.mem_map.mpr ⟨(z', tx), by rw [List.mem_drop_iff_getElem]; exact ⟨0, by simpa using hlt, by simpa using (List.getElem?_eq_some_iff.mp hr).2⟩, rfl⟩, rfl⟩
        have hlen : kvs.length < sizeLine := by
          have e := congrArg List.length lt2.keys
          rw [List.length_map, List.length_map, List.length_map] at e
          unfold tabOf at e
          rw [List.length_map] at e
          have : ((TT.take i).flatten ++ T1.take j).length ≤ ((TT.take i).flatten ++ T1).length := by
            rw [List.length_append, List.length_append, List.length_take]
            omega
          rw [sizeLine_eq]
          omega
        have fin : ∀ (v : V) (H4 : Hp), Same H3 H4 → LRows (nw H H4) v (rowsOf tx) → ∃ a H5', V.ref d = V.ref a ∧ DPut H4 a (V.str z) v H5' ∧ ((∃ s2, [some (V.ref d), some (V.ref b), some (V.str z), none, none] = [some (.ref d), some (.ref b), s2, none, none]) ∧ H5' b = some (.frz od (.dK (kvT T1))) ∧ (∀ c o, H5 c = some o → c ≠ d → c ≠ b → H5' c = some o) ∧ ∃ kvs, H5' d = some (.dK kvs) ∧ LTab (nw H H5') kvs (tabOf ((TT.take i).flatten ++ T1.take (j + 1)))) := fun v H4 sm lr => by
          refine ⟨d, _, rfl, .inl ⟨kvs, Sum.inr z, sm d _ hd2, rfl, hlen, rfl⟩, ⟨_, rfl⟩, ?_, fun c o e n1 n2 => ?_, kvs ++ [(Sum.inr z, v)], by rw [upd_same, putK_new nin], ?_⟩
          · rw [upd_ne hbd]
            exact sm b _ hbf
          · rw [upd_ne n1]
            exact sm c o (kp2 c o e n1 n2)
          · have bt : ∀ c xs, H4 c = some (.lst xs) → (upd H4 d (.dK (putK kvs (Sum.inr z) v))) c = some (.lst xs) := fun c xs e => by
              rw [upd_ne (fun q => by rw [q, sm d _ hd2] at e; cases e)]
              exact e
            rw [tab_take hr]
            exact paired_snoc ⟨rfl, lr.but (nw_but bt)⟩ (lt2.but (nw_but fun c xs e => bt c xs (sm c _ e)))
        have newH : ∀ c, H3 c = none → H c = none := fun c hc => by
          cases hcc : H c with
          | none => rfl
          | some o =>
            have h1 : c ≠ d := fun q => by rw [q, hd0] at hcc; cases hcc
            have h2 : c ≠ b := fun q => by rw [q, hbf] at hc; cases hc
            rw [kp2 c o (sH5 c o hcc) h1 h2] at hc
            cases hc
        refine ⟨_, rfl, _, rfl, b, .str tx, rfl, .inl ⟨kvT T1, Sum.inr z, .inr ⟨od, hbf⟩, rfl, ev.symm⟩, rfl, _, rfl, ?_⟩
        by_cases he : tx = ""
        · subst he
          refine if0 (by rfl) ⟨by decide, fun a ha => ⟨_, rfl, _, rfl, fin (.ref a) _ (same_new ha) ⟨a, [], rfl, nw_of (newH a ha) upd_same, .nil⟩⟩⟩
        · have G := lrowG (hT1 _ (List.mem_of_getElem? hr)) he
          refine if1 (by rw [decide_eq_false (fun e => he (V.str.inj e))]; rfl) ⟨_, rfl, _, rfl, b, .str tx, rfl, .inl ⟨kvT T1, Sum.inr z, .inr ⟨od, hbf⟩, rfl, ev.symm⟩, ⟨tx, rfl⟩, tx, ", ", rfl, rfl, rfl, Nat.le_trans (Nat.add_le_add_right G.len 2) (by decide), fun q hq => ⟨q, rfl, ⟨_, SqL.of upd_same⟩, fun L hL => ?_⟩⟩
          have smq := same_new (o := .lst ((Txt.split tx ", ").map V.str)) hq
          have hq6 : (upd H3 q (.lst ((Txt.split tx ", ").map V.str))) q = some (.lst ((Txt.split tx ", ").map V.str)) := upd_same
          generalize upd H3 q (.lst ((Txt.split tx ", ").map V.str)) = H6 at smq hq6 hL ⊢
          refine lc_list (xs := (Txt.split tx ", ").map V.str) (fun m H' => Same H6 H' ∧ ∃ qs, H' L = some (.lst qs) ∧ qs.length = m ∧ Paired (fun q r => LPart (nw H H') q r ∧ q ≠ .ref L) qs (((Txt.split tx ", ").take m).map fun p => (rowN p, rowW p))) ⟨same_new hL, [], upd_same, rfl, .nil⟩ (fun m H' _ h => sqL_same h.1 (SqL.of hq6)) (fun m x H' hm pv => ?_) (fun H' pv => ?_)
          · obtain ⟨sm7, qs, hL7, ql, pr⟩ := pv
            obtain ⟨r, hr7, rfl⟩ : ∃ r, (Txt.split tx ", ")[m]? = some r ∧ V.str r = x := by simpa using hm
            have hlt : m < (Txt.split tx ", ").length := (List.getElem?_eq_some_iff.mp hr7).1
            obtain ⟨two, rl⟩ := G.part r (List.mem_of_getElem? hr7)
            refine ⟨rfl, yes ⟨_, rfl, ⟨r, rfl⟩, r, " ", rfl, rfl, rfl, Nat.le_trans (Nat.add_le_add_right rl 2) (by decide), fun l hl => ?_⟩⟩
            have hlL : L ≠ l := fun e => by rw [e, hl] at hL7; cases hL7
            have s8 := same_new (o := .lst ((Txt.split r " ").map V.str)) hl
            have e8 : (upd H' l (.lst ((Txt.split r " ").map V.str))) l = some (.lst ((Txt.split r " ").map V.str)) := upd_same
            generalize upd H' l (.lst ((Txt.split r " ").map V.str)) = H8 at s8 e8 ⊢
            have hL8 := s8 L _ hL7
            refine ⟨qs, hL8, by rw [ql]; exact Nat.lt_of_lt_of_le hlt (Nat.le_trans G.cnt (by decide)), ?_⟩
            refine ⟨fun c o e => ?_, qs ++ [.ref l], upd_same, by simp [ql], ?_⟩
            · rw [upd_ne (fun q => by rw [q, hL] at e; cases e)]
              exact s8 c o (sm7 c o e)
            · have ne : ∀ {c : Addr} {xs : List V}, c ≠ L → H8 c = some (.lst xs) → (upd H8 L (.lst (qs ++ [V.ref l]))) c = some (.lst xs) := fun n e => by rw [upd_ne n]; exact e
              rw [List.take_add_one, hr7, List.map_append]
              refine paired_snoc ⟨⟨l, rfl, nw_of (newH l (same_none (smq.trans sm7) hl)) (ne hlL.symm (by rw [e8, two]; rfl))⟩, fun e => hlL (V.ref.inj e).symm⟩ (paired_map (fun a r' h => ?_) pr)
              obtain ⟨⟨c, rfl, hc⟩, hn⟩ := h
              obtain ⟨hc1, hc2⟩ := of_nw hc
              exact ⟨⟨c, rfl, nw_of hc1 (ne (fun e => hn (by rw [e])) (s8 c _ hc2))⟩, hn⟩
          · obtain ⟨sm7, qs, hL7, ql, pr⟩ := pv
            rw [List.length_map, List.take_length] at pr
            refine ⟨_, rfl, _, rfl, fin (.ref L) H' (smq.trans sm7) ⟨L, qs, rfl, nw_of (newH L (same_none smq hL)) hL7, ?_⟩⟩
            unfold rowsOf
            rw [if_neg he]
            exact paired_map (fun _ _ h => h.1) pr
      · obtain ⟨⟨s2, rfl⟩, hbf, kp2, kvs, hd2, lt2⟩ := pv
        refine ⟨hbf, ⟨_, _, rfl⟩, fun c o e n1 => ?_, kvs, by rw [upd_ne hbd.symm]; exact hd2, ?_⟩
        · by_cases hc : c = b
          · subst hc
            rw [upd_same]
            exact hb5.symm.trans e
          · rw [upd_ne hc]
            exact kp2 c o e n1 hc
        · rw [eT]
          have el : T1.take (kvT T1).length = T1 := by unfold kvT; rw [List.length_map, List.take_length]
          rw [el] at lt2
          refine lt2.but (nw_but fun c xs e => ?_)
          rw [upd_ne (fun q => by rw [q, hbf] at e; cases e)]
          exact e
    · obtain ⟨⟨s1, s2, rfl⟩, kp, kvs0, hd', lt⟩ := pv
      have eTT : TT.take [V.ref d1, .ref d2, .ref d3, .ref d4].length = TT := rfl
      rw [eTT] at lt
      have kH : ∀ b o, H b = some o → H' b = some o := fun b o e => kp b o (sH5 b o e) (fun q => by rw [q, hd0] at e; cases e)
      clear kp
      have all : ∀ i, i ≤ sigW.length → ((tabOf TT.flatten ++ (((sigW.take i).map sigOf).flatten.map fun k => (k, ([] : Rw)))).map (·.1)).Nodup ∧ (tabOf TT.flatten ++ (((sigW.take i).map sigOf).flatten.map fun k => (k, ([] : Rw)))).length ≤ 1000 := fun i _ => by
        have e : lawTab = (tabOf TT.flatten ++ (((sigW.take i).map sigOf).flatten.map fun k => (k, ([] : Rw)))) ++ (((sigW.drop i).map sigOf).flatten.map fun k => (k, ([] : Rw))) := by
          unfold lawTab
          rw [List.append_assoc, ← List.map_append, ← List.flatten_append, ← List.map_append, List.take_append_drop]
        have h2 := law_len
        rw [e] at nd h2
        rw [List.map_append] at nd
        rw [List.length_append] at h2
        exact ⟨(List.nodup_append.mp nd).1, by omega⟩
      refine ⟨_, rfl, for_it walk_str (fun i σ' H2 => (∃ s1 s2 s3, σ' = [some (.ref d), s1, s2, s3, none]) ∧ (∀ b o, H b = some o → H2 b = some o) ∧ ∃ kvs, H2 d = some (.dK kvs) ∧ LTab (nw H H2) kvs (tabOf TT.flatten ++ (((sigW.take i).map sigOf).flatten.map fun k => (k, ([] : Rw)))))
        ⟨⟨_, _, _, rfl⟩, kH, kvs0, hd', by simpa using lt⟩ (fun _ _ _ _ _ => trivial) (fun i x σ2 H2 H3 hi pv hy => ?_) (fun σ2 H2 pv => ?_)⟩
      · obtain ⟨⟨s1, s2, s3, rfl⟩, kp2, kvs1, hd2, lt2⟩ := pv
        obtain ⟨rfl, c, hc, rfl⟩ := hy
        obtain ⟨g, hg, hw⟩ := sig_all i c hc
        have hi5 : i + 1 ≤ sigW.length := (List.getElem?_eq_some_iff.mp hw).1
        have esig : sigOf ⟨#[c]⟩ = Txt.split g " " := by unfold sigOf; rw [hg]
        have etk : ((sigW.take (i + 1)).map sigOf).flatten = ((sigW.take i).map sigOf).flatten ++ Txt.split g " " := by
          rw [List.take_add_one, hw, List.map_append, List.flatten_append, ← esig]
          simp
        obtain ⟨ndi, leni⟩ := all (i + 1) hi5
        rw [etk] at ndi leni
        refine nm ?_
        refine ⟨_, rfl, _, g, rfl, hg, fun p2 H4 sm4 hp2 hl2 => ⟨p2, rfl, ⟨_, SqL.of hl2⟩, ?_⟩⟩
        have hpd2 : p2 ≠ d := fun e => by rw [e, hd2] at hp2; cases hp2
        refine for_list (K := K) (xs := (Txt.split g " ").map V.str) (fun j σ3 H5 => (∃ s2, σ3 = [some (.ref d), s1, s2, some (.str ⟨#[c]⟩), none]) ∧ (∀ b o, H b = some o → H5 b = some o) ∧ H5 p2 = some (.lst ((Txt.split g " ").map V.str)) ∧ ∃ kvs, H5 d = some (.dK kvs) ∧ LTab (nw H H5) kvs (tabOf TT.flatten ++ ((((sigW.take i).map sigOf).flatten ++ (Txt.split g " ").take j).map fun k => (k, ([] : Rw)))))
          ⟨⟨_, rfl⟩, fun b o e => sm4 b o (kp2 b o e), hl2, kvs1, sm4 d _ hd2, ?_⟩ (fun j σ3 H5 _ h => SqL.of h.2.2.1) (fun j x σ3 H5 hj pv => ?_) (fun σ3 H5 pv => ?_)
        · rw [List.take_zero, List.append_nil]
          exact lt2.but (nw_but fun c xs e => sm4 c _ e)
        · obtain ⟨⟨s2, rfl⟩, kp3, hp3, kvs, hd3, lt3⟩ := pv
          obtain ⟨z, hz, rfl⟩ : ∃ r, (Txt.split g " ")[j]? = some r ∧ V.str r = x := by simpa using hj
          have esp : (((sigW.take i).map sigOf).flatten ++ Txt.split g " ") = (((sigW.take i).map sigOf).flatten ++ (Txt.split g " ").take j) ++ (Txt.split g " ").drop j := by rw [List.append_assoc, List.take_append_drop]
          have hlt : j < (Txt.split g " ").length := (List.getElem?_eq_some_iff.mp hz).1
          have nin : (Sum.inr z : Key) ∉ kvs.map (·.1) := by
            rw [lt3.keys]
            intro hm
            obtain ⟨z', hz', e⟩ := List.mem_map.mp hm
            obtain rfl : z' = z := Sum.inr.inj e
            rw [esp, List.map_append (f := fun k => (k, ([] : Rw))), ← List.append_assoc, List.map_append] at ndi
            refine (List.nodup_append.mp ndi).2.2 _ hz' z' ?_ rfl
            exact List.mem_map.mpr ⟨(z', []), List.mem_map.mpr ⟨z', by rw [List.mem_drop_iff_getElem]; exact ⟨0, by simpa using hlt, by simpa using (List.getElem?_eq_some_iff.mp hz).2⟩, rfl⟩, rfl⟩
          have hlen : kvs.length < sizeLine := by
            have e := congrArg List.length lt3.keys
            rw [List.length_map, List.length_map, List.length_map] at e
            rw [List.length_append, List.length_map, List.length_append] at leni e
            rw [List.length_take] at e
            rw [sizeLine_eq]
            omega
          have newH : ∀ c, H5 c = none → H c = none := fun c hc => by
            cases hcc : H c with
            | none => rfl
            | some o =>
              rw [kp3 c o hcc] at hc
              cases hc
          refine nm ⟨by decide, fun a ha => ⟨_, rfl, _, rfl, d, _, rfl, .inl ⟨kvs, Sum.inr z, same_new ha d _ hd3, rfl, hlen, rfl⟩, ⟨_, rfl⟩, ?_, ?_, kvs ++ [(Sum.inr z, .ref a)], by rw [upd_same, putK_new nin], ?_⟩⟩
          · intro b o e
            rw [upd_ne (fun q => by rw [q, hd0] at e; cases e)]
            exact same_new ha b o (kp3 b o e)
          · rw [upd_ne hpd2]
            exact same_new ha _ _ hp3
          · have hda : d ≠ a := fun e => by rw [e, ha] at hd3; cases hd3
            rw [List.take_add_one, hz, ← List.append_assoc, List.map_append, ← List.append_assoc]
            refine paired_snoc ⟨rfl, a, [], rfl, nw_of (newH a ha) (by rw [upd_ne hda.symm, upd_same]), .nil⟩ (lt3.but (nw_but fun c xs e => ?_))
            rw [upd_ne (fun q => by rw [q, hd3] at e; cases e)]
            exact same_new ha c _ e
        · obtain ⟨⟨s2, rfl⟩, kp3, hp3, kvs, hd3, lt3⟩ := pv
          rw [List.length_map, List.take_length, ← etk] at lt3
          exact ⟨⟨_, _, _, rfl⟩, kp3, kvs, hd3, lt3⟩
      · obtain ⟨⟨s1, s2, s3, rfl⟩, kp2, kvs1, hd2, lt2⟩ := pv
        refine ⟨_, rfl, k d kvs1 H2 kp2 hd0 hd2 ?_⟩
        exact lt2
end
end K04

set_option pp.maxSteps 1500

namespace K04
open PySem L2 Tq
abbrev s_law_draw : Stmt := top 33
abbrev N_law_draw : List Str := ["_law_stream", "_law_many", "_law_digit", "_law_mixed_here", "_law_last"]
theorem sc_law_draw : FnScope N_law_draw ["_law_stream", "_law_many"] (defScope s_law_draw) := ⟨rfl, rfl, rfl, by decide +kernel, rfl, by decide +kernel, by decide +kernel⟩
abbrev s_law_pick : Stmt := top 35
abbrev N_law_pick : List Str := ["_law_stream", "_law_some"]
theorem sc_law_pick : FnScope N_law_pick ["_law_stream", "_law_some"] (defScope s_law_pick) := ⟨rfl, rfl, rfl, by decide +kernel, rfl, by decide +kernel, by decide +kernel⟩
abbrev s_law_mixed : Stmt := top 34
abbrev N_law_mixed : List Str := ["_law_stream", "_law_some", "_law_left", "_law_found"]
theorem sc_law_mixed : FnScope N_law_mixed ["_law_stream", "_law_some"] (defScope s_law_mixed) := ⟨rfl, rfl, rfl, by decide +kernel, rfl, by decide +kernel, by decide +kernel⟩
section
variable {P : Program} {w : World} {K : PySem.W.Frag} {mg : Str → Option Value} {base : Heap}
theorem ok_draw {f : Addr} {fd : FuncData} (F : Fun K "_law_draw" "_law_draw" s_law_draw f fd) (T : Txt mg) :
    FnG P w K mg base CX0 1 f fd ["_law_stream", "_law_many"] spDraw := by
  refine okG0 F sc_law_draw (fun vs H Q E h => ?_) (fun cdv A outer s H vs Q E hq hr h => ?_)
  · obtain ⟨a, l, n, c, rfl, _⟩ := h
    rfl
  · obtain ⟨a, l, n, c, rfl, n0, n1, c1, S, k⟩ := h
    refine ⟨_, (pss_cons (ps_while PassesOwn.never (PW.pt (pw_and (pt_cmpR op_eq (pe_ix ix_list (pv 0) pe_int (fun _ _ => rfl)) pe_int (nomark _)) (pw_and1 (pt_cmpR (op_neD hr.units) (pe_ix ix_list (pv 0) pe_int (fun _ _ => rfl)) (pe_lst pa_nil) (nomark _)))))
      (pss_cons (ps_asg (pe_bm PySem.F.plainAttrs_list PySem.F.slot_list_pop PySem.F.type_list_pop mt_popAt (pe_ix ix_list (pv 0) pe_int (fun _ _ => rfl)) (pa_cons pe_int pa_nil)) (pg_sub (pv 0) pe_int set_list))
      (pss_one (ps_if (pt_cmpR op_lt (pe_ix ix_list (pv 0) pe_int (fun _ _ => rfl)) (pe_op op_pow pe_int pe_int) (nomark _))
      (pss_cons (ps_asg (pe_op op_mod (pe_callTy call_int1 (by rfl) T.b_int (by decide +kernel) (pa_cons (pe_op op_add (pe_op op_add (pe_op op_mul (pe_ix ix_list (pv 0) pe_int (fun _ _ => rfl)) pe_int) (pe_ix ix_list (pv 0) pe_int (fun _ _ => rfl))) pe_int) pa_nil)) pe_int) (pg_sub (pv 0) pe_int set_list))
      (pss_one (ps_asg pe_int (pg_sub (pv 0) pe_int set_list))))
      pss_nil))))
      (pss_cons (ps_if (pt_cmpR op_gt (pe_ix ix_list (pv 0) pe_int (fun _ _ => rfl)) pe_int (nomark _))
      (pss_cons (ps_set (i := 2) sc_law_draw.nd rfl (Or.inl rfl) (pe_op op_mod (pe_callTy call_int1 (by rfl) T.b_int (by decide +kernel) (pa_cons (pe_ix ix_list (pv 0) pe_int (fun _ _ => rfl)) pa_nil)) (pv 1)))
      (pss_cons (ps_asg (pe_op op_fdivN (pe_ix ix_list (pv 0) pe_int (fun _ _ => rfl)) (pv 1)) (pg_sub (pv 0) pe_int set_list))
      (pss_one (ps_ret (pv 2)))))
      pss_nil)
      (pss_cons (ps_asg (pe_op op_add (pe_ix ix_list (pv 0) pe_int (fun _ _ => rfl)) pe_int) (pg_sub (pv 0) pe_int set_list))
      (pss_cons (ps_set (i := 3) sc_law_draw.nd rfl (Or.inl rfl) (pe_op op_mod (pe_callTy call_int1 (by rfl) T.b_int (by decide +kernel) (pa_cons (pe_op op_pow (pe_op op_add (pe_op op_add (pe_ix ix_list (pv 0) pe_int (fun _ _ => rfl)) (pe_op op_mul pe_int (pe_ix ix_list (pv 0) pe_int (fun _ _ => rfl)))) pe_int) pe_int) pa_nil)) pe_int))
      (pss_cons (ps_set (i := 4) sc_law_draw.nd rfl (Or.inl rfl) (pe_op op_mod (pe_callTy call_int1 (by rfl) T.b_int (by decide +kernel) (pa_cons (pe_op op_pow (pe_op op_add (pe_op op_add (pe_op op_mul (pv 3) pe_int) (pe_op op_mul (pe_op op_mul pe_int (pe_ix ix_list (pv 0) pe_int (fun _ _ => rfl))) (pe_ix ix_list (pv 0) pe_int (fun _ _ => rfl)))) pe_int) pe_int) pa_nil)) pe_int))
      (pss_one (ps_ret (pe_op op_mod (pe_callTy call_int1 (by rfl) T.b_int (by decide +kernel) (pa_cons (pv 4) pa_nil)) (pv 1))))))))), ?_⟩
    obtain ⟨ns, x, kk, m, ha, hl, x0, k0, kc, m0, m1⟩ := S.ex
    refine while_split (fun σ H1 => σ = [some (.ref a), some (.int n), none, none, none] ∧ Nx a l H H1 ∧ ∃ (ns : List Int) (x m : Int),
      H1 a = some (.lst [.ref l, .int x, .int kk, .int m]) ∧ H1 l = some (.lst (ns.map V.int)) ∧ 0 ≤ x ∧ 0 ≤ m ∧ m < 2147483647) ?_ (fun fin => ?_)
    · -- behind the loop
      rintro σ H1 ⟨rfl, nx, ns, x, m, ha, hl, x0, m0, m1⟩
      have hal := strm_ne ha hl
      refine ⟨_, rfl, a, _, _, _, rfl, rfl, SqL.of ha, rfl, _, _, rfl, rfl, _, rfl, ?_⟩
      by_cases hx : (0 : Int) < x
      · refine if1 (decide_eq_true hx) ?_
        refine ⟨_, rfl, a, _, _, _, rfl, rfl, SqL.of ha, rfl, Or.inl ⟨_, rfl, _, rfl, _, _, rfl, rfl, n0, ?_⟩⟩
        refine ⟨_, rfl, a, _, _, _, rfl, rfl, SqL.of ha, rfl, _, rfl, _, _, rfl, rfl, ⟨by omega, by omega⟩, _, rfl, a, _, _, 1, rfl, rfl, ha, rfl, _, rfl, ?_⟩
        refine k _ _ (Int.emod_nonneg _ (by omega)) (Int.emod_lt_of_pos _ n0) ⟨ns, _, kk, m, upd_same, ?_, ?_, k0, by omega, m0, m1⟩ (nx.trans Nx.upd_a)
        · rw [upd_ne hal.symm]
          exact hl
        · exact Int.fdiv_nonneg (by omega) (by omega)
      · refine if0 (decide_eq_false hx) ?_
        refine ⟨_, rfl, a, _, _, _, rfl, rfl, SqL.of ha, rfl, _, _, rfl, rfl, _, rfl, a, _, _, 2, rfl, rfl, ha, rfl, ?_⟩
        have e1 : (upd H1 a (.lst [V.ref l, V.int x, V.int (kk + 1), V.int m])) a = some (.lst [V.ref l, V.int x, V.int (kk + 1), V.int m]) := upd_same
        refine ⟨_, rfl, a, _, _, _, rfl, rfl, SqL.of e1, rfl, _, rfl, a, _, _, _, rfl, rfl, SqL.of e1, rfl, _, _, rfl, rfl, Or.inl ⟨by decide, by decide⟩, _, _, rfl, rfl, _, _, rfl, rfl, _, _, rfl, rfl, ⟨by decide, by decide, ?_⟩,
          Or.inl ⟨_, rfl, _, _, rfl, rfl, (show (0 : Int) < 2147483629 by decide), ?_⟩⟩
        · omega
        have b1 := Int.emod_nonneg ((m + 104729 * (kk + 1) + 17) ^ (5 : Int).toNat) (show (2147483629 : Int) ≠ 0 by decide)
        have b2 := Int.emod_lt_of_pos ((m + 104729 * (kk + 1) + 17) ^ (5 : Int).toNat) (show (0 : Int) < 2147483629 by decide)
        generalize (m + 104729 * (kk + 1) + 17) ^ (5 : Int).toNat % 2147483629 = mx at b1 b2 ⊢
        have b3 : (kk + 1) * (kk + 1) ≤ 4000001 * 4000001 := Int.mul_le_mul (by omega) (by omega) (by omega) (by omega)
        have b4 : 0 ≤ (kk + 1) * (kk + 1) := Int.mul_nonneg (by omega) (by omega)
        have b5 : 40503 * (kk + 1) * (kk + 1) = 40503 * ((kk + 1) * (kk + 1)) := Int.mul_assoc _ _ _
        refine ⟨_, rfl, _, _, rfl, rfl, Or.inl ⟨by omega, by omega⟩, _, rfl, a, _, _, _, rfl, rfl, SqL.of e1, rfl, _, _, rfl, rfl, Or.inl ⟨by decide, by decide⟩, _, rfl, a, _, _, _, rfl, rfl, SqL.of e1, rfl,
          _, _, rfl, rfl, Or.inl ⟨by omega, by omega⟩, _, _, rfl, rfl, _, _, rfl, rfl, _, _, rfl, rfl, ⟨by decide, by decide, ?_⟩, Or.inl ⟨_, rfl, _, _, rfl, rfl, (show (0 : Int) < 1000000007 by decide), ?_⟩⟩
        · omega
        refine ⟨_, rfl, Or.inl ⟨_, rfl, _, rfl, _, _, rfl, rfl, n0, ?_⟩⟩
        refine k _ _ (Int.emod_nonneg _ (by omega)) (Int.emod_lt_of_pos _ n0) ⟨ns, x, kk + 1, m, e1, ?_, x0, by omega, by omega, m0, m1⟩ (nx.trans Nx.upd_a)
        rw [upd_ne hal.symm]
        exact hl
    refine ⟨fun z σ H' => σ = [some (.ref a), some (.int n), none, none, none] ∧ Nx a l H H' ∧ ∃ (ns : List Int) (x m : Int),
      H' a = some (.lst [.ref l, .int x, .int kk, .int m]) ∧ H' l = some (.lst (ns.map V.int)) ∧ 0 ≤ x ∧ 0 ≤ m ∧ m < 2147483647 ∧ z = ns.length,
      ⟨_, rfl, Nx.refl, ns, x, m, ha, hl, x0, m0, m1, rfl⟩, ?_⟩
    rintro z σ H1 ⟨rfl, nx, ns, x, m, ha, hl, x0, m0, m1, rfl⟩
    have hal := strm_ne ha hl
    -- the loop's test
    refine ⟨_, rfl, a, _, _, _, rfl, rfl, SqL.of ha, rfl, rfl, _, rfl, ?_⟩
    by_cases hx : x = 0
    · subst hx
      refine if1 (by decide) ?_
      refine ⟨_, rfl, a, _, _, _, rfl, rfl, SqL.of ha, rfl, (by show 0 ≤ sizeLine; decide), fun p hp => ?_⟩
      have hpa : a ≠ p := ne_of_none ha hp
      have hpl : l ≠ p := ne_of_none hl hp
      have ha2 : upd H1 p (.lst []) a = some (.lst [V.ref l, V.int 0, V.int kk, V.int m]) := by rw [upd_ne hpa]; exact ha
      have hl2 : upd H1 p (.lst []) l = some (.lst (ns.map V.int)) := by rw [upd_ne hpl]; exact hl
      have nx2 : Nx a l H (upd H1 p (.lst [])) := nx.trans (Nx.new hp)
      refine ⟨_, _, .lst (SqL.of hl2) (dpAll_ints ns), .lst (SqL.of upd_same) .nil, shaped_ints ns, rfl, _, rfl, ?_⟩
      rw [eqv_nil]
      cases ns with
      | nil => exact fin _ _ ⟨rfl, nx2, [], 0, m, ha2, hl2, x0, m0, m1⟩
      | cons y r =>
        refine ⟨fun σ' H' => σ' = [some (.ref a), some (.int n), none, none, none] ∧ Nx a l H H' ∧ ∃ (x m : Int),
          H' a = some (.lst [.ref l, .int x, .int kk, .int m]) ∧ H' l = some (.lst (r.map V.int)) ∧ 0 ≤ x ∧ 0 ≤ m ∧ m < 2147483647, ?_, ?_⟩
        · rintro σ' H' ⟨rfl, nx', x, m, h1, h2, h3, h4, h5⟩
          exact ⟨r.length, by simp, rfl, nx', r, x, m, h1, h2, h3, h4, h5, rfl⟩
        · -- stream[1] = stream[0].pop(0)
          refine ⟨_, rfl, a, _, _, _, rfl, rfl, SqL.of ha2, rfl, .inl ⟨rfl, _, SqL.of hl2⟩, l, _, _, 0, _, rfl, rfl, hl2, by decide, by decide, ix0 _ _, rfl, _, rfl, a, [V.ref l, V.int 0, V.int kk, V.int m], _, 1, rfl, rfl, ?_, rfl, ?_⟩
          · rw [upd_ne hal]
            exact ha2
          obtain ⟨H2, e2⟩ : ∃ H2, H2 = upd (upd (upd H1 p (.lst [])) l (.lst (((y :: r).map V.int).eraseIdx 0))) a (.lst ([V.ref l, V.int 0, V.int kk, V.int m].set 1 (V.int y))) := ⟨_, rfl⟩
          have ha3 : H2 a = some (.lst [V.ref l, V.int y, V.int kk, V.int m]) := by rw [e2]; exact upd_same
          have hl3 : H2 l = some (.lst (r.map V.int)) := by rw [e2, upd_ne hal.symm, upd_same]; rfl
          have nx3 : Nx a l H H2 := by rw [e2]; exact (nx2.trans Nx.upd_l).trans Nx.upd_a
          rw [← e2]
          refine ⟨_, rfl, a, _, _, _, rfl, rfl, SqL.of ha3, rfl, _, _, rfl, rfl, ⟨by decide, by decide, by decide⟩, _, _, rfl, rfl, _, rfl, ?_⟩
          by_cases hy : y < 10 ^ (18 : Int).toNat
          · refine if1 (decide_eq_true hy) ?_
            refine ⟨_, rfl, a, _, _, _, rfl, rfl, SqL.of ha3, rfl, _, _, rfl, rfl, Or.inl ⟨by omega, by omega⟩, _, rfl, a, _, _, _, rfl, rfl, SqL.of ha3, rfl, _, _, rfl, rfl, _, _, rfl, rfl, Or.inl ⟨_, rfl, _, _, rfl, rfl, (show (0 : Int) < 2147483647 by decide),
              _, rfl, a, _, _, 3, rfl, rfl, ha3, rfl, ?_⟩⟩
            refine ⟨_, rfl, a, [V.ref l, V.int y, V.int kk, V.int ((m * 31 + y + 7) % 2147483647)], _, 1, rfl, rfl, upd_same, rfl, rfl, (nx3.trans Nx.upd_a).trans Nx.upd_a, _, _, upd_same, ?_, Int.le_refl 0, Int.emod_nonneg _ (by decide), Int.emod_lt_of_pos _ (by decide)⟩
            rw [upd_ne hal.symm, upd_ne hal.symm]
            exact hl3
          · refine if0 (decide_eq_false hy) ?_
            refine ⟨rfl, nx3, y, m, ha3, hl3, ?_, m0, m1⟩
            have : (0 : Int) ≤ 10 ^ (18 : Int).toNat := by decide
            omega
    · have hd : decide (V.int x = V.int 0) = false := decide_eq_false fun e => hx (by cases e; rfl)
      refine if0 hd ?_
      exact fin _ _ ⟨rfl, nx, ns, x, m, ha, hl, x0, m0, m1⟩
end

section
variable {P : Program} {w : World} {K : PySem.W.Frag} {mg : Str → Option Value} {base : Heap}
theorem ok_pick {f : Addr} {fd : FuncData} (F : Fun K "_law_pick" "_law_pick" s_law_pick f fd) (T : Txt mg) (D_law_draw : Df P w K mg base CX0 1 "_law_draw" spDraw) :
    FnG P w K mg base CX0 2 f fd ["_law_stream", "_law_some"] (spPick K) := by
  refine okG0 F sc_law_pick (fun vs H Q E h => ?_) (fun cdv A outer s H vs Q E hq hr h => ?_)
  · obtain ⟨a, l, p, xs, c, rfl, _⟩ := h
    rfl
  · obtain ⟨a, l, p, xs, c, rfl, hc, S, hp, hne, hz, k⟩ := h
    have hp0 : SqL K H p xs := sqL_same off_sub hp
    have hpos : 0 < xs.length := List.length_pos_iff.mpr hne
    refine ⟨_, (pss_one (ps_ret (pe_ix ix_list (pv 1) (pe_df D_law_draw hq hr pass0 (pa_cons (pv 0) (pa_cons (pe_callB call_len_seq (by rfl) T.b_len (by decide +kernel) (pa_cons (pv 1) pa_nil)) pa_nil))) (fun _ _ => rfl)))), ?_⟩
    refine ⟨_, rfl, _, rfl, _, rfl, p, xs, rfl, .inl hp0, a, l, _, c, rfl, by omega, by omega, hc, S, fun r H' r0 r1 S' nx => ?_⟩
    obtain ⟨v, hv, hm⟩ := atI_mem r0 r1
    exact ⟨p, xs, r, v, rfl, rfl, sqL_same off_sub (sqL_same nx hp), hv, k v H' hm S' nx⟩
end

def spMix (K : PySem.W.Frag) : Sp := fun vs H Q _ => ∃ (a l p : Addr) (zs : List Str) (c : Nat), vs = [.ref a, .ref p] ∧ c + 1000 < 4000000 ∧ Strm H a l c ∧ SqL K (off a l H) p (zs.map V.str) ∧ zs.length ≤ 1000 ∧
  ∀ (q : Addr) (ys : List Str) (H' : Hp), (∀ y ∈ ys, y ∈ zs) → Strm H' a l (c + zs.length) → Nx a l H H' → H q = none → H' q = some (.lst (ys.map V.str)) → ys.length ≤ zs.length → Q (.ref q) H'
section
variable {P : Program} {w : World} {K : PySem.W.Frag} {mg : Str → Option Value} {base : Heap}
theorem ok_mixed {f : Addr} {fd : FuncData} (F : Fun K "_law_mixed" "_law_mixed" s_law_mixed f fd) (T : Txt mg) (D_law_draw : Df P w K mg base CX0 1 "_law_draw" spDraw) :
    FnG P w K mg base CX0 2 f fd ["_law_stream", "_law_some"] (spMix K) := by
  refine okG0 F sc_law_mixed (fun vs H Q E h => ?_) (fun cdv A outer s H vs Q E hq hr h => ?_)
  · obtain ⟨a, l, p, zs, c, rfl, _⟩ := h
    rfl
  · obtain ⟨a, l, p, zs, c, rfl, hc, S, hp, hz, k⟩ := h
    refine ⟨_, (pss_cons (ps_par (i := 2) (j := 3) (by rfl) sc_law_mixed.nd rfl rfl (by decide) rfl rfl (pa_cons (pe_callTy call_list_of (by rfl) T.b_list (by decide +kernel) (pa_cons (pv 1) pa_nil)) (pa_cons (pe_lst pa_nil) pa_nil)) (by rfl))
      (pss_cons (ps_while PassesOwn.never (pt_cmpR (op_neNil (Nat.lt_of_succ_lt (hu_of hr))) (pv 2) (pe_lst pa_nil) (nomark _))
      (pss_one (ps_expr (pe_bm PySem.F.plainAttrs_list PySem.F.slot_list_append PySem.F.type_list_append mt_append (pv 3) (pa_cons (pe_bm PySem.F.plainAttrs_list PySem.F.slot_list_pop PySem.F.type_list_pop mt_popAt (pv 2) (pa_cons (pe_df D_law_draw hq hr pass0 (pa_cons (pv 0) (pa_cons (pe_callB call_len_seq (by rfl) T.b_len (by decide +kernel) (pa_cons (pv 2) pa_nil)) pa_nil))) pa_nil)) pa_nil)))))
      (pss_one (ps_ret (pv 3))))), ?_⟩
    have hp0 : SqL K H p (zs.map V.str) := sqL_same off_sub hp
    refine ⟨_, rfl, p, _, rfl, .inl hp0, fun L hL => ⟨by decide, fun M hM => ⟨_, _, rfl, ?_⟩⟩⟩
    have hLM : L ≠ M := fun e => by rw [← e, upd_same] at hM; cases hM
    have hM0 : H M = none := by rw [upd_ne hLM.symm] at hM; exact hM
    have hLa : L ≠ a := fun e => S.dom.1 (e ▸ hL)
    have hLl : L ≠ l := fun e => S.dom.2 (e ▸ hL)
    have hMa : M ≠ a := fun e => S.dom.1 (e ▸ hM0)
    have hMl : M ≠ l := fun e => S.dom.2 (e ▸ hM0)
    have S2 := (S.new (o := .lst (zs.map V.str)) hL).new (o := .lst []) hM
    have nx2 : Nx a l H (upd (upd H L (.lst (zs.map V.str))) M (.lst [])) := (Nx.new hL).trans (Nx.new hM)
    have gL : (upd (upd H L (.lst (zs.map V.str))) M (.lst [])) L = some (.lst (zs.map V.str)) := by rw [upd_ne hLM, upd_same]
    have gM : (upd (upd H L (.lst (zs.map V.str))) M (.lst [])) M = some (.lst (([] : List Str).map V.str)) := upd_same
    dsimp only
    generalize upd (upd H L (.lst (zs.map V.str))) M (.lst []) = H2 at S2 nx2 gL gM ⊢
    refine while_split (fun σ H' => σ = [some (.ref a), some (.ref p), some (.ref L), some (.ref M)] ∧ Nx a l H H' ∧ ∃ ys : List Str, H' M = some (.lst (ys.map V.str)) ∧ (∀ y ∈ ys, y ∈ zs) ∧ Strm H' a l (c + zs.length) ∧ ys.length ≤ zs.length) ?_ (fun fin => ?_)
    · rintro σ H' ⟨rfl, nx, ys, h1, h2, h3, h4⟩
      exact ⟨_, rfl, k M ys H' h2 h3 nx hM0 h1 h4⟩
    refine ⟨fun m σ H' => σ = [some (.ref a), some (.ref p), some (.ref L), some (.ref M)] ∧ Nx a l H H' ∧ ∃ ys ls : List Str, H' M = some (.lst (ys.map V.str)) ∧ H' L = some (.lst (ls.map V.str)) ∧ (∀ y ∈ ys, y ∈ zs) ∧ (∀ y ∈ ls, y ∈ zs) ∧ Strm H' a l (c + ys.length) ∧ ys.length + ls.length = zs.length ∧ m = ls.length,
      ⟨_, rfl, nx2, [], zs, gM, gL, (fun _ h => nomatch h), fun _ h => h, S2, by simp, rfl⟩, ?_⟩
    rintro m σ H3 ⟨rfl, nx, ys, ls, h1, h2, h3, h4, h5, h6, rfl⟩
    refine ⟨_, rfl, (by show 0 ≤ sizeLine; decide), fun r hr => ?_⟩
    have hrL : L ≠ r := ne_of_none h2 hr
    have hrM : M ≠ r := ne_of_none h1 hr
    have S3 := h5.new (o := .lst []) hr
    have nx3 : Nx a l H (upd H3 r (.lst [])) := nx.trans (Nx.new hr)
    have gM3 : (upd H3 r (.lst [])) M = some (.lst (ys.map V.str)) := by rw [upd_ne hrM]; exact h1
    have gL3 : (upd H3 r (.lst [])) L = some (.lst (ls.map V.str)) := by rw [upd_ne hrL]; exact h2
    refine ⟨L, r, _, rfl, rfl, SqL.of gL3, SqL.of upd_same, _, rfl, ?_⟩
    generalize upd H3 r (.lst []) = H4 at S3 nx3 gM3 gL3 ⊢
    clear h1 h2 hr hrL hrM h5 nx
    cases ls with
    | nil =>
      have e : ys.length = zs.length := by simpa using h6
      exact fin _ _ ⟨rfl, nx3, ys, gM3, h3, e ▸ S3, by omega⟩
    | cons y0 r0 =>
      have hlen : (y0 :: r0).length ≤ zs.length := by omega
      refine ⟨fun σ' H' => σ' = [some (.ref a), some (.ref p), some (.ref L), some (.ref M)] ∧ Nx a l H H' ∧ ∃ ys' ls' : List Str, H' M = some (.lst (ys'.map V.str)) ∧ H' L = some (.lst (ls'.map V.str)) ∧ (∀ y ∈ ys', y ∈ zs) ∧ (∀ y ∈ ls', y ∈ zs) ∧ Strm H' a l (c + ys'.length) ∧ ys'.length + ls'.length = zs.length ∧ ls'.length = r0.length, ?_, ?_⟩
      · rintro σ' H' ⟨rfl, nx', ys', ls', g1, g2, g3, g4, g5, g6, g7⟩
        exact ⟨ls'.length, by simp [g7], rfl, nx', ys', ls', g1, g2, g3, g4, g5, g6, rfl⟩
      · refine ⟨_, rfl, .inl ⟨rfl, _, SqL.of gM3⟩, _, rfl, .inl ⟨rfl, _, SqL.of gL3⟩, _, rfl, _, rfl, L, _, rfl, .inl (SqL.of gL3), a, l, _, c + ys.length, rfl, ?_, ?_, ?_, S3, fun r H5 r0' r1' S5 nx5 => ?_⟩
        · rw [List.length_map]
          simp
        · rw [List.length_map]
          simp at hlen ⊢
          omega
        · omega
        rw [List.length_map] at r1'
        have gL5 := nx5.get gL3 hLa hLl
        have gM5 := nx5.get gM3 hMa hMl
        have hrn : r.toNat < (y0 :: r0).length := by omega
        refine ⟨L, _, r, r.toNat, .str ((y0 :: r0)[r.toNat]'hrn), rfl, rfl, gL5, by omega, ?_, ?_, ?_, ?_⟩
        · simp at hlen
          simp at r1'
          omega
        · rw [List.length_map]
          exact seqIx r0' r1'
        · rw [List.getElem?_map, List.getElem?_eq_getElem hrn]
          rfl
        · refine ⟨M, _, _, rfl, rfl, by rw [upd_ne hLM.symm]; exact gM5, ?_, rfl, ?_⟩
          · rw [List.length_map]
            exact Nat.lt_of_le_of_lt (show ys.length ≤ 1000 by omega) (by decide)
          · have nx6 : Nx a l H (upd (upd H5 L (.lst (((y0 :: r0).map V.str).eraseIdx r.toNat))) M (.lst (ys.map V.str ++ [V.str ((y0 :: r0)[r.toNat]'hrn)]))) := fun b o e => by
              obtain ⟨b1, b2, b3⟩ := off_ne e
              refine off_of ?_ b1 b2
              rw [upd_ne (ne_of_none b3 hM0), upd_ne (ne_of_none b3 hL)]
              exact (nx3.trans nx5).get b3 b1 b2
            refine ⟨nx6, ys ++ [(y0 :: r0)[r.toNat]'hrn], (y0 :: r0).eraseIdx r.toNat, ?_, ?_, ?_, ?_, ?_, ?_, ?_⟩
            · rw [upd_same, List.map_append]; rfl
            · rw [upd_ne hLM, upd_same, eraseIdx_map]
            · intro y hy
              rcases List.mem_append.mp hy with h | h
              · exact h3 y h
              · rw [List.mem_singleton.mp h]
                exact h4 _ (List.getElem_mem hrn)
            · exact fun y hy => h4 y (List.mem_of_mem_eraseIdx hy)
            · rw [List.length_append, List.length_singleton]
              refine S5.keep ?_ ?_
              · rw [upd_ne hMa.symm, upd_ne hLa.symm]
              · rw [upd_ne hMl.symm, upd_ne hLl.symm]
            · rw [List.length_append, List.length_singleton, List.length_eraseIdx_of_lt hrn]
              simp at h6 ⊢
              omega
            · rw [List.length_eraseIdx_of_lt hrn]
              simp
end
end K04

set_option pp.maxSteps 2500

namespace K04
open PySem L2 Tq
abbrev s_law_is_start : Stmt := top 42
abbrev N_law_is_start : List Str := ["_law_value", "_law_name", "_law_held"]
theorem sc_law_is_start : FnScope N_law_is_start ["_law_value", "_law_name", "_law_held"] (defScope s_law_is_start) := ⟨rfl, rfl, rfl, by decide +kernel, rfl, by decide +kernel, by decide +kernel⟩
abbrev s_law_fresh_right : Stmt := top 43
abbrev N_law_fresh_right : List Str := ["_law_kind", "_law_rows", "_law_one", "_law_other_here", "_law_places", "_law_name", "_law_held"]
theorem sc_law_fresh_right : FnScope N_law_fresh_right ["_law_kind", "_law_rows"] (defScope s_law_fresh_right) := ⟨rfl, rfl, rfl, by decide +kernel, rfl, by decide +kernel, by decide +kernel⟩
/-- a field of the program's table and one of the law's -/
structure Ag (p : Str) (r : Str × Str) : Prop where
  n : r.1 = rowN p
  m : isMany r.2 = isMany (rowW p)
  last : (atI r.2.cps.toList (-1)).isSome = true
  len : r.2.length ≤ sizeLine
  c : r.1 = "ctx" → isMany r.2 = false
def spFresh (t : Tb) : Sp := fun vs H Q _ => ∃ z v prows lrows, vs = [.str z, v] ∧ t.rows z = some prows ∧ LRows H v lrows ∧ Paired Ag prows lrows ∧ ∀ H', Same H H' → Q (.bl true) H'
def spIsSt (C : Addr) : Sp := fun vs H Q _ => ∃ v n h fp, vs = [v, .str n, .str h] ∧ (atI h.cps.toList (-1)).isSome = true ∧ h.length ≤ sizeLine ∧ StV C H n h v fp ∧ ∀ H', Same H H' → Q (.bl true) H'
section
variable {P : Program} {w : World} {K : PySem.W.Frag} {mg : Str → Option Value} {base : Heap} {C : Addr}
theorem ok_isst {f : Addr} {fd : FuncData} (F : Fun K "_law_is_start" "_law_is_start" s_law_is_start f fd) (T : Txt mg) (U : NdI K mg C) : FnG P w K mg base CX0 1 f fd ["_law_value", "_law_name", "_law_held"] (spIsSt C) := by
  refine okG0 F sc_law_is_start (fun vs H Q E h => ?_) (fun cdv A outer s H vs Q E hq hr h => ?_)
  · obtain ⟨v, n, h, fp, rfl, _⟩ := h
    rfl
  · obtain ⟨v, n, h, fp, rfl, hl, hz, sv, k⟩ := h
    refine ⟨_, (pss_cons (ps_if (pt_cmpR op_in_str (pe_ix ix_str (pv 2) (pe_un un_neg pe_int) (fun _ _ => rfl)) pe_str (by rfl))
      (pss_one (ps_ret (pe_and (pe_callB call_isi (by rfl) T.b_isinstance (by decide +kernel) (pa_cons (pv 0) (pa_cons (pe_bltn (v := .ty "list") rfl T.b_list (by decide +kernel) rfl) pa_nil))) (pe_one (pe_cmpR (op_eqD hr.units) (pv 0) (pe_lst pa_nil) (nomark _))))))
      pss_nil)
      (pss_cons (ps_if (pt_cmpR op_eq (pv 1) pe_str (nomark _))
      (pss_one (ps_ret (pe_and (pe_callB call_isi (by rfl) T.b_isinstance (by decide +kernel) (pa_cons (pv 0) (pa_cons (pe_glob (v := .ref C) rfl U.gN rfl) pa_nil))) (pe_and (pe_cmpR op_eq (pe_fld (pv 0) rfl) pe_str (nomark _)) (pe_one (pe_cmpR op_isN (pe_fld (pv 0) rfl) pe_non (nomark _)))))))
      pss_nil)
      (pss_one (ps_ret (pe_cmpR op_isN (pv 0) pe_non (nomark _)))))), ?_⟩
    obtain ⟨c, hc⟩ := Option.isSome_iff_exists.mp hl
    have em : isMany h = !(Builtin.Str.occurrences "*+" ⟨#[c]⟩ 0 ("*+" : Str).length 1).isEmpty := by unfold isMany; rw [hc]
    refine ⟨_, rfl, _, rfl, h, -1, c, rfl, rfl, hz, hc, _, _, rfl, rfl, _, rfl, ?_⟩
    rcases sv with ⟨hm, l, rfl, e2, e3⟩ | ⟨hm, rfl, x, dx, hh, rfl, e2, e3, e4, e5, e6⟩ | ⟨hm, hn, rfl, e2⟩
    · refine if1 (em.symm.trans hm) ?_
      refine ⟨_, rfl, _, _, _, _, true, rfl, .ty "list", dp_ty (.lst (SqL.of e3) .nil), kit_ty (by decide +kernel), _, rfl, if1 rfl ?_⟩
      refine ⟨_, rfl, by decide, fun p hp => ⟨_, _, .lst (SqL.of (same_new hp l _ e3)) .nil, .lst (SqL.of upd_same) .nil, rfl, rfl, k _ (same_new hp)⟩⟩
    · refine if0 (em.symm.trans hm) ?_
      refine ⟨_, rfl, rfl, _, rfl, if1 (decide_eq_true rfl) ?_⟩
      refine ⟨_, rfl, _, _, _, _, true, rfl, .own C, U.isN e5, U.kitN, _, rfl, if1 rfl ?_⟩
      refine ⟨_, rfl, x, C, dx, _, _, rfl, e5, U.nd.cls, U.nd.no _ (by simp), rfl, rfl, _, rfl, if1 (decide_eq_true rfl) ?_⟩
      exact ⟨_, rfl, x, C, dx, _, _, rfl, e5, U.nd.cls, U.nd.no _ (by simp), rfl, rfl, k H (Same.refl H)⟩
    · refine if0 (em.symm.trans hm) ?_
      refine ⟨_, rfl, rfl, _, rfl, if0 (decide_eq_false (fun e => hn (V.str.inj e))) ?_⟩
      exact ⟨_, rfl, rfl, k H (Same.refl H)⟩
theorem ok_fresh {f : Addr} {fd : FuncData} {t : Tb} (F : Fun K "_law_fresh_right" "_law_fresh_right" s_law_fresh_right f fd) (T : Txt mg) (U : NdI K mg C) (G : TbOk t) (hName : ∃ r rs, t.rows "Name" = some (r :: rs)) (Dnode : Nd P w K mg base CX0 7 "Node" C "self" "kind" (spInit t C true)) (Mget : Mth P w K mg base CX0 1 C "__getitem__" (spGet C))
    (D_law_is_start : Df P w K mg base CX0 1 "_law_is_start" (spIsSt C)) (Dcopy_location : Df P w K mg base CX0 2 "copy_location" (spCopyLoc C)) : FnG P w K mg base CX0 9 f fd ["_law_kind", "_law_rows"] (spFresh t) := by
  refine okG0 F sc_law_fresh_right (fun vs H Q E h => ?_) (fun cdv A outer s H vs Q E hq hr h => ?_)
  · obtain ⟨z, v, prows, lrows, rfl, _⟩ := h
    rfl
  · obtain ⟨z, v, prows, lrows, rfl, hz, lr, ag, k⟩ := h
    refine ⟨_, (pss_cons (ps_asg (pe_tup (pa_cons (pe_makeW0 Dnode hq hr pass0 (pa_cons (pv 0) pa_nil)) (pa_cons (pe_makeW0 Dnode hq hr pass0 (pa_cons (pv 0) pa_nil)) pa_nil))) (pg_tup (by rfl) (pgs_cons (pg_name (i := 2) sc_law_fresh_right.nd rfl (Or.inl rfl)) (pgs_cons (pg_name (i := 3) sc_law_fresh_right.nd rfl (Or.inr rfl)) pgs_nil))))
      (pss_cons (ps_set (i := 4) sc_law_fresh_right.nd rfl (Or.inl rfl) (pe_lst (pa_cons (pe_fld (pv 2) rfl) (pa_cons (pe_fld (pv 2) rfl) (pa_cons (pe_fld (pv 2) rfl) (pa_cons (pe_fld (pv 2) rfl) pa_nil))))))
      (pss_cons (ps_if (PW.pt (pw_or (pt_cmpR op_ne (pe_fld (pv 2) rfl) (pv 0) (nomark _)) (pw_or1 (pt_cmpR (op_neD hr.units) (pv 4) (pe_lst (pa_cons pe_non (pa_cons pe_non (pa_cons pe_non (pa_cons pe_non pa_nil))))) (nomark _)))))
      (pss_one (ps_ret pe_bl))
      pss_nil)
      (pss_cons (ps_for PassesOwn.never rfl (pi_list (pv 1)) (pg_unl (by rfl) (pgs_cons (pg_name (i := 5) sc_law_fresh_right.nd rfl (Or.inl rfl)) (pgs_cons (pg_name (i := 6) sc_law_fresh_right.nd rfl (Or.inl rfl)) pgs_nil)))
      (pss_cons (ps_if (pt_not (pt_val (pe_df D_law_is_start hq hr pass0 (pa_cons (pe_own Mget hq hr pass0 (pv 2) (pv 5)) (pa_cons (pv 5) (pa_cons (pv 6) pa_nil))))))
      (pss_one (ps_ret pe_bl))
      pss_nil)
      (pss_cons (ps_if (pt_cmpR op_in_str (pe_ix ix_str (pv 6) (pe_un un_neg pe_int) (fun _ _ => rfl)) pe_str (by rfl))
      (pss_one (ps_expr (pe_bm PySem.F.plainAttrs_list PySem.F.slot_list_append PySem.F.type_list_append mt_append (pe_own Mget hq hr pass0 (pv 2) (pv 5)) (pa_cons (pv 0) pa_nil))))
      pss_nil)
      (pss_one (ps_if (pt_cmpR op_eq (pv 5) pe_str (nomark _))
      (pss_one (ps_expr (pe_df Dcopy_location hq hr pass0 (pa_cons (pe_own Mget hq hr pass0 (pv 2) (pv 5)) (pa_cons (pe_makeW (ks := ["lineno"]) Dnode hq hr pass0 (pa_cons pe_str (pa_cons pe_str pa_nil)) (pk_cons pe_int pk_nil)) pa_nil)))))
      pss_nil)))))
      (pss_one (ps_ret (pe_callB (cr_all rfl) (by rfl) T.b_all (by decide +kernel) (pa_cons (pe_lc (own := [("_law_name", 5), ("_law_held", 6)]) (by rfl) sc_law_fresh_right.nd (pi_list (pv 1)) (blkOk_by (own := [("_law_name", 5), ("_law_held", 6)]) (N := N_law_fresh_right) (sc := defScope s_law_fresh_right) (by decide +kernel)) (fun _ _ _ _ _ => (castPG (K := K) (r := fun K => gUnl K 2 _) (pg_unl (by rfl) (pgs_cons (pg_name (i := 5) sc_law_fresh_right.nd rfl (Or.inl rfl)) (pgs_cons (pg_name (i := 6) sc_law_fresh_right.nd rfl (Or.inl rfl)) pgs_nil))))) (fun _ _ _ _ _ => pts_nil) (fun _ _ _ _ _ => (pe_df D_law_is_start hq hr pass0 (pa_cons (pe_own Mget hq hr pass0 (pv 3) (pv 5)) (pa_cons (pv 5) (pa_cons (pv 6) pa_nil)))))) pa_nil)))))))), ?_⟩
    obtain ⟨rok, rnd, rpl, rlen⟩ := G.row z prows hz
    obtain ⟨va, qs, rfl, hva, prt⟩ := lr
    have lenq : qs.length = lrows.length := Paired.length prt
    have lenp : prows.length = lrows.length := Paired.length ag
    refine ⟨_, rfl, _, [], rfl, by decide, rfl, make0 hz fun x dx hh hd fps H1 F1 => ?_⟩
    refine ⟨_, rfl, _, [], rfl, by decide, rfl, make0 hz fun y dy hh2 hd2 fps2 H2 F2 => ?_⟩
    refine ⟨(by show 2 ≤ sizeLine; decide), fun p hp => ⟨p, _, rfl, .inl (.inl upd_same), rfl, _, _, rfl, _, _, rfl, rfl, ?_⟩⟩
    have s3 := same_new (o := .tup [V.ref x, .ref y]) hp
    dsimp only
    generalize upd H2 p (.tup [V.ref x, .ref y]) = H3 at s3 ⊢
    have hx3 := s3 _ _ (F2.same _ _ F1.node)
    have N := U.nd
    refine ⟨_, rfl, x, C, dx, _, _, rfl, hx3, N.cls, N.no _ (by simp), rfl, _, rfl, x, C, dx, _, _, rfl, hx3, N.cls, N.no _ (by simp), rfl, _, rfl, x, C, dx, _, _, rfl, hx3, N.cls, N.no _ (by simp), rfl, _, rfl, x, C, dx, _, _, rfl, hx3, N.cls, N.no _ (by simp), rfl, (by show 4 ≤ sizeLine; decide), fun q hq => nm ?_⟩
    have s4 := same_new (o := .lst [V.non, .non, .non, .non]) hq
    have hq4 : (upd H3 q (.lst [V.non, .non, .non, .non])) q = some (.lst [V.non, .non, .non, .non]) := upd_same
    dsimp only
    generalize upd H3 q (.lst [V.non, .non, .non, .non]) = H4 at s4 hq4 ⊢
    have hx4 := s4 _ _ hx3
    refine ⟨_, rfl, x, C, dx, _, _, rfl, hx4, N.cls, N.no _ (by simp), rfl, _, rfl, rfl, _, rfl, if0 (by simp) ?_⟩
    refine ⟨_, rfl, (by show 4 ≤ sizeLine; decide), fun r hr => ⟨_, _, .lst (SqL.of (same_new hr _ _ hq4)) (.cons .non (.cons .non (.cons .non (.cons .non .nil)))), .lst (SqL.of upd_same) (.cons .non (.cons .non (.cons .non (.cons .non .nil)))), rfl, rfl, _, rfl, if0 rfl ?_⟩⟩
    have s5 := same_new (o := .lst [V.non, .non, .non, .non]) hr
    generalize upd H4 r (.lst [V.non, .non, .non, .non]) = H5 at s5 ⊢
    have s25 : Same H2 H5 := s3.trans (s4.trans s5)
    have s15 : Same H1 H5 := F2.same.trans s25
    have sH : Same H H5 := F1.same.trans s15
    have hx5 := s15 _ _ F1.node
    have hh5 := s15 _ _ F1.held
    have hy5 := s25 _ _ F2.node
    have hg5 := s25 _ _ F2.held
    have e1 : Ents C H5 [] prows hd fps := F1.ents.same fun a o _ e => s15 a o e
    have e2 : Ents C H5 [] prows hd2 fps2 := F2.ents.same fun a o _ e => s25 a o e
    -- what is apart
    have nH : ∀ b, H b ≠ none → b ∉ fps.flatten := fun b hb hm => hb (F1.fresh b hm).1
    have n1 : ∀ b, H1 b = none → b ∉ fps.flatten := fun b hb hm => F1.ents.dom hm hb
    have nx : x ∉ fps.flatten := fun hm => (F1.fresh x hm).2.1 rfl
    have nhh : hh ∉ fps.flatten := fun hm => (F1.fresh hh hm).2.2 rfl
    have ny := n1 y F2.nx
    have ng := n1 hh2 F2.nh
    have n2 : ∀ b ∈ fps2.flatten, b ∉ fps.flatten := fun b hb => n1 b (F2.fresh b hb).1
    have nva : va ∉ fps.flatten := nH va (by rw [hva]; exact fun e => nomatch e)
    have keys1 : (hd.map (·.1)).Nodup := by
      rw [F1.ents.keys]
      have := List.Pairwise.map (S := (· ≠ ·)) (Sum.inr : Str → Key) (fun _ _ h e => h (Sum.inr.inj e)) rnd
      rw [List.map_map] at this
      exact this
    have keys2 : (hd2.map (·.1)).Nodup := by
      rw [F2.ents.keys]
      have := List.Pairwise.map (S := (· ≠ ·)) (Sum.inr : Str → Key) (fun _ _ h e => h (Sum.inr.inj e)) rnd
      rw [List.map_map] at this
      exact this
    have fnd := F1.nd
    clear s3 s4 s5 hp hq hr hx3 hx4 hq4 F1 F2 s15 s25 n1
    refine ⟨_, rfl, va, rfl, ⟨_, SqL.of (sH va _ hva)⟩, ?_⟩
    refine for_list (K := K) (xs := qs) (fun i σ' H' => (∃ s5 s6, σ' = [some (.str z), some (.ref va), some (.ref x), some (.ref y), some (.ref q), s5, s6]) ∧ (∀ b o, H5 b = some o → b ∉ fps.flatten → H' b = some o) ∧ Ents C H' [] (prows.drop i) (hd.drop i) (fps.drop i))
      ⟨⟨_, _, rfl⟩, fun _ _ e _ => e, e1⟩ (fun i σ' H' _ h => SqL.of (h.2.1 va _ (sH va _ hva) nva)) (fun i w' σ' H' hi pv => ?_) (fun σ' H' pv => ?_)
    · obtain ⟨⟨s5, s6, rfl⟩, kp, en⟩ := pv
      obtain ⟨⟨n, h⟩, hr, b, rfl, hb⟩ := Tq.paired_get prt hi
      have hlt : i < prows.length := by rw [lenp]; exact (List.getElem?_eq_some_iff.mp hr).1
      obtain ⟨_, hr2, A⟩ := Tq.paired_get ag (List.getElem?_eq_getElem hlt)
      obtain rfl := Option.some.inj (hr.symm.trans hr2)
      have hp0 : (prows.drop i)[0]? = some prows[i] := by rw [List.getElem?_drop, Nat.add_zero, List.getElem?_eq_getElem hlt]
      obtain ⟨⟨k1, v⟩, fp, hk, hfp, ent⟩ := en.at hp0
      rw [List.getElem?_drop, Nat.add_zero] at hk hfp
      obtain ⟨ek, ent⟩ := ent
      dsimp only at ek ent
      have sv0 : StV C H' (rowN prows[i]) (rowW prows[i]) v fp := by
        rcases ent with ⟨z1, _⟩ | ⟨_, z1⟩
        · cases z1
        · exact z1
      have en_ : n = rowN prows[i] := A.n
      rw [← en_] at sv0 ek
      have sv : StV C H' n h v fp := sv0.held A.m
      subst ek
      have hv : valV hd (Sum.inr n) = some v := valV_at keys1 hk
      have hx' := kp x _ hx5 nx
      have hh' := kp hh _ hh5 nhh
      have hb' : H' b = some (.lst [.str n, .str h]) := kp b _ (sH b _ hb) (nH b (by rw [hb]; exact fun e => nomatch e))
      have fin : ∀ (s5 s6 : Option V) (H7 : Hp), (∀ b o, H' b = some o → b ∉ fp → H7 b = some o) → ((∃ s5' s6', [some (V.str z), some (.ref va), some (.ref x), some (.ref y), some (.ref q), s5, s6] = [some (.str z), some (.ref va), some (.ref x), some (.ref y), some (.ref q), s5', s6']) ∧ (∀ b o, H5 b = some o → b ∉ fps.flatten → H7 b = some o) ∧ Ents C H7 [] (prows.drop (i + 1)) (hd.drop (i + 1)) (fps.drop (i + 1))) := fun s5 s6 H7 kp7 => by
        have hsub : ∀ c ∈ fp, c ∈ fps.flatten := fun c hc => List.mem_flatten.mpr ⟨fp, List.mem_of_getElem? hfp, hc⟩
        refine ⟨⟨_, _, rfl⟩, fun c o e hc => kp7 c o (kp c o e hc) (fun hm => hc (hsub c hm)), ?_⟩
        have en2 := en.drop 1
        rw [List.drop_drop, List.drop_drop, List.drop_drop] at en2
        refine en2.same fun c o hc e => kp7 c o e fun hm => ?_
        have hsp : fps.flatten = (fps.take i).flatten ++ (fp ++ (fps.drop (i + 1)).flatten) := by
          have e0 : fps = fps.take i ++ fps.drop i := (List.take_append_drop i fps).symm
          have e1 : fps.drop i = fp :: fps.drop (i + 1) := by
            obtain ⟨hlt', e⟩ := List.getElem?_eq_some_iff.mp hfp
            rw [← e]
            exact List.drop_eq_getElem_cons hlt'
          conv => lhs; rw [e0, e1]
          rw [List.flatten_append, List.flatten_cons]
        rw [hsp, List.nodup_append] at fnd
        exact (List.nodup_append.mp fnd.2.1).2.2 c hm c hc rfl
      obtain ⟨ch, hch⟩ := Option.isSome_iff_exists.mp A.last
      have em : isMany h = !(Builtin.Str.occurrences "*+" ⟨#[ch]⟩ 0 ("*+" : Str).length 1).isEmpty := by unfold isMany; rw [hch]
      refine ⟨b, _, rfl, SqL.of hb', rfl, _, _, rfl, _, _, rfl, rfl, ?_⟩
      refine ⟨_, rfl, _, rfl, ⟨x, dx, _, rfl, hx'⟩, x, dx, _, hh, hd, _, _, _, _, n, v, rfl, hx', hh', hv, _, rfl, _, rfl, v, n, h, fp, rfl, A.last, A.len, sv, fun H6 s6 => ⟨_, rfl, if0 rfl ?_⟩⟩
      refine ⟨_, rfl, _, rfl, h, -1, ch, rfl, rfl, A.len, hch, _, _, rfl, rfl, _, rfl, ?_⟩
      have hx6 := s6 _ _ hx'
      have hh6 := s6 _ _ hh'
      rcases sv with ⟨hm, l, rfl, e2', e3⟩ | ⟨hm, rfl, x1, dx1, hh1, rfl, e2', e3, e4, e5, e6⟩ | ⟨hm, hn, rfl, e2'⟩
      · refine if1 (em.symm.trans hm) ?_
        have hl6 := s6 _ _ e3
        refine ⟨_, rfl, _, rfl, ⟨x, dx, _, rfl, hx6⟩, x, dx, _, hh, hd, _, _, _, _, n, _, rfl, hx6, hh6, hv, .inl ⟨rfl, _, SqL.of hl6⟩, _, rfl, l, _, _, rfl, rfl, hl6, by decide, ?_⟩
        refine ⟨_, rfl, rfl, _, rfl, if0 (decide_eq_false (fun e => by rw [A.c (V.str.inj e)] at hm; cases hm)) ?_⟩
        refine fin _ _ _ fun c o e hc => ?_
        rw [upd_ne (fun q => hc (by rw [e2', q]; exact .head _))]
        exact s6 c o e
      · refine if0 (em.symm.trans hm) ?_
        refine ⟨_, rfl, rfl, _, rfl, if1 (decide_eq_true rfl) ?_⟩
        obtain ⟨rN, rsN, hN⟩ := hName
        refine ⟨_, rfl, _, rfl, ⟨x, dx, _, rfl, hx6⟩, x, dx, _, hh, hd, _, _, _, _, _, _, rfl, hx6, hh6, hv, _, [.str "a"], rfl, by decide, rfl, make1 G hN (by simp) fun y1 dy1 hy1 a1 b1 c1 d1 H7 s7 ny1 hyy => ?_⟩
        refine ⟨x1, dx1, _, hh1, _, _, _, _, y1, dy1, _, _, _, _, _, _, rfl, s7 _ _ (s6 _ _ e5), hyy, fun H8 kp8 hx8 => ?_⟩
        refine fin _ _ _ fun c o e hc => ?_
        exact kp8 c o (s7 c o (s6 c o e)) (fun q => hc (by rw [e2', q]; exact .head _))
      · refine if0 (em.symm.trans hm) ?_
        refine ⟨_, rfl, rfl, _, rfl, if0 (decide_eq_false (fun e => hn (V.str.inj e))) ?_⟩
        exact fin _ _ _ fun c o e hc => s6 c o e
    · obtain ⟨⟨s5, s6, rfl⟩, kp, en⟩ := pv
      have hy' := kp y _ hy5 ny
      have hg' := kp hh2 _ hg5 ng
      have e2' : Ents C H' [] prows hd2 fps2 := e2.same fun a o ha e => kp a o e (n2 a ha)
      have sHH : Same H H' := fun b o e => kp b o (sH b o e) (nH b (by rw [e]; exact fun e => nomatch e))
      clear en kp
      refine ⟨_, rfl, va, rfl, ⟨_, SqL.of (sHH va _ hva)⟩, fun D hD => ?_⟩
      refine lc_list (xs := qs) (fun i H6 => Same H' H6 ∧ H6 D = some (.lst ((List.replicate i true).map V.bl))) ⟨same_new hD, upd_same⟩ (fun i H6 _ h => SqL.of (h.1 va _ (sHH va _ hva))) (fun i w' H6 hi pv => ?_) (fun H6 pv => ?_)
      · obtain ⟨sm, hd6⟩ := pv
        obtain ⟨⟨n, h⟩, hr, b, rfl, hb⟩ := Tq.paired_get prt hi
        have hlt : i < prows.length := by rw [lenp]; exact (List.getElem?_eq_some_iff.mp hr).1
        obtain ⟨_, hr2, A⟩ := Tq.paired_get ag (List.getElem?_eq_getElem hlt)
        obtain rfl := Option.some.inj (hr.symm.trans hr2)
        obtain ⟨⟨k1, v⟩, fp, hk, hfp, ent⟩ := e2'.at (List.getElem?_eq_getElem hlt)
        obtain ⟨ek, ent⟩ := ent
        dsimp only at ek ent
        have sv0 : StV C H' (rowN prows[i]) (rowW prows[i]) v fp := by
          rcases ent with ⟨z1, _⟩ | ⟨_, z1⟩
          · cases z1
          · exact z1
        have en_ : n = rowN prows[i] := A.n
        rw [← en_] at sv0 ek
        have sv : StV C H6 n h v fp := (sv0.held A.m).same fun a o _ e => sm a o e
        subst ek
        have hv : valV hd2 (Sum.inr n) = some v := valV_at keys2 hk
        have hy6 := sm _ _ hy'
        have hg6 := sm _ _ hg'
        refine ⟨b, _, rfl, SqL.of (sm b _ (sHH b _ hb)), rfl, _, _, rfl, _, _, rfl, rfl, rfl, yes ?_⟩
        refine ⟨_, rfl, _, rfl, ⟨y, dy, _, rfl, hy6⟩, y, dy, _, hh2, hd2, _, _, _, _, n, v, rfl, hy6, hg6, hv, _, rfl, _, rfl, v, n, h, fp, rfl, A.last, A.len, sv, fun H7 s7 => ?_⟩
        refine ⟨_, s7 D _ hd6, ?_, fun c o e => ?_, ?_⟩
        · rw [List.length_map, List.length_replicate]
          exact Nat.lt_of_lt_of_le hlt (Nat.le_trans rlen (by decide))
        · rw [upd_ne (fun q => by rw [q, hD] at e; cases e)]
          exact s7 c o (sm c o e)
        · rw [upd_same, List.replicate_succ', List.map_append]
          rfl
      · obtain ⟨sm, hd6⟩ := pv
        refine ⟨D, _, rfl, SqL.of hd6, ?_⟩
        have ea : (List.replicate qs.length true).all id = true := by simp
        rw [ea]
        exact k H6 (sHH.trans sm)
end
end K04

set_option pp.maxSteps 2500

namespace K04
open PySem L2 Tq
abbrev s_law_tried : Stmt := top 44
abbrev N_law_tried : List Str := ["_law_way", "_law_thing", "_law_found", "e"]
theorem sc_law_tried : FnScope N_law_tried ["_law_way", "_law_thing"] (defScope s_law_tried) := ⟨rfl, rfl, rfl, by decide +kernel, rfl, by decide +kernel, by decide +kernel⟩
/-- data that is shown in a few signs -/
structure Shn (d : PyData) : Prop where
  sh : d.showable = true
  nd : d.hasDict = false
  dp : d.depth ≤ 5
  ln : d.shown.length ≤ 1000
  l2 : (PyData.tuple [.str "kind", .str d.shown, .bool true]).shown.length ≤ 2000
def spTried4 (K : PySem.W.Frag) (t : Tb) : Sp := fun vs H Q _ => ∃ (way : Int) (v : V) (d : PyData), vs = [.int way, v] ∧ Bad K t H v ∧ Dp K H v d ∧ Shn d ∧
  ∀ p H', Same H H' → Dp K H' (.ref p) (.tuple [.str "kind", .str d.shown, .bool true]) → Q (.ref p) H'
theorem Bad.same {K : PySem.W.Frag} {t : Tb} {H H' : Hp} {v : V} (e : Same H H') (h : Bad K t H v) : Bad K t H' v := by
  rcases h with h | ⟨ty, h1, h2⟩
  · exact .inl h
  · exact .inr ⟨ty, ty_same e h1, h2⟩
section
variable {P : Program} {w : World} {K : PySem.W.Frag} {mg : Str → Option Value} {base : Heap} {C CB fB CN TE : Addr} {t : Tb}
theorem ok_tried4 {f : Addr} {fd : FuncData} (F : Fun K "_law_tried" "_law_tried" s_law_tried f fd) (T : Txt mg) (L : PySem.LowX.LowTxt K mg CB fB) (kb : Kl K mg "BadKind" CB TE) (kn : Kl K mg "BadNode" CN TE) (te : Tq.KT K mg TE)
    (DnodeX : Nd P w K mg base (L2.CX P w) 4 "Node" C "self" "kind" (spBadI K t CB)) (Dfields_of : Df P w K mg base (L2.CX P w) 3 "fields_of" (spBad K t CB)) : FnG P w K mg base CX0 6 f fd ["_law_way", "_law_thing"] (spTried4 K t) := by
  refine okG0 F sc_law_tried (fun vs H Q E h => ?_) (fun cdv A outer s H vs Q E hq hr h => ?_)
  · obtain ⟨way, v, d, rfl, _⟩ := h
    rfl
  · obtain ⟨way, v, d, rfl, bd, hd, sh, k⟩ := h
    refine ⟨_, (pss_cons (ps_set (i := 2) sc_law_tried.nd rfl (Or.inl rfl) (pe_tup (pa_cons pe_str pa_nil)))
      (pss_cons (ps_try_manyAs rfl rfl sc_law_tried.nd takes0 (fun W pn xe tk _ => (pss_one (ps_set (i := 2) sc_law_tried.nd rfl (Or.inl rfl) (pe_tup (pa_cons pe_str (pa_cons (pe_ifExp (pt_cmpR op_eq (pv 0) pe_int (nomark _)) (pe_makeS DnodeX hq hr (fun σ => passAt tk σ) (pa_cons (pv 1) pa_nil)) (pe_dfS Dfields_of hq hr (fun σ => passAt tk σ) (pa_cons (pv 1) pa_nil))) pa_nil))))))
      (HdsAs.cons (i := 3) rfl rfl ⟨rfl, by decide, .inl L.gC⟩ (fun a oe cls d pn hz hf => (pss_one (ps_set (i := 2) sc_law_tried.nd rfl (Or.inl rfl) (pe_tup (pa_cons pe_str (pa_cons (pe_callB (castCall (K := K) (r := rReprA) (call_reprU hq (by have := hr.un; exact Nat.lt_of_le_of_lt (Nat.add_le_add_left (by omega) _) this))) (by rfl) T.b_repr (by decide +kernel) (pa_cons (pe_byLow L hz hf (pv 3) rfl) pa_nil)) (pa_cons (pe_and (pe_callB (call_isE3 hz hf) (by rfl) T.b_isinstance (by decide +kernel) (pa_cons (pv 3) (pa_cons (pe_glob (v := .ref TE) rfl te.g rfl) pa_nil))) (pe_one (pe_not (pe_callB (call_isE3 hz hf) (by rfl) T.b_isinstance (by decide +kernel) (pa_cons (pv 3) (pa_cons (pe_glob (v := .ref CN) rfl kn.g rfl) pa_nil)))))) pa_nil))))))) HdsAs.nil))
      (pss_one (ps_ret (pv 2))))), ?_⟩
    refine ⟨by decide, fun p0 hp0 => nm ?_⟩
    dsimp only
    have sm := same_new (o := .tup [V.str "none"]) hp0
    generalize upd H p0 (.tup [V.str "none"]) = H1 at sm ⊢
    have cn : CN ≠ TE := kn.ne_te te (by decide)
    have fin : ∀ (H2 : Hp) (dd a : Addr) (R : VK), Same H1 H2 → H2 dd = some (.xd [("kind", v)]) → (∀ p H3, Same H1 H3 → Dp K H3 (.ref p) (.tuple [.str "kind", .str d.shown, .bool true]) → R (.ref p) H3) →
        tTup (tCons (tC (V.str "kind")) (tCons (tCB (rReprA K) (tCons (tByLow CB a (.ref CB) (some dd) (tVar 3)) tNil)) (tCons (tAndV (tCB (rIsE3 K (.ref CB) (some dd) a) (tCons (tVar 3) (tCons (tC (V.ref TE)) tNil))) (tNotV (tCB (rIsE3 K (.ref CB) (some dd) a) (tCons (tVar 3) (tCons (tC (V.ref CN)) tNil))))) tNil)))
          [some (V.int way), some v, some (.ref p0), some (.ref a)] H2 R := fun H2 dd a R s2 hdd kR => by
      refine ⟨_, rfl, rfl, rfl, dd, v, rfl, hdd, v, d, rfl, dp_same (sm.trans s2) _ _ hd, sh.sh, sh.nd, Nat.le_trans sh.dp (by decide), Nat.le_trans sh.ln (by decide), ?_⟩
      refine ⟨_, rfl, CB, dd, _, rfl, rfl, hdd, kb.ec, .ref TE, .ref TE, true, rfl, (fun u r => r), kb.kit_te te, _, rfl, if1 rfl ?_⟩
      refine ⟨_, rfl, CB, dd, _, rfl, rfl, hdd, kb.ec, .ref CN, .ref CN, false, rfl, (fun u r => r), kb.kit_other kn (by decide) cn, _, rfl, (by show 3 ≤ sizeLine; decide), fun p hp => ?_⟩
      refine kR p _ (s2.trans (same_new hp)) ?_
      exact .tup (.inl (.inl upd_same)) (.cons (.str _) (.cons (.str _) (.cons (.bl _) .nil)))
    refine ⟨_, rfl, rfl, _, rfl, ?_⟩
    by_cases hw : way = 0
    · refine if1 (decide_eq_true (by rw [hw])) ⟨_, rfl, v, [], rfl, by decide, fun x dx p dk hx hdx nx hp hdk px pdx xd ddx dp => ?_⟩
      have s2 : Same H1 (upd (upd (upd (upd H1 dx (.own x)) x (.ins C dx [])) p (.tup [])) dk (.dK (kdOf [] []))) := fun b o e => by
        have ne : ∀ {c : Addr}, H1 c = none → b ≠ c := fun hc q => by rw [q, hc] at e; cases e
        rw [upd_ne (ne hdk), upd_ne (ne hp), upd_ne (ne hx), upd_ne (ne hdx)]
        exact e
      refine ⟨v, .ref x, .ref p, .ref dk, rfl, (bd.same sm).same s2, fun dd H2 s3 hdd => ⟨true, L.te, fun _ a ha => ?_, fun h => nomatch h⟩⟩
      exact fin H2 dd a _ (s2.trans s3) hdd fun p H3 s4 hp => nm ⟨_, rfl, k p H3 (sm.trans s4) hp⟩
    · refine if0 (decide_eq_false (fun e => hw (V.int.inj e))) ⟨_, rfl, v, rfl, bd.same sm, fun dd H2 s3 hdd => ⟨true, L.te, fun _ a ha => ?_, fun h => nomatch h⟩⟩
      exact fin H2 dd a _ s3 hdd fun p H3 s4 hp => nm ⟨_, rfl, k p H3 (sm.trans s4) hp⟩
end
end K04

set_option pp.maxSteps 2500

namespace K04
open PySem L2 Tq
abbrev s_law_other : Stmt := top 45
abbrev N_law_other : List Str := ["_law_stream", "_law_kinds", "_law_kind", "_law_some"]
theorem sc_law_other : FnScope N_law_other ["_law_stream", "_law_kinds"] (defScope s_law_other) := ⟨rfl, rfl, rfl, by decide +kernel, rfl, by decide +kernel, by decide +kernel⟩
def strsOf (z : Str) : List Str := ["", " ", z ++ "s", Txt.lower z ++ "x", cutS z (some 1) none ++ "_", "Node", "expr", "stmt", "Mod", "TryStar", "Interactive", z ++ " ", "name", "Keyword", "Arg", "E", "arguments?"]
def shB (d : PyData) : Bool := decide (d.shown.length ≤ 1000) && decide ((PyData.tuple [.str "kind", .str d.shown, .bool true]).shown.length ≤ 2000)
theorem shB_of {d : PyData} (h : shB d = true) : d.shown.length ≤ 1000 ∧ (PyData.tuple [.str "kind", .str d.shown, .bool true]).shown.length ≤ 2000 := by
  unfold shB at h
  rw [Bool.and_eq_true] at h
  exact ⟨of_decide_eq_true h.1, of_decide_eq_true h.2⟩
def zB (t : Tb) (z : Str) : Bool := ((strsOf z).all fun x => (t.rows x).isNone && shB (.str x)) && decide (z.length ≤ 1000) && decide ((Txt.lower z).length ≤ 1000) && shB (.tuple [.str z]) && shB (.list [.str z])
structure Zok (t : Tb) (z : Str) : Prop where
  st : ∀ x ∈ strsOf z, t.rows x = none ∧ shB (.str x) = true
  ln : z.length ≤ 1000
  lw : (Txt.lower z).length ≤ 1000
  tp : shB (.tuple [.str z]) = true
  ls : shB (.list [.str z]) = true
theorem zok {t : Tb} {z : Str} (h : zB t z = true) : Zok t z := by
  unfold zB at h
  simp only [Bool.and_eq_true] at h
  obtain ⟨⟨⟨⟨h1, h2⟩, h3⟩, h4⟩, h5⟩ := h
  refine ⟨fun x hx => ?_, of_decide_eq_true h2, of_decide_eq_true h3, h4, h5⟩
  have := List.all_eq_true.mp h1 x hx
  rw [Bool.and_eq_true] at this
  exact ⟨Option.isNone_iff_eq_none.mp this.1, this.2⟩
def spOther (K : PySem.W.Frag) (t : Tb) : Sp := fun vs H Q _ => ∃ (a l p : Addr) (zs : List Str) (c : Nat), vs = [.ref a, .ref p] ∧ c + 10 < 4000000 ∧ Strm H a l c ∧ SqL K (off a l H) p (zs.map V.str) ∧ zs ≠ [] ∧ zs.length ≤ 1000 ∧ (∀ z ∈ zs, zB t z = true) ∧
  ∀ (v : V) (d : PyData) (H' : Hp), Bad K t H' v → Dp K (off a l H') v d → Shn d → Strm H' a l (c + 2) → Nx a l H H' → Q v H'
section
variable {P : Program} {w : World} {K : PySem.W.Frag} {mg : Str → Option Value} {base : Heap} {t : Tb}
theorem ok_other {f : Addr} {fd : FuncData} (F : Fun K "_law_other" "_law_other" s_law_other f fd) (T : Txt mg) (D_law_pick : Df P w K mg base CX0 2 "_law_pick" (spPick K)) :
    FnG P w K mg base CX0 3 f fd ["_law_stream", "_law_kinds"] (spOther K t) := by
  refine okG0 F sc_law_other (fun vs H Q E h => ?_) (fun cdv A outer s H vs Q E hq hr h => ?_)
  · obtain ⟨a, l, p, zs, c, rfl, _⟩ := h
    rfl
  · obtain ⟨a, l, p, zs, c, rfl, hc, S, hp, hne, hz, hB, k⟩ := h
    refine ⟨_, (pss_cons (ps_set (i := 2) sc_law_other.nd rfl (Or.inl rfl) (pe_df D_law_pick hq hr pass0 (pa_cons (pv 0) (pa_cons (pv 1) pa_nil))))
      (pss_cons (ps_set (i := 3) sc_law_other.nd rfl (Or.inl rfl) (pe_lst (pa_cons pe_non (pa_cons pe_int (pa_cons pe_bl (pa_cons pe_str (pa_cons pe_str (pa_cons (pe_tup (pa_cons (pv 2) pa_nil)) (pa_cons (pe_lst (pa_cons (pv 2) pa_nil)) (pa_cons (pe_op op_add_str (pv 2) pe_str) (pa_cons (pe_op op_add_str (pe_lower (pv 2)) pe_str) (pa_cons (pe_op op_add_str (pe_slice sl_str (pv 2) (po_some pe_int) po_none) pe_str) pa_nil))))))))))))
      (pss_cons (ps_set (i := 3) sc_law_other.nd rfl (Or.inl rfl) (pe_op op_cat (pv 3) (pe_lst (pa_cons pe_str (pa_cons pe_str (pa_cons pe_str pa_nil))))))
      (pss_cons (ps_set (i := 3) sc_law_other.nd rfl (Or.inl rfl) (pe_op op_cat (pv 3) (pe_lst (pa_cons pe_str (pa_cons pe_str (pa_cons pe_str (pa_cons (pe_op op_add_str (pv 2) pe_str) (pa_cons pe_str (pa_cons pe_str (pa_cons pe_str (pa_cons pe_str (pa_cons pe_str pa_nil))))))))))))
      (pss_one (ps_ret (pe_df D_law_pick hq hr pass0 (pa_cons (pv 0) (pa_cons (pv 3) pa_nil))))))))), ?_⟩
    refine ⟨_, rfl, _, rfl, a, l, p, _, c, rfl, by omega, S, hp, by simpa using hne, by rw [List.length_map]; omega, fun v H1 hv S1 nx1 => nm ?_⟩
    obtain ⟨z, hzm, rfl⟩ := List.mem_map.mp hv
    have Z := zok (hB z hzm)
    have hl : ∀ n : Nat, n ≤ 2000 → n ≤ sizeLine := fun n h => by rw [sizeLine_eq]; omega
    dsimp only
    refine ⟨_, rfl, (by show 1 ≤ sizeLine; decide), fun tp htp => ?_⟩
    have tpa : tp ≠ a ∧ tp ≠ l := ⟨fun e => S1.dom.1 (e ▸ htp), fun e => S1.dom.2 (e ▸ htp)⟩
    have n2 : Nx a l H1 (upd H1 tp (.tup [.str z])) := Nx.new htp
    have S2 := S1.new (o := .tup [.str z]) htp
    have e2 : (upd H1 tp (.tup [.str z])) tp = some (.tup [.str z]) := upd_same
    dsimp only
    generalize upd H1 tp (.tup [.str z]) = H2 at n2 S2 e2 ⊢
    refine ⟨_, rfl, (by show 1 ≤ sizeLine; decide), fun ls hls => ?_⟩
    have lsa : ls ≠ a ∧ ls ≠ l := ⟨fun e => S2.dom.1 (e ▸ hls), fun e => S2.dom.2 (e ▸ hls)⟩
    have n3 : Nx a l H2 (upd H2 ls (.lst [.str z])) := Nx.new hls
    have S3 := S2.new (o := .lst [.str z]) hls
    have e3 : (upd H2 ls (.lst [.str z])) ls = some (.lst [.str z]) := upd_same
    have f2 := same_new (o := .lst [.str z]) hls _ _ e2
    dsimp only
    generalize upd H2 ls (.lst [.str z]) = H3 at n3 S3 e3 f2 ⊢
    refine ⟨_, rfl, _, _, rfl, rfl, hl _ (by have := Z.ln; show z.length + 1 ≤ 2000; omega), ?_⟩
    refine ⟨_, rfl, ⟨z, rfl⟩, z, rfl, rfl, (by have := Z.ln; omega), _, _, rfl, rfl, hl _ (by have := Z.lw; show (Txt.lower z).length + 1 ≤ 2000; omega), ?_⟩
    refine ⟨_, rfl, 1, rfl, z, rfl, hl _ (by have := Z.ln; omega), _, _, rfl, rfl, hl _ (by have := Z.ln; have := cutS_length z (some 1) none; show (cutS z (some 1) none).length + 1 ≤ 2000; omega), (by show 10 ≤ sizeLine; decide), fun q0 hq0 => nm ?_⟩
    have step : ∀ (H' : Hp) (q : Addr) (o : HO), (Nx a l H1 H' ∧ Strm H' a l (c + 1) ∧ H' tp = some (.tup [.str z]) ∧ H' ls = some (.lst [.str z])) → H' q = none → (Nx a l H1 (upd H' q o) ∧ Strm (upd H' q o) a l (c + 1) ∧ (upd H' q o) tp = some (.tup [.str z]) ∧ (upd H' q o) ls = some (.lst [.str z])) := fun H' q o h hq =>
      ⟨h.1.trans (Nx.new hq), h.2.1.new hq, same_new hq _ _ h.2.2.1, same_new hq _ _ h.2.2.2⟩
    have P3 : Nx a l H1 H3 ∧ Strm H3 a l (c + 1) ∧ H3 tp = some (.tup [.str z]) ∧ H3 ls = some (.lst [.str z]) := ⟨n2.trans n3, S3, f2, e3⟩
    obtain ⟨xs, exs⟩ : ∃ xs, xs = [V.non, V.int 0, V.bl true, V.str (Str.ofString ""), V.str (Str.ofString " "), V.ref tp, V.ref ls, V.str (z ++ Str.ofString "s"), V.str (Txt.lower z ++ Str.ofString "x"), V.str (cutS z (some 1) none ++ Str.ofString "_")] := ⟨_, rfl⟩
    rw [← exs]
    have lx : xs.length = 10 := by rw [exs]; rfl
    have P4 := step H3 q0 (.lst xs) P3 hq0
    have g4 : (upd H3 q0 (.lst xs)) q0 = some (.lst xs) := upd_same
    generalize upd H3 q0 (.lst xs) = H4 at P4 g4 ⊢
    refine ⟨_, rfl, (by show 3 ≤ sizeLine; decide), fun q1 hq1 => ⟨q0, q1, xs, _, rfl, rfl, same_new hq1 _ _ g4, upd_same, (by rw [lx]; show 10 + 3 ≤ sizeLine; decide), fun q2 hq2 => nm ?_⟩⟩
    have P6 := step _ q2 (.lst (xs ++ [V.str (Str.ofString "Node"), V.str (Str.ofString "expr"), V.str (Str.ofString "stmt")])) (step H4 q1 (.lst [V.str (Str.ofString "Node"), V.str (Str.ofString "expr"), V.str (Str.ofString "stmt")]) P4 hq1) hq2
    have g6 : (upd (upd H4 q1 (.lst [V.str (Str.ofString "Node"), V.str (Str.ofString "expr"), V.str (Str.ofString "stmt")])) q2 (.lst (xs ++ [V.str (Str.ofString "Node"), V.str (Str.ofString "expr"), V.str (Str.ofString "stmt")]))) q2 = some (.lst (xs ++ [V.str (Str.ofString "Node"), V.str (Str.ofString "expr"), V.str (Str.ofString "stmt")])) := upd_same
    generalize upd (upd H4 q1 (.lst [V.str (Str.ofString "Node"), V.str (Str.ofString "expr"), V.str (Str.ofString "stmt")])) q2 (.lst (xs ++ [V.str (Str.ofString "Node"), V.str (Str.ofString "expr"), V.str (Str.ofString "stmt")])) = H6 at P6 g6 ⊢
    refine ⟨_, rfl, _, rfl, _, _, rfl, rfl, hl _ (by have := Z.ln; show z.length + 1 ≤ 2000; omega), (by show 9 ≤ sizeLine; decide), fun q3 hq3 => ⟨q2, q3, _, _, rfl, rfl, same_new hq3 _ _ g6, upd_same, (by rw [List.length_append, lx]; show 10 + 3 + 9 ≤ sizeLine; decide), fun q4 hq4 => nm ?_⟩⟩
    obtain ⟨ys, eys⟩ : ∃ ys, ys = [V.str (Str.ofString "Mod"), V.str (Str.ofString "TryStar"), V.str (Str.ofString "Interactive"), V.str (z ++ Str.ofString " "), V.str (Str.ofString "name"), V.str (Str.ofString "Keyword"), V.str (Str.ofString "Arg"), V.str (Str.ofString "E"), V.str (Str.ofString "arguments?")] := ⟨_, rfl⟩
    rw [← eys] at hq4 ⊢
    have hqa : q4 ≠ a ∧ q4 ≠ l := ⟨fun e => (step H6 q3 (.lst ys) P6 hq3).2.1.dom.1 (e ▸ hq4), fun e => (step H6 q3 (.lst ys) P6 hq3).2.1.dom.2 (e ▸ hq4)⟩
    have P8 := step _ q4 (.lst ((xs ++ [V.str (Str.ofString "Node"), V.str (Str.ofString "expr"), V.str (Str.ofString "stmt")]) ++ ys)) (step H6 q3 (.lst ys) P6 hq3) hq4
    have g8 : (upd (upd H6 q3 (.lst ys)) q4 (.lst ((xs ++ [V.str (Str.ofString "Node"), V.str (Str.ofString "expr"), V.str (Str.ofString "stmt")]) ++ ys))) q4 = some (.lst ((xs ++ [V.str (Str.ofString "Node"), V.str (Str.ofString "expr"), V.str (Str.ofString "stmt")]) ++ ys)) := upd_same
    generalize upd (upd H6 q3 (.lst ys)) q4 (.lst ((xs ++ [V.str (Str.ofString "Node"), V.str (Str.ofString "expr"), V.str (Str.ofString "stmt")]) ++ ys)) = H8 at P8 g8 ⊢
    obtain ⟨n8, S8, t8, l8⟩ := P8
    obtain ⟨es, ees⟩ : ∃ es, es = (xs ++ [V.str (Str.ofString "Node"), V.str (Str.ofString "expr"), V.str (Str.ofString "stmt")]) ++ ys := ⟨_, rfl⟩
    rw [← ees] at g8
    have les : es.length = 22 := by rw [ees, exs, eys]; rfl
    refine ⟨_, rfl, _, rfl, a, l, q4, es, c + 1, rfl, by omega, S8, SqL.of (off_of g8 hqa.1 hqa.2), (by intro e; rw [e] at les; cases les), by omega, fun v H9 hv S9 nx9 => ?_⟩
    have t9 := nx9 _ _ (off_of t8 tpa.1 tpa.2)
    have l9 := nx9 _ _ (off_of l8 lsa.1 lsa.2)
    have fin : ∀ d, Bad K t H9 v → Dp K (off a l H9) v d → Shn d → Q v H9 := fun d h1 h2 h3 => k v d H9 h1 h2 h3 S9 (nx1.trans (n8.trans nx9))
    have cases : v = .non ∨ v = .int 0 ∨ v = .bl true ∨ v = .ref tp ∨ v = .ref ls ∨ ∃ x ∈ strsOf z, v = .str x := by
      rw [ees, exs, eys] at hv
      simp only [List.mem_append, List.mem_cons, List.not_mem_nil, or_false] at hv
      rcases hv with ((h | h | h | h | h | h | h | h | h | h) | h | h | h) | h | h | h | h | h | h | h | h | h
      · exact .inl h
      · exact .inr (.inl h)
      · exact .inr (.inr (.inl h))
      · exact .inr (.inr (.inr (.inr (.inr ⟨_, by simp [strsOf], h⟩))))
      · exact .inr (.inr (.inr (.inr (.inr ⟨_, by simp [strsOf], h⟩))))
      · exact .inr (.inr (.inr (.inl h)))
      · exact .inr (.inr (.inr (.inr (.inl h))))
      all_goals exact .inr (.inr (.inr (.inr (.inr ⟨_, by simp [strsOf], h⟩))))
    rcases cases with rfl | rfl | rfl | rfl | rfl | ⟨x, hx, rfl⟩
    · exact fin .none (.inr ⟨_, .base .non, kit_ty (by decide +kernel)⟩) .non ⟨rfl, rfl, by decide, by decide +kernel, by decide +kernel⟩
    · exact fin (.int 0) (.inr ⟨_, .base (.int 0), kit_ty (by decide +kernel)⟩) (.int 0) ⟨by decide, rfl, by decide, by decide +kernel, by decide +kernel⟩
    · exact fin (.bool true) (.inr ⟨_, .base (.bl true), kit_ty (by decide +kernel)⟩) (.bl true) ⟨rfl, rfl, by decide, by decide +kernel, by decide +kernel⟩
    · exact fin (.tuple [.str z]) (.inr ⟨_, dp_ty (.tup (.inl (.inl (off_sub _ _ t9))) (.cons (.str z) .nil)), kit_ty (show kitB "tuple" "str" = some false by decide +kernel)⟩) (.tup (.inl (.inl t9)) (.cons (.str z) .nil)) ⟨rfl, rfl, by simp [PyData.depth, PyData.depthAll], (shB_of Z.tp).1, (shB_of Z.tp).2⟩
    · exact fin (.list [.str z]) (.inr ⟨_, dp_ty (.lst (SqL.of (off_sub _ _ l9)) (.cons (.str z) .nil)), kit_ty (show kitB "list" "str" = some false by decide +kernel)⟩) (.lst (SqL.of l9) (.cons (.str z) .nil)) ⟨rfl, rfl, by simp [PyData.depth, PyData.depthAll], (shB_of Z.ls).1, (shB_of Z.ls).2⟩
    · exact fin (.str x) (.inl ⟨x, rfl, (Z.st x hx).1⟩) (.str x) ⟨rfl, rfl, (by simp [PyData.depth]), (shB_of (Z.st x hx).2).1, (shB_of (Z.st x hx).2).2⟩
end
end K04

set_option pp.maxSteps 2500

namespace K04
open PySem L2 Tq
abbrev slaw : Stmt := top 46
abbrev Nlaw : List Str := ["_law_script", "_law_stream", "_law_table_here", "_law_kinds", "_law_kind", "_law_due", "_law_found", "_law_turn", "_law_thing", "_law_way", "_law_name", "_law_held"]
theorem sclaw : FnScope Nlaw ["_law_script"] (defScope slaw) := ⟨rfl, rfl, rfl, by decide +kernel, rfl, by decide +kernel, by decide +kernel⟩
def spLaw (K : PySem.W.Frag) : Sp := fun vs H Q _ => ∃ (s : Addr) (ns : List Int), vs = [.ref s] ∧ SqL K H s (ns.map V.int) ∧ ns.length ≤ 63 ∧ ∀ H', Q (.bl true) H'
theorem strm_same {H H' : Hp} {a l : Addr} {c : Nat} (S : Strm H a l c) (e : Same H H') : Strm H' a l c := by
  obtain ⟨ns, x, k, m, h1, h2, r⟩ := S.ex
  exact ⟨ns, x, k, m, e a _ h1, e l _ h2, r⟩
theorem look_of_mem : ∀ {T : List (Str × Rw)} {r : Str × Rw}, (T.map (·.1)).Nodup → r ∈ T → T.lookup r.1 = some r.2
  | [], _, _, h => nomatch h
  | q :: T, r, hn, h => by
    obtain ⟨n1, n2⟩ := List.nodup_cons.mp (show (q.1 :: T.map (·.1)).Nodup from hn)
    rcases List.mem_cons.mp h with e | h
    · subst e
      simp [List.lookup]
    · have ne : (r.1 == q.1) = false := beq_eq_false_iff_ne.mpr fun e => n1 (e ▸ List.mem_map.mpr ⟨r, h, rfl⟩)
      rw [List.lookup, ne]
      exact look_of_mem n2 h
theorem ag_names : ∀ {ps : List Str} {rs : Rw}, Paired Ag ps rs → ps.map rowN = rs.map (·.1)
  | _, _, .nil => rfl
  | _, _, .cons a t => by rw [List.map_cons, List.map_cons, ag_names t, a.n]
theorem dpAll_names {K : PySem.W.Frag} {H : Hp} : ∀ ns : List Str, DpAll K H (ns.map V.str) (ns.map PyData.str)
  | [] => .nil
  | n :: r => .cons (.str n) (dpAll_names r)
theorem showable_names : ∀ ns : List Str, PyData.showableAll (ns.map PyData.str) = true
  | [] => rfl
  | n :: r => by rw [List.map_cons, PyData.showableAll, showable_names r]; rfl
theorem hasDict_names : ∀ ns : List Str, PyData.hasDictAll (ns.map PyData.str) = false
  | [] => rfl
  | n :: r => by rw [List.map_cons, PyData.hasDictAll, hasDict_names r]; rfl
theorem depth_names : ∀ ns : List Str, PyData.depthAll (ns.map PyData.str) ≤ 1
  | [] => by simp [PyData.depthAll]
  | n :: r => by
    rw [List.map_cons, PyData.depthAll]
    have := depth_names r
    simp [PyData.depth]
    omega
section
variable {P : Program} {w : World} {K : PySem.W.Frag} {mg : Str → Option Value} {base : Heap} {C : Addr} {t : Tb}
theorem ok_law {f : Addr} {fd : FuncData} (F : Fun K "law" "law" slaw f fd) (T : Txt mg) (D_law_table : Df P w K mg base CX0 2 "_law_table" spTab4) (D_law_mixed : Df P w K mg base CX0 2 "_law_mixed" (spMix K)) (Dfields_of : Df P w K mg base CX0 3 "fields_of" (spFields t)) (D_law_fresh_right : Df P w K mg base CX0 9 "_law_fresh_right" (spFresh t))
    (D_law_other : Df P w K mg base CX0 3 "_law_other" (spOther K t)) (D_law_tried : Df P w K mg base CX0 6 "_law_tried" (spTried4 K t)) (hT : ∀ r ∈ lawTab, zB t r.1 = true) (hA : ∀ r ∈ lawTab, ∃ prows, t.rows r.1 = some prows ∧ Paired Ag prows r.2 ∧ (PyData.tuple ((r.2.map (·.1)).map PyData.str)).shown.length ≤ 1000 ∧ r.2.length ≤ 1000) :
    FnG P w K mg base CX0 10 f fd ["_law_script"] (spLaw K) := by
  refine okG0 F sclaw (fun vs H Q E h => ?_) (fun cdv A outer s H vs Q E hq hr h => ?_)
  · obtain ⟨a, ns, rfl, _⟩ := h
    rfl
  · obtain ⟨sa, ns, rfl, hs, hn, k⟩ := h
    refine ⟨_, (pss_cons (ps_set (i := 1) sclaw.nd rfl (Or.inl rfl) (pe_lst (pa_cons (pe_callTy call_list_of (by rfl) T.b_list (by decide +kernel) (pa_cons (pv 0) pa_nil)) (pa_cons pe_int (pa_cons pe_int (pa_cons pe_int pa_nil))))))
      (pss_cons (ps_set (i := 2) sclaw.nd rfl (Or.inl rfl) (pe_df0 D_law_table hq hr pass0))
      (pss_cons (ps_set (i := 3) sclaw.nd rfl (Or.inl rfl) (pe_callB (call_sortedDA rfl) (by rfl) T.b_sorted (by decide +kernel) (pa_cons (pv 2) pa_nil)))
      (pss_cons (ps_for PassesOwn.never rfl (pi_list (pe_df D_law_mixed hq hr pass0 (pa_cons (pv 1) (pa_cons (pv 3) pa_nil)))) (pg_name (i := 4) sclaw.nd rfl (Or.inl rfl))
      (pss_cons (ps_set (i := 5) sclaw.nd rfl (Or.inl rfl) (pe_callTy call_tuple_of (by rfl) T.b_tuple (by decide +kernel) (pa_cons (pe_lc (own := [("_law_name", 10), ("_law_held", 11)]) (by rfl) sclaw.nd (pi_list (pe_dget (hu_of hr) (pv 2) (pv 4) (fun _ _ => rfl))) (blkOk_by (own := [("_law_name", 10), ("_law_held", 11)]) (N := Nlaw) (sc := defScope slaw) (by decide +kernel)) (fun _ _ _ _ _ => (castPG (K := K) (r := fun K => gUnl K 2 _) (pg_unl (by rfl) (pgs_cons (pg_name (i := 10) sclaw.nd rfl (Or.inl rfl)) (pgs_cons (pg_name (i := 11) sclaw.nd rfl (Or.inl rfl)) pgs_nil))))) (fun _ _ _ _ _ => pts_nil) (fun _ _ _ _ _ => (pv 10))) pa_nil)))
      (pss_cons (ps_set (i := 6) sclaw.nd rfl (Or.inl rfl) (pe_df Dfields_of hq hr pass0 (pa_cons (pv 4) pa_nil)))
      (pss_one (ps_if (PW.pt (pw_or (pt_not (pt_val (pe_callB call_isi (by rfl) T.b_isinstance (by decide +kernel) (pa_cons (pv 6) (pa_cons (pe_bltn (v := .ty "tuple") rfl T.b_tuple (by decide +kernel) rfl) pa_nil))))) (pw_or (pt_cmpR op_ne (pe_callB (call_reprA hq hr) (by rfl) T.b_repr (by decide +kernel) (pa_cons (pv 6) pa_nil)) (pe_callB (call_reprA hq hr) (by rfl) T.b_repr (by decide +kernel) (pa_cons (pv 5) pa_nil)) (nomark _)) (pw_or1 (pt_not (pt_val (pe_df D_law_fresh_right hq hr pass0 (pa_cons (pv 4) (pa_cons (pe_dget (hu_of hr) (pv 2) (pv 4) (fun _ _ => rfl)) pa_nil)))))))))
      (pss_one (ps_ret pe_bl))
      pss_nil)))))
      (pss_cons (ps_for PassesOwn.never rfl (pi_range1 rfl T.range (pa_cons pe_int pa_nil)) (pg_name (i := 7) sclaw.nd rfl (Or.inl rfl))
      (pss_cons (ps_set (i := 8) sclaw.nd rfl (Or.inl rfl) (pe_df D_law_other hq hr pass0 (pa_cons (pv 1) (pa_cons (pv 3) pa_nil))))
      (pss_one (ps_for PassesOwn.never rfl (pi_range1 rfl T.range (pa_cons pe_int pa_nil)) (pg_name (i := 9) sclaw.nd rfl (Or.inl rfl))
      (pss_one (ps_if (pt_cmpR op_ne (pe_callB (call_reprA hq hr) (by rfl) T.b_repr (by decide +kernel) (pa_cons (pe_df D_law_tried hq hr pass0 (pa_cons (pv 9) (pa_cons (pv 8) pa_nil))) pa_nil)) (pe_callB (call_reprA hq hr) (by rfl) T.b_repr (by decide +kernel) (pa_cons (pe_tup (pa_cons pe_str (pa_cons (pe_callB (call_reprA hq hr) (by rfl) T.b_repr (by decide +kernel) (pa_cons (pv 8) pa_nil)) (pa_cons pe_bl pa_nil)))) pa_nil)) (nomark _))
      (pss_one (ps_ret pe_bl))
      pss_nil))))))
      (pss_one (ps_ret pe_bl))))))), ?_⟩
    refine ⟨_, rfl, sa, _, rfl, .inl hs, fun l hl => ⟨(by show 4 ≤ sizeLine; decide), fun a ha => nm ?_⟩⟩
    dsimp only
    have hal : l ≠ a := ne_of_none upd_same ha
    have S1 : Strm (upd (upd H l (.lst (ns.map V.int))) a (.lst [.ref l, .int 0, .int 0, .int 0])) a l 0 := by
      refine ⟨ns, 0, 0, 0, upd_same, ?_, by decide, by decide, by decide, by decide, by decide⟩
      rw [upd_ne hal, upd_same]
    generalize upd (upd H l (.lst (ns.map V.int))) a (.lst [.ref l, .int 0, .int 0, .int 0]) = H1 at S1 ⊢
    -- the table
    refine ⟨rfl, fun d kvs H2 sm2 hd1 hd2 lt => nm ?_⟩
    dsimp only
    have hda : d ≠ a := fun e => S1.dom.1 (e ▸ hd1)
    have hdl : d ≠ l := fun e => S1.dom.2 (e ▸ hd1)
    have S2 := strm_same S1 sm2
    have lt2 : LTab (off a l H2) kvs lawTab := lt.but fun b xs e => by
      obtain ⟨e1, e2⟩ := of_nw e
      exact off_of e2 (fun q => S1.dom.1 (q ▸ e1)) (fun q => S1.dom.2 (q ▸ e1))
    have od2 : off a l H2 d = some (.dK kvs) := off_of hd2 hda hdl
    -- the kinds
    refine ⟨_, rfl, d, kvs, lawTab.map (·.1), rfl, .inl hd2, lt.keys, by rw [List.length_map]; exact law_len, fun ys q hpm hq => nm ?_⟩
    dsimp only
    have hqa : q ≠ a := fun e => S2.dom.1 (e ▸ hq)
    have hql : q ≠ l := fun e => S2.dom.2 (e ▸ hq)
    have S3 := S2.new (o := .lst (ys.map V.str)) hq
    have n3 : Nx a l H2 (upd H2 q (.lst (ys.map V.str))) := Nx.new hq
    have oq3 : off a l (upd H2 q (.lst (ys.map V.str))) q = some (.lst (ys.map V.str)) := off_of upd_same hqa hql
    generalize upd H2 q (.lst (ys.map V.str)) = H3 at S3 n3 oq3 ⊢
    have hyl : ys.length = lawTab.length := by rw [hpm.length_eq, List.length_map]
    have hyr : ∀ y ∈ ys, ∃ r ∈ lawTab, r.1 = y := fun y hy => by
      obtain ⟨r, h1, h2⟩ := List.mem_map.mp (hpm.mem_iff.mp hy)
      exact ⟨r, h1, h2⟩
    have hlen := law_len
    have hne : ys ≠ [] := fun e => by
      rw [e] at hyl
      exact absurd hyl (by decide +kernel)
    refine ⟨_, rfl, _, rfl, a, l, q, ys, 0, rfl, by decide, S3, SqL.of oq3, by omega, fun m zs H4 hzs S4 nx4 hm0 hm4 hml => ⟨m, rfl, ⟨_, SqL.of hm4⟩, ?_⟩⟩
    have n24 := n3.trans nx4
    have od4 := n24 _ _ od2
    have oq4 := nx4 _ _ oq3
    have lt4 : LTab (off a l H4) kvs lawTab := lt2.but fun b xs e => n24 b _ e
    refine for_list (K := K) (xs := zs.map V.str) (fun i σ' H' => (∃ s4 s5 s6, σ' = [some (.ref sa), some (.ref a), some (.ref d), some (.ref q), s4, s5, s6, none, none, none, none, none]) ∧ Same H4 H') ⟨⟨_, _, _, rfl⟩, Same.refl _⟩ (fun i σ' H' _ h => SqL.of (h.2 _ _ hm4)) (fun i x σ' H5 hi pv => ?_) (fun σ' H5 pv => ?_)
    · obtain ⟨⟨s4, s5, s6, rfl⟩, sm5⟩ := pv
      obtain ⟨z, hz, rfl⟩ : ∃ z, zs[i]? = some z ∧ V.str z = x := by simpa using hi
      obtain ⟨r, hr1, rfl⟩ := hyr z (hzs z (List.mem_of_getElem? hz))
      obtain ⟨prows, hpr, ag, hsl, hlr⟩ := hA r hr1
      obtain ⟨v, hv, lr⟩ := lt4.get (look_of_mem law_nd hr1)
      have lr5 : LRows H5 v r.2 := lr.but fun b xs e => sm5 b _ (off_sub b _ e)
      have hd5 : H5 d = some (.dK kvs) := sm5 _ _ (off_sub _ _ od4)
      obtain ⟨va, qs, rfl, hva, prt⟩ := lr5
      have hlq : qs.length = r.2.length := Paired.length prt
      refine nm ?_
      refine ⟨_, rfl, _, rfl, d, .ref va, rfl, .inl ⟨kvs, Sum.inr r.1, .inl hd5, rfl, hv.symm⟩, va, rfl, ⟨_, SqL.of hva⟩, fun D hD => ?_⟩
      refine lc_list (xs := qs) (fun i H6 => Same H5 H6 ∧ H6 D = some (.lst (((r.2.map (·.1)).take i).map V.str))) ⟨same_new hD, upd_same⟩ (fun i H6 _ h => SqL.of (h.1 _ _ hva)) (fun i x H6 hi pv => ?_) (fun H6 pv => ?_)
      · obtain ⟨sm6, hD6⟩ := pv
        obtain ⟨⟨n, h⟩, hri, b, rfl, hb⟩ := Tq.paired_get prt hi
        have hlt : i < r.2.length := (List.getElem?_eq_some_iff.mp hri).1
        refine ⟨b, _, rfl, SqL.of (sm6 _ _ hb), rfl, _, _, rfl, _, _, rfl, rfl, rfl, yes ⟨_, rfl, _, hD6, ?_, fun c o e => ?_, ?_⟩⟩
        · rw [List.length_map, List.length_take, List.length_map]
          exact Nat.lt_of_le_of_lt (Nat.min_le_left _ _) (Nat.lt_of_lt_of_le hlt (Nat.le_trans hlr (by decide)))
        · rw [upd_ne (fun q => by rw [q, hD] at e; cases e)]
          exact sm6 c o e
        · rw [upd_same, List.take_add_one, List.getElem?_map, hri, List.map_append]
          rfl
      · obtain ⟨sm6, hD6⟩ := pv
        have ell : (r.2.map (·.1)).take qs.length = r.2.map (·.1) := by rw [hlq, List.take_of_length_le (by rw [List.length_map]; exact Nat.le_refl _)]
        rw [ell] at hD6
        refine ⟨D, _, rfl, .inl ⟨SqL.of hD6, fun tu htu => nm ?_⟩⟩
        have sm7 := same_new (o := .tup ((r.2.map (·.1)).map V.str)) htu
        have ht7 : (upd H6 tu (.tup ((r.2.map (·.1)).map V.str))) tu = some (.tup ((r.2.map (·.1)).map V.str)) := upd_same
        dsimp only
        generalize upd H6 tu (.tup ((r.2.map (·.1)).map V.str)) = H7 at sm7 ht7 ⊢
        refine ⟨_, rfl, r.1, prows, rfl, hpr, fun p H8 sm8 hp0 hp8 => nm ?_⟩
        dsimp only
        have en : (prows.map fun r => V.str (rowN r)) = (r.2.map (·.1)).map V.str := by
          rw [← ag_names ag, List.map_map]
          rfl
        rw [en] at hp8
        have s58 := sm6.trans (sm7.trans sm8)
        have dp1 : Dp K H8 (.ref p) (.tuple ((r.2.map (·.1)).map PyData.str)) := .tup (.inl (.inl hp8)) (dpAll_names _)
        have dp2 : Dp K H8 (.ref tu) (.tuple ((r.2.map (·.1)).map PyData.str)) := .tup (.inl (.inl (sm8 _ _ ht7))) (dpAll_names _)
        have g1 : (PyData.tuple ((r.2.map (·.1)).map PyData.str)).showable = true := by rw [PyData.showable]; exact showable_names _
        have g2 : (PyData.tuple ((r.2.map (·.1)).map PyData.str)).hasDict = false := by rw [PyData.hasDict]; exact hasDict_names _
        have g3 : (PyData.tuple ((r.2.map (·.1)).map PyData.str)).depth ≤ 60 := by
          rw [PyData.depth]
          have := depth_names (r.2.map (·.1))
          omega
        have g4 := Nat.le_trans hsl (show 1000 ≤ sizeLine by decide)
        refine ⟨_, rfl, _, _, _, _, true, rfl, .ty "tuple", dp_ty dp1, kit_ty (show kitB "tuple" "tuple" = some true by decide +kernel), _, rfl, if0 rfl ?_⟩
        refine ⟨_, rfl, .ref p, _, rfl, dp1, g1, g2, g3, g4, _, rfl, .ref tu, _, rfl, dp2, g1, g2, g3, g4, rfl, _, rfl, if0 (by simp) ?_⟩
        refine ⟨_, rfl, _, rfl, _, rfl, d, .ref va, rfl, .inl ⟨kvs, Sum.inr r.1, .inl (s58 _ _ hd5), rfl, hv.symm⟩, r.1, .ref va, prows, r.2, rfl, hpr, ⟨va, qs, rfl, s58 _ _ hva, paired_map (fun _ _ h => h.but fun b xs e => s58 b _ e) prt⟩, ag, fun H9 s9 => ⟨_, rfl, if0 rfl ?_⟩⟩
        exact ⟨⟨_, _, _, rfl⟩, sm5.trans (s58.trans s9)⟩
    · obtain ⟨⟨s4, s5, s6, rfl⟩, sm5⟩ := pv
      have S5 := strm_same S4 sm5
      have oq5 : SqL K (off a l H5) q (ys.map V.str) := SqL.of (off_of (sm5 _ _ (off_sub _ _ oq4)) hqa hql)
      refine ⟨12, rfl, by decide, by decide, ?_⟩
      refine for_range (lo := 0) (n := 12) (fun i σ' H' => (∃ s4 s5 s6 s7 s8 s9, σ' = [some (.ref sa), some (.ref a), some (.ref d), some (.ref q), s4, s5, s6, s7, s8, s9, none, none]) ∧ Strm H' a l (1000 + 10 * i) ∧ SqL K (off a l H') q (ys.map V.str)) ⟨⟨_, _, _, _, _, _, rfl⟩, S5.mono (by omega), oq5⟩
        (fun i σ' H6 hi pv => ?_) (fun σ' H6 pv => k H6)
      obtain ⟨⟨s4, s5, s6, s7, s8, s9, rfl⟩, S6, oq6⟩ := pv
      refine nm ?_
      refine ⟨_, rfl, _, rfl, a, l, q, ys, 1000 + 10 * i, rfl, by omega, S6, oq6, hne, by omega, fun y hy => ?_, fun v dv H7 bd dp sh S7 nx7 => nm ?_⟩
      · obtain ⟨r, h1, rfl⟩ := hyr y hy
        exact hT r h1
      dsimp only
      have oq7 := sqL_same nx7 oq6
      refine ⟨2, rfl, by decide, by decide, ?_⟩
      refine for_range (lo := 0) (n := 2) (fun j σ' H' => (∃ s9, σ' = [some (.ref sa), some (.ref a), some (.ref d), some (.ref q), s4, s5, s6, some (.int (0 + i)), some v, s9, none, none]) ∧ Same H7 H') ⟨⟨_, rfl⟩, Same.refl _⟩
        (fun j σ' H8 hj pv => ?_) (fun σ' H8 pv => ?_)
      · obtain ⟨⟨s9, rfl⟩, sm8⟩ := pv
        refine nm ?_
        have dp8 : Dp K H8 v dv := dp_same sm8 _ _ (dp_same off_sub _ _ dp)
        refine ⟨_, rfl, _, rfl, _, v, dv, rfl, bd.same sm8, dp8, sh, fun p H9 s9' dpp => ?_⟩
        have t1 : ∀ x : Str, (PyData.tuple [.str "kind", .str x, .bool true]).showable = true ∧ (PyData.tuple [.str "kind", .str x, .bool true]).hasDict = false ∧ (PyData.tuple [.str "kind", .str x, .bool true]).depth ≤ 60 := fun x => ⟨rfl, rfl, by simp [PyData.depth, PyData.depthAll]⟩
        have t2 := Nat.le_trans sh.l2 (show 2000 ≤ sizeLine by decide)
        refine ⟨.ref p, _, rfl, dpp, (t1 _).1, (t1 _).2.1, (t1 _).2.2, t2, ?_⟩
        refine ⟨_, rfl, v, dv, rfl, dp_same s9' _ _ dp8, sh.sh, sh.nd, Nat.le_trans sh.dp (by decide), Nat.le_trans sh.ln (by decide), (by show 3 ≤ sizeLine; decide), fun p2 hp2 => ?_⟩
        refine ⟨.ref p2, .tuple [.str "kind", .str dv.shown, .bool true], rfl, .tup (.inl (.inl upd_same)) (.cons (.str _) (.cons (.str _) (.cons (.bl _) .nil))), (t1 _).1, (t1 _).2.1, (t1 _).2.2, t2, rfl, _, rfl, if0 (by simp) ?_⟩
        exact ⟨⟨_, rfl⟩, sm8.trans (s9'.trans (same_new hp2))⟩
      · obtain ⟨⟨s9, rfl⟩, sm8⟩ := pv
        exact ⟨⟨_, _, _, _, _, _, rfl⟩, (strm_same S7 sm8).mono (by omega), sqL_same (Nx.of_same sm8) oq7⟩
end
end K04

namespace K04
open PySem L2 Tq
def nm04 : List (Str × List Str) := [nameRows (top 6), nameRows (top 7), nameRows (top 13), nameRows (top 14), nameRows (top 15), nameRows (top 16), nameRows (top 17)]
def tb04 : Tb := ⟨dictRows nm04 (top 8), dictRows nm04 (top 9), dictRows nm04 (top 10), dictRows nm04 (top 11), dictRows nm04 (top 12), dictRows nm04 (top 18)⟩
theorem tb04_ok : TbOk tb04 := tbB_ok (by decide +kernel)
theorem tb04_name : ∃ r rs, tb04.rows "Name" = some (r :: rs) := by
  have h : (match tb04.rows "Name" with | some (_ :: _) => true | _ => false) = true := by decide +kernel
  split at h
  · rename_i r rs e
    exact ⟨r, rs, e⟩
  · cases h
def agB (p : Str) (r : Str × Str) : Bool := decide (r.1 = rowN p) && (decide (isMany r.2 = isMany (rowW p)) && ((atI r.2.cps.toList (-1)).isSome && (decide (r.2.length ≤ sizeLine) && (!decide (r.1 = "ctx") || !isMany r.2))))
theorem agB_ok {p : Str} {r : Str × Str} (h : agB p r = true) : Ag p r := by
  unfold agB at h
  simp only [Bool.and_eq_true, decide_eq_true_eq] at h
  obtain ⟨h1, h2, h3, h4, h5⟩ := h
  refine ⟨h1, h2, h3, h4, fun e => ?_⟩
  rw [decide_eq_true e] at h5
  simpa using h5
def agsB : List Str → Rw → Bool
  | [], [] => true
  | p :: ps, r :: rs => agB p r && agsB ps rs
  | _, _ => false
theorem agsB_ok : ∀ {ps : List Str} {rs : Rw}, agsB ps rs = true → Paired Ag ps rs
  | [], [], _ => .nil
  | p :: ps, r :: rs, h => by
    obtain ⟨h1, h2⟩ := Bool.and_eq_true_iff.mp (show (agB p r && agsB ps rs) = true from h)
    exact .cons (agB_ok h1) (agsB_ok h2)
  | [], _ :: _, h => by cases h
  | _ :: _, [], h => by cases h
def chkB (t : Tb) (r : Str × Rw) : Bool := match t.rows r.1 with
  | some ps => agsB ps r.2 && (decide ((PyData.tuple ((r.2.map (·.1)).map PyData.str)).shown.length ≤ 1000) && decide (r.2.length ≤ 1000))
  | none => false
theorem chk04 : lawTab.all (chkB tb04) = true := by decide +kernel
theorem hA04 : ∀ r ∈ lawTab, ∃ prows, tb04.rows r.1 = some prows ∧ Paired Ag prows r.2 ∧ (PyData.tuple ((r.2.map (·.1)).map PyData.str)).shown.length ≤ 1000 ∧ r.2.length ≤ 1000 := fun r hr => by
  have h := List.all_eq_true.mp chk04 r hr
  unfold chkB at h
  split at h
  · rename_i ps e
    simp only [Bool.and_eq_true, decide_eq_true_eq] at h
    exact ⟨ps, e, agsB_ok h.1, h.2.1, h.2.2⟩
  · cases h
theorem chk1 : (lawTab.map (·.1)).all (fun z => (strsOf z).all fun x => (tb04.rows x).isNone) = true := by decide +kernel
theorem chk2 : (lawTab.map (·.1)).all (fun z => (strsOf z).all fun x => shB (.str x)) = true := by decide +kernel
theorem chk3 : (lawTab.map (·.1)).all (fun z => decide ((Txt.lower z).length ≤ 1000)) = true := by decide +kernel
theorem chk4 : (lawTab.map (·.1)).all (fun z => decide (z.length ≤ 1000)) = true := by decide +kernel
theorem chk5 : (lawTab.map (·.1)).all (fun z => shB (.tuple [.str z])) = true := by decide +kernel
theorem chk6 : (lawTab.map (·.1)).all (fun z => shB (.list [.str z])) = true := by decide +kernel
theorem hT04 : ∀ r ∈ lawTab, zB tb04 r.1 = true := fun r hr => by
  have m : r.1 ∈ lawTab.map (·.1) := List.mem_map.mpr ⟨r, hr, rfl⟩
  unfold zB
  simp only [Bool.and_eq_true]
  refine ⟨⟨⟨⟨List.all_eq_true.mpr fun x hx => ?_, List.all_eq_true.mp chk4 _ m⟩, List.all_eq_true.mp chk3 _ m⟩, List.all_eq_true.mp chk5 _ m⟩, List.all_eq_true.mp chk6 _ m⟩
  rw [Bool.and_eq_true]
  exact ⟨List.all_eq_true.mp (List.all_eq_true.mp chk1 _ m) x hx, List.all_eq_true.mp (List.all_eq_true.mp chk2 _ m) x hx⟩
end K04

/-! ### the ends of the laws with Node: what the top has left -/
namespace Tq
open PySem L2 PySem.Spec PyProof.Rows
theorem kt_mk {K : PySem.W.Frag} {h : Heap} {mg : Str → Option Value} {TE : Addr} {q : Str} {N : Addr} {bs bm : List Value} {hd : Bool} {sn : List Str} {sub : List Value} {ab : Bool} {col : Option Bool} {dd : Option Addr}
    {k0 k1 k2 k3 k5 : Option Value} (X : K.In h) (G : h.Ns mainGlobals mg) (a : PySem.W.nsIn K mainGlobals "TreeError" = some (some (.ref TE)))
    (l : K.lookup TE = some (excClassObj "TreeError" q TE N bs bm hd sn sub ab col dd k0 k1 k2 k3 k5 "ValueError.__new__")) (t : PySem.W.typeIn K (.ref TE) = some (.type "type")) : Tq.KT K mg TE := by
  refine ⟨PySem.W.mg_of X G a, ?_, t, ⟨_, l, fun nm q' N' bs' bm' h' sn' sub' ab' col' dd' k0' k1' k2' k3' k5' e => ?_⟩⟩
  · unfold PySem.W.clsIn
    rw [l]
    rfl
  · have e2 := congrArg (·.data) e
    simp only [excClassObj] at e2
    injection e2 with e2
    injection e2 with e2
    exact e2.symm
/-- Node as the top has made it -/
structure NdF (si : Stmt) (K : PySem.W.Frag) (mg : Str → Option Value) (C : Addr) : Prop where
  g : mg "Node" = some (.ref C)
  nd : NdC K C
  ha : PySem.W.findIn K (.ref C) "__class__" = some (some (.builtin "object.__class__"))
  hn : PySem.W.specialIn K (.builtin "object.__class__") "__get__" = some (some (.builtin "getset_descriptor.__get__"))
  htk : PySem.W.takesIn K (.builtin "object.__class__") = some true
  hm : PySem.W.mroIn K C (.type "object") = some true
  kc : (PySem.W.clsIn K C).isSome = true
  ty : PySem.W.typeIn K (.ref C) = some (.type "type")
  ini : ∃ (f : Addr) (fd : FuncData), Mk K C f ∧ Fun K "__init__" "Node.__init__" si f fd
theorem ndf_mk {si : Stmt} {K : PySem.W.Frag} {h : Heap} {mg : Str → Option Value} {C f : Addr} {oc : Value} {od an : Option Addr} {osl : Array (Option Value)} {kV doc pm cdv ct : Value} (X : K.In h) (G : h.Ns mainGlobals mg) (a : PySem.W.nsIn K mainGlobals "Node" = some (some (.ref C)))
    (fa : PySem.W.findIn K (.ref C) "__init__" = some (some (.ref f)))
    (c1 : PySem.W.plainGet K C Str.empty = true) (c2 : PySem.W.hasDictIn K C = true) (c3 : PySem.W.plainOver K C = true) (c4 : PySem.W.findIn K (.ref C) "__setattr__" = some (some (.builtin "object.__setattr__")))
    (n0 : PySem.W.findIn K (.ref C) "kind" = some none) (n1 : PySem.W.findIn K (.ref C) "held" = some none) (n2 : PySem.W.findIn K (.ref C) "lineno" = some none) (n3 : PySem.W.findIn K (.ref C) "col_offset" = some none) (n4 : PySem.W.findIn K (.ref C) "end_lineno" = some none) (n5 : PySem.W.findIn K (.ref C) "end_col_offset" = some none)
    (ha : PySem.W.findIn K (.ref C) "__class__" = some (some (.builtin "object.__class__"))) (hn : PySem.W.specialIn K (.builtin "object.__class__") "__get__" = some (some (.builtin "getset_descriptor.__get__")))
    (htk : PySem.W.takesIn K (.builtin "object.__class__") = some true) (hm : PySem.W.mroIn K C (.type "object") = some true) (ty : PySem.W.typeIn K (.ref C) = some (.type "type"))
    (mk : PySem.W.makesIn K C = true) (fn : PySem.W.isFn K (.ref f) = true) (kp : PySem.W.keepIn K (.ref C) = true)
    (l : K.lookup f = some ⟨oc, od, .func (PySem.W.fnOf "__init__" "Node.__init__" (defArgs si) (defBody si) (defScope si) .none kV doc pm an cdv ct), osl⟩)
    (c : PySem.W.codeIn K cdv "Node.__init__" = true) (k : PySem.W.keepIn K (.ref f) = true) : NdF si K mg C := by
  refine ⟨PySem.W.mg_of X G a, ⟨⟨c1, c2, c3, c4⟩, fun x hx => ?_⟩, ha, hn, htk, hm, ?_, ty, ⟨f, _, ⟨mk, fa, fn, kp⟩, fun_mk l c k⟩⟩
  · simp only [List.mem_cons, List.not_mem_nil, or_false] at hx
    rcases hx with e | e | e | e | e | e <;> subst e <;> assumption
  · obtain ⟨cd, hc, _⟩ := PySem.W.any_some c2
    rw [hc]
    rfl
/-- a method of a class as the top has made it -/
structure MtF (K : PySem.W.Frag) (C : Addr) (x q : Str) (st : Stmt) : Prop where
  ex : ∃ (f : Addr) (fd : FuncData), PySem.W.findIn K (.ref C) x = some (some (.ref f)) ∧ PySem.W.fnIn K f = true ∧ PySem.W.isFn K (.ref f) = true ∧ Fun K x q st f fd
theorem mtf_mk {K : PySem.W.Frag} {C f : Addr} {x q : Str} {st : Stmt} {oc : Value} {od an : Option Addr} {osl : Array (Option Value)} {kV doc pm cdv ct : Value}
    (a : PySem.W.findIn K (.ref C) x = some (some (.ref f))) (fi : PySem.W.fnIn K f = true) (fn : PySem.W.isFn K (.ref f) = true)
    (l : K.lookup f = some ⟨oc, od, .func (PySem.W.fnOf x q (defArgs st) (defBody st) (defScope st) .none kV doc pm an cdv ct), osl⟩)
    (c : PySem.W.codeIn K cdv q = true) (k : PySem.W.keepIn K (.ref f) = true) : MtF K C x q st := ⟨f, _, a, fi, fn, fun_mk l c k⟩
theorem mth_of {P : Program} {w : World} {K : PySem.W.Frag} {mg : Str → Option Value} {base : Heap} {CX : CXT} {k : Nat} {C : Addr} {x q : Str} {st : Stmt} {sp : Sp} {ps : List Str}
    (F : MtF K C x q st) (hb : ∀ (kV doc pm : Value) (an : Option Addr) (cdv ct : Value) (us : List Value), us.length = ps.length →
      bindArgs (PySem.W.fnOf x q (defArgs st) (defBody st) (defScope st) .none kV doc pm an cdv ct) ⟨us, []⟩ = pure (ps.zip us))
    (ok : ∀ (f : Addr) (fd : FuncData), Fun K x q st f fd → FnG P w K mg base CX k f fd ps sp) : Mth P w K mg base CX k C x sp := by
  obtain ⟨f, fd, hm, hf, hn, F⟩ := F.ex
  exact ⟨f, fd, ps, hm, hf, hn, F.binds hb, ok f fd F⟩
end Tq

namespace K04
open PySem L2 Tq
def ksE_1 : List Str := ["FunctionDef", "AsyncFunctionDef", "ClassDef", "Return", "Delete", "Assign", "AugAssign", "AnnAssign", "For", "AsyncFor", "While", "If", "With", "AsyncWith", "Match", "Raise", "Assert", "Try", "Import", "ImportFrom", "Global", "Nonlocal", "Expr", "Pass", "Break", "Continue"]
def ksE_2 : List Str := ["BoolOp", "NamedExpr", "BinOp", "UnaryOp", "Lambda", "IfExp", "Dict", "Set", "ListComp", "SetComp", "DictComp", "GeneratorExp", "Await", "Yield", "YieldFrom", "Compare", "Call", "FormattedValue", "JoinedStr", "Constant", "Attribute", "Subscript", "Starred", "Name", "List", "Tuple", "Slice"]
def ksE_3 : List Str := ["MatchValue", "MatchSingleton", "MatchSequence", "MatchMapping", "MatchClass", "MatchStar", "MatchAs", "MatchOr"]
def ksE_4 : List Str := ["ExceptHandler", "arg", "keyword", "alias"]
def ksE_5 : List Str := ["Module", "Expression", "comprehension", "arguments", "withitem", "match_case"]
def ksE_6 : List Str := ["BOOLEAN", "OPERATOR", "UNARY", "COMPARISON", "CONTEXT"]
theorem allE {l : PySem.W.OpenLaw} {w : World} {K : PySem.W.Frag} {h : Heap} {mg : Str → Option Value} {fa TE CB CN fB C d1 d2 d3 d4 d5 d6 d7 : Addr} (X : K.In h) (G : h.Ns mainGlobals mg) (hfa : mg "law" = some (.ref fa))
    (n_int : PySem.W.nsIn K mainGlobals "int" = some none)
    (n_len : PySem.W.nsIn K mainGlobals "len" = some none)
    (n_list : PySem.W.nsIn K mainGlobals "list" = some none)
    (n_tuple : PySem.W.nsIn K mainGlobals "tuple" = some none)
    (n_repr : PySem.W.nsIn K mainGlobals "repr" = some none)
    (n_str : PySem.W.nsIn K mainGlobals "str" = some none)
    (n_any : PySem.W.nsIn K mainGlobals "any" = some none)
    (n_all : PySem.W.nsIn K mainGlobals "all" = some none)
    (n_sorted : PySem.W.nsIn K mainGlobals "sorted" = some none)
    (n_dict : PySem.W.nsIn K mainGlobals "dict" = some none)
    (n_zip : PySem.W.nsIn K mainGlobals "zip" = some none)
    (n_bool : PySem.W.nsIn K mainGlobals "bool" = some none)
    (n_range : PySem.W.nsIn K mainGlobals "range" = some none)
    (n_isinstance : PySem.W.nsIn K mainGlobals "isinstance" = some none)
    (te : Tq.KT K mg TE)
    (kb : Kl K mg "BadKind" CB TE)
    (kn : Kl K mg "BadNode" CN TE)
    {oclo dclo pmlo cdlo ctlo : Value} {odlo anlo : Option Addr} {sllo : Array (Option Value)}
    (lonoN : PySem.W.findIn K (.ref CB) "kind" = some none)
    (loi_a : PySem.W.findIn K (.ref CB) "__init__" = some (some (.ref fB)))
    (lot : PySem.W.typeIn K (.ref fB) = some (.type "function"))
    (lol : K.lookup fB = some ⟨oclo, odlo, .func (PySem.W.fnOf "__init__" "BadKind.__init__" (PySem.LowX.iA ⟨6, 17, 6, 21⟩ ⟨6, 23, 6, 27⟩) (PySem.LowX.iB ⟨7, 8, 7, 12⟩ ⟨7, 8, 7, 17⟩ ⟨7, 20, 7, 24⟩ ⟨7, 8, 7, 24⟩) PySem.LowX.iS .none .none dclo pmlo anlo cdlo ctlo), sllo⟩)
    (loc : PySem.W.codeIn K cdlo "BadKind.__init__" = true)
    (losC : PySem.W.subIn K (.ref CB) (.ref CB) = some true)
    (loiC : PySem.W.isClsIn K CB = true)
    (nd : NdF sNode___init__ K mg C)
    (mt__getitem__ : MtF K C "__getitem__" "Node.__getitem__" sNode___getitem__)
    (m1 : PySem.W.nsIn K mainGlobals "STATEMENTS" = some (some (.ref d1)))
    (t1a : He.dicW K d1 = some (He.keysIn w.params ksE_1))
    (t1b : stabB K d1 tb04.st = true)
    (m2 : PySem.W.nsIn K mainGlobals "EXPRESSIONS" = some (some (.ref d2)))
    (t2a : He.dicW K d2 = some (He.keysIn w.params ksE_2))
    (t2b : stabB K d2 tb04.ex = true)
    (m3 : PySem.W.nsIn K mainGlobals "PATTERNS" = some (some (.ref d3)))
    (t3a : He.dicW K d3 = some (He.keysIn w.params ksE_3))
    (t3b : stabB K d3 tb04.pa = true)
    (m4 : PySem.W.nsIn K mainGlobals "PARTS" = some (some (.ref d4)))
    (t4a : He.dicW K d4 = some (He.keysIn w.params ksE_4))
    (t4b : stabB K d4 tb04.pr = true)
    (m5 : PySem.W.nsIn K mainGlobals "PLACELESS" = some (some (.ref d5)))
    (t5a : He.dicW K d5 = some (He.keysIn w.params ksE_5))
    (t5b : stabB K d5 tb04.pl = true)
    (m6 : PySem.W.nsIn K mainGlobals "GROUPS" = some (some (.ref d6)))
    (t6a : He.dicW K d6 = some (He.keysIn w.params ksE_6))
    (t6b : stabB K d6 tb04.gr = true)
    (m7 : PySem.W.nsIn K mainGlobals "PLACE" = some (some (.ref d7)))
    (t7 : ktxB K d7 places = true)
    (ftable_of : Fn1 K mg "table_of" stable_of)
    (fsplit_fields : Fn1 K mg "split_fields" ssplit_fields)
    (ffields_of : Fn1 K mg "fields_of" sfields_of)
    (fstart_value : Fn1 K mg "start_value" sstart_value)
    (fchecked_node : Fn1 K mg "checked_node" schecked_node)
    (fplace_of : Fn1 K mg "place_of" splace_of)
    (fset_place : Fn1 K mg "set_place" sset_place)
    (fjoined_place : Fn1 K mg "joined_place" sjoined_place)
    (fcopy_location : Fn1 K mg "copy_location" scopy_location)
    (f_law_draw : Fn1 K mg "_law_draw" s_law_draw)
    (f_law_mixed : Fn1 K mg "_law_mixed" s_law_mixed)
    (f_law_pick : Fn1 K mg "_law_pick" s_law_pick)
    (f_law_statements : Fn1 K mg "_law_statements" s_law_statements)
    (f_law_expressions : Fn1 K mg "_law_expressions" s_law_expressions)
    (f_law_patterns : Fn1 K mg "_law_patterns" s_law_patterns)
    (f_law_parts : Fn1 K mg "_law_parts" s_law_parts)
    (f_law_signs_of : Fn1 K mg "_law_signs_of" s_law_signs_of)
    (f_law_table : Fn1 K mg "_law_table" s_law_table)
    (f_law_is_start : Fn1 K mg "_law_is_start" s_law_is_start)
    (f_law_fresh_right : Fn1 K mg "_law_fresh_right" s_law_fresh_right)
    (f_law_tried : Fn1 K mg "_law_tried" s_law_tried)
    (f_law_other : Fn1 K mg "_law_other" s_law_other)
    (flaw : Fn1 K mg "law" slaw)
    : ∃ fd : FuncData, (∀ (s : Shared) (u : Value), BindsTo s fd ⟨[u], []⟩ [("_law_script", u)]) ∧ ∀ base : Heap, K.In base → base.Ns mainGlobals mg → FnG l.prog w K mg base CX0 10 fa fd ["_law_script"] (spLaw K) := by
  have tx : Txt mg := ⟨PySem.W.mg_none_of X G n_int, PySem.W.mg_none_of X G n_len, PySem.W.mg_none_of X G n_list, PySem.W.mg_none_of X G n_tuple, PySem.W.mg_none_of X G n_repr, PySem.W.mg_none_of X G n_str, PySem.W.mg_none_of X G n_any, PySem.W.mg_none_of X G n_all, PySem.W.mg_none_of X G n_sorted, PySem.W.mg_none_of X G n_dict, PySem.W.mg_none_of X G n_zip, PySem.W.mg_none_of X G n_bool, PySem.W.mg_none_of X G n_range, PySem.W.mg_none_of X G n_isinstance⟩
  have D : Kd K w mg tb04 d1 d2 d3 d4 d5 d6 d7 := ⟨PySem.W.mg_of X G m1, PySem.W.mg_of X G m2, PySem.W.mg_of X G m3, PySem.W.mg_of X G m4, PySem.W.mg_of X G m5, PySem.W.mg_of X G m6, PySem.W.mg_of X G m7, stab_of t1a t1b, stab_of t2a t2b, stab_of t3a t3b, stab_of t4a t4b, stab_of t5a t5b, stab_of t6a t6b, ktxB_ok t7, tb04_ok⟩
  have lo : PySem.LowX.LowTxt K mg CB fB := by
    obtain ⟨qq, NN, bb, sn, sub, ab, col, dd, k0, k1, k2, k3, k5, ll⟩ := kb.lk
    exact { gC := kb.g, cls := ⟨_, qq, NN, bb, _, sn, sub, ab, col, dd, k0, k1, k2, k3, k5, ll, rfl⟩, sa := kb.sa, ga := kb.ec.hg, gg := kb.ec.hk, noN := lonoN, iC := loi_a, tC := lot, kC := kb.kp, exC := kb.ec.hs, tyC := kb.ty, hdC := kb.ec.hd, te := exm_self kb.ec.hs loiC kb.ty losC,
            fn := ⟨_, _, _, _, _, _, _, _, _, _, _, _, _, _, lol, loc⟩ }
  obtain ⟨f, fd, hm, F⟩ := flaw.ex
  have e := hfa.symm.trans hm
  cases e
  refine ⟨fd, fun s u => ?_, fun base _ _ => ?_⟩
  · obtain ⟨oc, od, kV, doc, pm, an, cdv, ct, osl, rfl, lk, hcd⟩ := F.ex
    exact .of_eq rfl
  · obtain ⟨fI, fdI, mk, FI⟩ := nd.ini
    have Dt : Df l.prog w K mg base CX0 1 "table_of" (spTable K tb04) := df_of (ps := ["kind"]) ftable_of (fun _ _ _ _ _ _ us hl => match us, hl with | [_], _ => rfl) fun f fd F => ok_table F tx D
    have Dsp : Df l.prog w K mg base CX0 2 "split_fields" (spSplit tb04) := df_of (ps := ["kind"]) fsplit_fields (fun _ _ _ _ _ _ us hl => match us, hl with | [_], _ => rfl) fun f fd F => ok_split F tx D.ok Dt
    have Dfi : Df l.prog w K mg base CX0 3 "fields_of" (spFields tb04) := df_of (ps := ["kind"]) ffields_of (fun _ _ _ _ _ _ us hl => match us, hl with | [_], _ => rfl) fun f fd F => ok_fields F tx D.ok Dt Dsp
    have Ds0 : Df l.prog w K mg base CX0 3 "start_value" (spStart C false) := df_of (ps := ["name", "held"]) fstart_value (fun _ _ _ _ _ _ us hl => match us, hl with | [_, _], _ => rfl) fun f fd F => ⟨fun vs H Q E h => absurd h.1 (fun e => nomatch e), fun A o s H a us vs Q E _ _ _ _ _ h => absurd h.1 (fun e => nomatch e)⟩
    have N0 : Nd l.prog w K mg base CX0 4 "Node" C "self" "kind" (spInit tb04 C false) := ⟨⟨fI, mk, ok_init FI tx D nd.nd false 3 (Nat.le_refl _) Dfi Dsp Ds0⟩, nd.g⟩
    have Ds1 : Df l.prog w K mg base CX0 6 "start_value" (spStart C true) := df_of (ps := ["name", "held"]) fstart_value (fun _ _ _ _ _ _ us hl => match us, hl with | [_, _], _ => rfl) fun f fd F => ok_start F tx D.ok N0
    have N1 : Nd l.prog w K mg base CX0 7 "Node" C "self" "kind" (spInit tb04 C true) := ⟨⟨fI, mk, ok_init FI tx D nd.nd true 6 (by decide) Dfi Dsp Ds1⟩, nd.g⟩
    have U : NdI K mg C := ⟨nd.nd, nd.g, nd.ha, nd.hn, nd.htk, nd.hm⟩
    have DfX : Df l.prog w K mg base (L2.CX l.prog w) 3 "fields_of" (spBad K tb04 CB) := df_of (ps := ["kind"]) ffields_of (fun _ _ _ _ _ _ us hl => match us, hl with | [_], _ => rfl) fun f fd F => ok_fieldsX F lo Dt
    have NX : Nd l.prog w K mg base (L2.CX l.prog w) 4 "Node" C "self" "kind" (spBadI K tb04 CB) := ⟨⟨fI, mk, ok_initX FI DfX⟩, nd.g⟩
    have Mg : Mth l.prog w K mg base CX0 1 C "__getitem__" (spGet C) := mth_of (ps := ["self", "name"]) mt__getitem__ (fun _ _ _ _ _ _ us hl => match us, hl with | [_, _], _ => rfl) fun f fd F => ok_get F tx nd.nd
    have Dch : Df l.prog w K mg base CX0 1 "checked_node" (spChk0 C) := df_of (ps := ["thing"]) fchecked_node (fun _ _ _ _ _ _ us hl => match us, hl with | [_], _ => rfl) fun f fd F => ok_chk F tx U
    have Dpo : Df l.prog w K mg base CX0 1 "place_of" (spPlaceOf4 C) := df_of (ps := ["node"]) fplace_of (fun _ _ _ _ _ _ us hl => match us, hl with | [_], _ => rfl) fun f fd F => ok_placeof F nd.nd
    have Dse : Df l.prog w K mg base CX0 1 "set_place" (spSetPlace C) := df_of (ps := ["node", "place"]) fset_place (fun _ _ _ _ _ _ us hl => match us, hl with | [_, _], _ => rfl) fun f fd F => ok_setplace F nd.nd
    have Djo : Df l.prog w K mg base CX0 1 "joined_place" spJoin := df_of (ps := ["place", "other"]) fjoined_place (fun _ _ _ _ _ _ us hl => match us, hl with | [_, _], _ => rfl) fun f fd F => ok_join F tx
    have Dco : Df l.prog w K mg base CX0 2 "copy_location" (spCopyLoc C) := df_of (ps := ["new", "old"]) fcopy_location (fun _ _ _ _ _ _ us hl => match us, hl with | [_, _], _ => rfl) fun f fd F => ok_copyloc F tx Dch Dpo Dse Djo
    have Ddr : Df l.prog w K mg base CX0 1 "_law_draw" spDraw := df_of (ps := ["_law_stream", "_law_many"]) f_law_draw (fun _ _ _ _ _ _ us hl => match us, hl with | [_, _], _ => rfl) fun f fd F => ok_draw F tx
    have Dmi : Df l.prog w K mg base CX0 2 "_law_mixed" (spMix K) := df_of (ps := ["_law_stream", "_law_some"]) f_law_mixed (fun _ _ _ _ _ _ us hl => match us, hl with | [_, _], _ => rfl) fun f fd F => ok_mixed F tx Ddr
    have Dpi : Df l.prog w K mg base CX0 2 "_law_pick" (spPick K) := df_of (ps := ["_law_stream", "_law_some"]) f_law_pick (fun _ _ _ _ _ _ us hl => match us, hl with | [_, _], _ => rfl) fun f fd F => ok_pick F tx Ddr
    have D1 : Df l.prog w K mg base CX0 1 "_law_statements" (spDict staT) := df_of (ps := []) f_law_statements (fun _ _ _ _ _ _ us hl => match us, hl with | [], _ => rfl) fun f fd F => ok_sta F tx
    have D2 : Df l.prog w K mg base CX0 1 "_law_expressions" (spDict expT) := df_of (ps := []) f_law_expressions (fun _ _ _ _ _ _ us hl => match us, hl with | [], _ => rfl) fun f fd F => ok_exp F tx
    have D3 : Df l.prog w K mg base CX0 1 "_law_patterns" (spDict patT) := df_of (ps := []) f_law_patterns (fun _ _ _ _ _ _ us hl => match us, hl with | [], _ => rfl) fun f fd F => ok_pat F tx
    have D4 : Df l.prog w K mg base CX0 1 "_law_parts" (spDict parT) := df_of (ps := []) f_law_parts (fun _ _ _ _ _ _ us hl => match us, hl with | [], _ => rfl) fun f fd F => ok_par F tx
    have D5 : Df l.prog w K mg base CX0 1 "_law_signs_of" spSign := df_of (ps := ["_law_word"]) f_law_signs_of (fun _ _ _ _ _ _ us hl => match us, hl with | [_], _ => rfl) fun f fd F => ok_sig F tx
    have Dta : Df l.prog w K mg base CX0 2 "_law_table" spTab4 := df_of (ps := []) f_law_table (fun _ _ _ _ _ _ us hl => match us, hl with | [], _ => rfl) fun f fd F => ok_table4 F tx D1 D2 D3 D4 D5
    have Dis : Df l.prog w K mg base CX0 1 "_law_is_start" (spIsSt C) := df_of (ps := ["_law_value", "_law_name", "_law_held"]) f_law_is_start (fun _ _ _ _ _ _ us hl => match us, hl with | [_, _, _], _ => rfl) fun f fd F => ok_isst F tx U
    have Dfr : Df l.prog w K mg base CX0 9 "_law_fresh_right" (spFresh tb04) := df_of (ps := ["_law_kind", "_law_rows"]) f_law_fresh_right (fun _ _ _ _ _ _ us hl => match us, hl with | [_, _], _ => rfl) fun f fd F => ok_fresh F tx U D.ok tb04_name N1 Mg Dis Dco
    have Dtr : Df l.prog w K mg base CX0 6 "_law_tried" (spTried4 K tb04) := df_of (ps := ["_law_way", "_law_thing"]) f_law_tried (fun _ _ _ _ _ _ us hl => match us, hl with | [_, _], _ => rfl) fun f fd F => ok_tried4 F tx lo kb kn te NX DfX
    have Dot : Df l.prog w K mg base CX0 3 "_law_other" (spOther K tb04) := df_of (ps := ["_law_stream", "_law_kinds"]) f_law_other (fun _ _ _ _ _ _ us hl => match us, hl with | [_, _], _ => rfl) fun f fd F => ok_other F tx Dpi
    exact ok_law F tx Dta Dmi Dfi Dfr Dot Dtr hT04 hA04
end K04
open PySem PySem.W PyProof.Rows
set_option pp.maxSteps 200
set_option pp.deepTerms false
set_option maxRecDepth 100000 in
set_option maxHeartbeats 0 in
theorem PySem.Challenge.cw_treequill_k04_fields_of_kinds_holds : PySem.Challenge.rw_treequill_k04_fields_of_kinds.Holds := by
  w_on; o_law; k_head; (case hw => w_witness2)
  k_fill
  refine Tq.walkG (l := PySem.Challenge.rw_treequill_k04_fields_of_kinds) (n := 63) (k := 10) (x := "_law_script") (CX := fun _ => L2.CX0) (sp := K04.spLaw) rfl (by decide) rfl ⟨rfl, by decide, by decide⟩ (fun w h Y => PySem.W.kIn_of Y) ?F
    (fun K H a ns hl _ hS => ⟨a, ns, rfl, hS, hl, fun _ => rfl⟩) (fun _ _ _ _ _ z => z)
  case F =>
    intro w mg fa h KX G hmg
    refine' K04.allE KX G hmg ?n_int ?n_len ?n_list ?n_tuple ?n_repr ?n_str ?n_any ?n_all ?n_sorted ?n_dict ?n_zip ?n_bool ?n_range ?n_isinstance (Tq.kt_mk KX G ?te_a ?te_l ?te_t) (Tq.kl_mk KX G ?kb_a ?kb_l ?kb_h1 ?kb_h2 ?kb_h3 ?kb_h4 ?kb_h5 ?kb_h6 ?kb_h7 ?kb_h8 ?kb_sa ?kb_ty ?kb_kp) (Tq.kl_mk KX G ?kn_a ?kn_l ?kn_h1 ?kn_h2 ?kn_h3 ?kn_h4 ?kn_h5 ?kn_h6 ?kn_h7 ?kn_h8 ?kn_sa ?kn_ty ?kn_kp) ?lo_noN ?lo_i_a ?lo_t ?lo_l ?lo_c ?lo_sC ?lo_iC (Tq.ndf_mk KX G ?nd_a ?nd_i_a ?nd_c1 ?nd_c2 ?nd_c3 ?nd_c4 ?nd_n0 ?nd_n1 ?nd_n2 ?nd_n3 ?nd_n4 ?nd_n5 ?nd_ha ?nd_hn ?nd_htk ?nd_hm ?nd_ty ?nd_mk ?nd_fn ?nd_kp ?nd_l ?nd_c ?nd_k) (Tq.mtf_mk ?mt__getitem___a ?mt__getitem___fi ?mt__getitem___fn ?mt__getitem___l ?mt__getitem___c ?mt__getitem___k) ?m1_a ?t1a ?t1b ?m2_a ?t2a ?t2b ?m3_a ?t3a ?t3b ?m4_a ?t4a ?t4b ?m5_a ?t5a ?t5b ?m6_a ?t6a ?t6b ?m7_a ?t7 (Tq.fn1 KX G ?ftable_of_a ?ftable_of_l ?ftable_of_c ?ftable_of_k) (Tq.fn1 KX G ?fsplit_fields_a ?fsplit_fields_l ?fsplit_fields_c ?fsplit_fields_k) (Tq.fn1 KX G ?ffields_of_a ?ffields_of_l ?ffields_of_c ?ffields_of_k) (Tq.fn1 KX G ?fstart_value_a ?fstart_value_l ?fstart_value_c ?fstart_value_k) (Tq.fn1 KX G ?fchecked_node_a ?fchecked_node_l ?fchecked_node_c ?fchecked_node_k) (Tq.fn1 KX G ?fplace_of_a ?fplace_of_l ?fplace_of_c ?fplace_of_k) (Tq.fn1 KX G ?fset_place_a ?fset_place_l ?fset_place_c ?fset_place_k) (Tq.fn1 KX G ?fjoined_place_a ?fjoined_place_l ?fjoined_place_c ?fjoined_place_k) (Tq.fn1 KX G ?fcopy_location_a ?fcopy_location_l ?fcopy_location_c ?fcopy_location_k) (Tq.fn1 KX G ?f_law_draw_a ?f_law_draw_l ?f_law_draw_c ?f_law_draw_k) (Tq.fn1 KX G ?f_law_mixed_a ?f_law_mixed_l ?f_law_mixed_c ?f_law_mixed_k) (Tq.fn1 KX G ?f_law_pick_a ?f_law_pick_l ?f_law_pick_c ?f_law_pick_k) (Tq.fn1 KX G ?f_law_statements_a ?f_law_statements_l ?f_law_statements_c ?f_law_statements_k) (Tq.fn1 KX G ?f_law_expressions_a ?f_law_expressions_l ?f_law_expressions_c ?f_law_expressions_k) (Tq.fn1 KX G ?f_law_patterns_a ?f_law_patterns_l ?f_law_patterns_c ?f_law_patterns_k) (Tq.fn1 KX G ?f_law_parts_a ?f_law_parts_l ?f_law_parts_c ?f_law_parts_k) (Tq.fn1 KX G ?f_law_signs_of_a ?f_law_signs_of_l ?f_law_signs_of_c ?f_law_signs_of_k) (Tq.fn1 KX G ?f_law_table_a ?f_law_table_l ?f_law_table_c ?f_law_table_k) (Tq.fn1 KX G ?f_law_is_start_a ?f_law_is_start_l ?f_law_is_start_c ?f_law_is_start_k) (Tq.fn1 KX G ?f_law_fresh_right_a ?f_law_fresh_right_l ?f_law_fresh_right_c ?f_law_fresh_right_k) (Tq.fn1 KX G ?f_law_tried_a ?f_law_tried_l ?f_law_tried_c ?f_law_tried_k) (Tq.fn1 KX G ?f_law_other_a ?f_law_other_l ?f_law_other_c ?f_law_other_k) (Tq.fn1 KX G ?flaw_a ?flaw_l ?flaw_c ?flaw_k)
    (case te_a => k_is)
    (case kb_a => k_is)
    (case kn_a => k_is)
    (case lo_i_a => k_is)
    (case nd_a => k_is)
    (case nd_i_a => k_is)
    (case mt__getitem___a => k_is)
    (case m1_a => k_is)
    (case m2_a => k_is)
    (case m3_a => k_is)
    (case m4_a => k_is)
    (case m5_a => k_is)
    (case m6_a => k_is)
    (case m7_a => k_is)
    (case ftable_of_a => k_is)
    (case fsplit_fields_a => k_is)
    (case ffields_of_a => k_is)
    (case fstart_value_a => k_is)
    (case fchecked_node_a => k_is)
    (case fplace_of_a => k_is)
    (case fset_place_a => k_is)
    (case fjoined_place_a => k_is)
    (case fcopy_location_a => k_is)
    (case f_law_draw_a => k_is)
    (case f_law_mixed_a => k_is)
    (case f_law_pick_a => k_is)
    (case f_law_statements_a => k_is)
    (case f_law_expressions_a => k_is)
    (case f_law_patterns_a => k_is)
    (case f_law_parts_a => k_is)
    (case f_law_signs_of_a => k_is)
    (case f_law_table_a => k_is)
    (case f_law_is_start_a => k_is)
    (case f_law_fresh_right_a => k_is)
    (case f_law_tried_a => k_is)
    (case f_law_other_a => k_is)
    (case flaw_a => k_is)
    (case n_int => k_is)
    (case n_len => k_is)
    (case n_list => k_is)
    (case n_tuple => k_is)
    (case n_repr => k_is)
    (case n_str => k_is)
    (case n_any => k_is)
    (case n_all => k_is)
    (case n_sorted => k_is)
    (case n_dict => k_is)
    (case n_zip => k_is)
    (case n_bool => k_is)
    (case n_range => k_is)
    (case n_isinstance => k_is)
    (case te_l => k_is)
    (case te_t => k_is)
    (case kb_l => k_is)
    (case kb_h1 => k_is)
    (case kb_h2 => k_is)
    (case kb_h3 => k_is)
    (case kb_h4 => k_is)
    (case kb_h5 => k_is)
    (case kb_h6 => k_is)
    (case kb_h7 => k_is)
    (case kb_h8 => k_is)
    (case kb_sa => k_is)
    (case kb_ty => k_is)
    (case kb_kp => k_is)
    (case kn_l => k_is)
    (case kn_h1 => k_is)
    (case kn_h2 => k_is)
    (case kn_h3 => k_is)
    (case kn_h4 => k_is)
    (case kn_h5 => k_is)
    (case kn_h6 => k_is)
    (case kn_h7 => k_is)
    (case kn_h8 => k_is)
    (case kn_sa => k_is)
    (case kn_ty => k_is)
    (case kn_kp => k_is)
    (case lo_noN => k_is)
    (case lo_t => k_is)
    (case lo_l => k_is)
    (case lo_c => k_is)
    (case lo_sC => k_is)
    (case lo_iC => k_is)
    (case nd_c1 => k_is)
    (case nd_c2 => k_is)
    (case nd_c3 => k_is)
    (case nd_c4 => k_is)
    (case nd_n0 => k_is)
    (case nd_n1 => k_is)
    (case nd_n2 => k_is)
    (case nd_n3 => k_is)
    (case nd_n4 => k_is)
    (case nd_n5 => k_is)
    (case nd_ha => k_is)
    (case nd_hn => k_is)
    (case nd_htk => k_is)
    (case nd_hm => k_is)
    (case nd_ty => k_is)
    (case nd_mk => k_is)
    (case nd_fn => k_is)
    (case nd_kp => k_is)
    (case nd_l => k_is)
    (case nd_c => k_is)
    (case nd_k => k_is)
    (case mt__getitem___fi => k_is)
    (case mt__getitem___fn => k_is)
    (case mt__getitem___l => k_is)
    (case mt__getitem___c => k_is)
    (case mt__getitem___k => k_is)
    (case ftable_of_l => k_is)
    (case ftable_of_c => k_is)
    (case ftable_of_k => k_is)
    (case fsplit_fields_l => k_is)
    (case fsplit_fields_c => k_is)
    (case fsplit_fields_k => k_is)
    (case ffields_of_l => k_is)
    (case ffields_of_c => k_is)
    (case ffields_of_k => k_is)
    (case fstart_value_l => k_is)
    (case fstart_value_c => k_is)
    (case fstart_value_k => k_is)
    (case fchecked_node_l => k_is)
    (case fchecked_node_c => k_is)
    (case fchecked_node_k => k_is)
    (case fplace_of_l => k_is)
    (case fplace_of_c => k_is)
    (case fplace_of_k => k_is)
    (case fset_place_l => k_is)
    (case fset_place_c => k_is)
    (case fset_place_k => k_is)
    (case fjoined_place_l => k_is)
    (case fjoined_place_c => k_is)
    (case fjoined_place_k => k_is)
    (case fcopy_location_l => k_is)
    (case fcopy_location_c => k_is)
    (case fcopy_location_k => k_is)
    (case f_law_draw_l => k_is)
    (case f_law_draw_c => k_is)
    (case f_law_draw_k => k_is)
    (case f_law_mixed_l => k_is)
    (case f_law_mixed_c => k_is)
    (case f_law_mixed_k => k_is)
    (case f_law_pick_l => k_is)
    (case f_law_pick_c => k_is)
    (case f_law_pick_k => k_is)
    (case f_law_statements_l => k_is)
    (case f_law_statements_c => k_is)
    (case f_law_statements_k => k_is)
    (case f_law_expressions_l => k_is)
    (case f_law_expressions_c => k_is)
    (case f_law_expressions_k => k_is)
    (case f_law_patterns_l => k_is)
    (case f_law_patterns_c => k_is)
    (case f_law_patterns_k => k_is)
    (case f_law_parts_l => k_is)
    (case f_law_parts_c => k_is)
    (case f_law_parts_k => k_is)
    (case f_law_signs_of_l => k_is)
    (case f_law_signs_of_c => k_is)
    (case f_law_signs_of_k => k_is)
    (case f_law_table_l => k_is)
    (case f_law_table_c => k_is)
    (case f_law_table_k => k_is)
    (case f_law_is_start_l => k_is)
    (case f_law_is_start_c => k_is)
    (case f_law_is_start_k => k_is)
    (case f_law_fresh_right_l => k_is)
    (case f_law_fresh_right_c => k_is)
    (case f_law_fresh_right_k => k_is)
    (case f_law_tried_l => k_is)
    (case f_law_tried_c => k_is)
    (case f_law_tried_k => k_is)
    (case f_law_other_l => k_is)
    (case f_law_other_c => k_is)
    (case f_law_other_k => k_is)
    (case flaw_l => k_is)
    (case flaw_c => k_is)
    (case flaw_k => k_is)
    (case t1a => first | rfl | k_is)
    (case t1b => first | rfl | k_is)
    (case t2a => first | rfl | k_is)
    (case t2b => first | rfl | k_is)
    (case t3a => first | rfl | k_is)
    (case t3b => first | rfl | k_is)
    (case t4a => first | rfl | k_is)
    (case t4b => first | rfl | k_is)
    (case t5a => first | rfl | k_is)
    (case t5b => first | rfl | k_is)
    (case t6a => first | rfl | k_is)
    (case t6b => first | rfl | k_is)
    (case t7 => first | rfl | k_is)