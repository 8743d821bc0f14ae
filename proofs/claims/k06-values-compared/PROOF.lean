import PyProof.Rows.All
import Wide.All
import OpenK.AllK
import Wide.FinOn
import HandS.ForMost
import HandS.ForExc
import HandS.Flow
import HandS.IsInst
import PyProof.ReprRoads
import HandS.OwnEq
import HandS.ExcIs
import HandS.Zip
import HandS.Walk
import PyProof.NeKinds
import PySem.Challenge.RW_treequill_k06_values_compared
set_option Elab.async false
set_option linter.all false
set_option maxRecDepth 100000
set_option maxHeartbeats 4000000
/-! ### Tq: a def's promise where no repr runs around it (the guards are known to be none), and the end of a law by it -/
namespace Tq
open PySem L2 PySem.Spec PyProof.Rows
abbrev Quiet (A : Around) : Prop := A.guards = some []
/-- as FnOk, asked only where no repr is running -/
structure FnG (P : Program) (w : World) (K : PySem.W.Frag) (mg : Str → Option Value) (base : Heap) (CX : CXT) (k : Nat) (f : Addr)
    (fd : FuncData) (ps : List Str) (sp : Sp) : Prop where
  len : ∀ vs H Q E, sp vs H Q E → vs.length = ps.length
  run : ∀ (A : Around) (outer : List Env) (s : Shared) (H : Hp) (args : Args) (us : List Value) (vs : List V) (Q : VK) (E : XK),
    Quiet A → Room k A → Env0 P w K mg base A outer s H → BindsTo s fd args (ps.zip us) → Vals vs us → sp vs H Q E →
    codeAny (model P w) A (.call (.ref f) args) (CR CX outer P w H s Q E) s
section
variable {P : Program} {w : World} {K : PySem.W.Frag} {mg : Str → Option Value} {base : Heap} {CX : CXT} {j k : Nat} {f : Addr}
  {fd : FuncData} {N ps : List Str} {sp sp' : Sp}
theorem FnG.of (F : FnOk P w K mg base CX k f fd ps sp) : FnG P w K mg base CX k f fd ps sp :=
  ⟨F.len, fun A o s H a us vs Q E _ => F.run A o s H a us vs Q E⟩
theorem FnG.up (F : FnG P w K mg base CX j f fd ps sp) (h : j ≤ k) : FnG P w K mg base CX k f fd ps sp :=
  ⟨F.len, fun A o s H a us vs Q E g hr => F.run A o s H a us vs Q E g (hr.mono h)⟩
theorem FnG.imp (F : FnG P w K mg base CX k f fd ps sp) (h : ∀ vs H Q E, sp' vs H Q E → sp vs H Q E) : FnG P w K mg base CX k f fd ps sp' :=
  ⟨fun vs H Q E q => F.len vs H Q E (h _ _ _ _ q), fun A o s H a us vs Q E g hr e b v q => F.run A o s H a us vs Q E g hr e b v (h _ _ _ _ q)⟩
/-- a def by its body, where no repr runs -/
theorem okG {x qual : Str} {st : Stmt} (F : Fun K x qual st f fd) (S : FnScope N ps (defScope st)) (len : ∀ vs H Q E, sp vs H Q E → vs.length = ps.length)
    (body : ∀ (cdv : Value) (A : Around) (outer : List Env) (s : Shared) (H : Hp) (vs : List V) (Q : VK) (E : XK),
      Quiet (A.deeper (envOfC qual (defScope st) s.heap.objs.size f cdv)) → Room k (A.deeper (envOfC qual (defScope st) s.heap.objs.size f cdv)) → sp vs H Q E →
      ∃ t, PSs (cxOf CX P w K mg base N qual (defScope st) f cdv A outer s H E) (defBody st) t ∧
        t { nx := fun _ H' => Q .non H', rt := Q } (start N vs) H) : FnG P w K mg base CX (k + 1) f fd ps sp := by
  obtain ⟨oc, od, kV, doc, pm, an, cdv, ct, osl, rfl, lk, hcd⟩ := F.ex
  refine ⟨len, fun A outer s H args us vs Q E hq hr e0 hb r hsp => ?_⟩
  have hlen := len _ _ _ _ hsp
  have keepB : ∀ b o, base.get? b = some o → s.heap.get? b = some o := fun b o e => (e0.bs b o e).1
  have KX : K.In s.heap := e0.mod.kin.keeps keepB
  have noLim : s.heap.NoLimit := e0.mod.nolimit.keeps keepB
  have kinds : ∀ y ∈ ps.zip us, (defScope st).names.lookup y.1 = some .local ∨
      ((defScope st).names.lookup y.1 = some .cell ∧ ((cellsFrom (s.heap.objs.size + 1) (defScope st).names []).lookup y.1).isSome = true) := by
    rintro ⟨n, v⟩ hy
    rcases S.par n (List.of_mem_zip hy).1 with q | q
    · exact Or.inl q
    · exact Or.inr ⟨q, PySem.W.cellsFrom_some _ _ _ (Or.inl q)⟩
  refine codeAny_call_function hr.depth (KX _ _ lk) rfl S.co S.gen rfl (PySem.W.codeRec_of KX hcd) (hb _ _ _ _ ?_)
  refine wpAny_newFunctionEnv_cells S.kind kinds fun env he s1 x => ?_
  subst he
  refine ⟨noLim.keeps x.toInCall.keep, codeAny_func ?_⟩
  obtain ⟨t, ht, hq2⟩ := body cdv A outer s H vs Q E hq (hr.deeper _) hsp
  have I : Inv (cxOf CX P w K mg base N qual (defScope st) f cdv A outer s H E) [] (start N vs) H s1 := inv_start S hr.hd e0 hlen r x
  refine wpAny_mono (ht.run [] s1 (start N vs) H _ I hq2) (fun fl s' hs => ?_) fun e s' hs => hs
  cases fl with
  | ret u =>
    obtain ⟨v, σ', H', J, rv, q⟩ := hs
    exact ⟨v, H', J.os, J.bare, J.base, J.hok, rv, q⟩
  | next =>
    obtain ⟨σ', H', J, q⟩ := hs
    exact ⟨V.non, H', J.os, J.bare, J.base, J.hok, (rfl : Value.none = Value.none), q⟩
  | brk =>
    obtain ⟨_, _, _, q⟩ := hs
    exact q.elim
  | cont =>
    obtain ⟨_, _, _, q⟩ := hs
    exact q.elim
end
section
variable {P : Program} {w : World} {K : PySem.W.Frag} {mg : Str → Option Value} {base : Heap} {k : Nat} {f : Addr} {fd : FuncData} {N ps : List Str} {sp : Sp}
/-- a def that lets no error out -/
theorem okG0 {x qual : Str} {st : Stmt} (F : Fun K x qual st f fd) (S : FnScope N ps (defScope st)) (len : ∀ vs H Q E, sp vs H Q E → vs.length = ps.length)
    (body : ∀ (cdv : Value) (A : Around) (outer : List Env) (s : Shared) (H : Hp) (vs : List V) (Q : VK) (E : XK),
      Quiet (A.deeper (envOfC qual (defScope st) s.heap.objs.size f cdv)) → Room k (A.deeper (envOfC qual (defScope st) s.heap.objs.size f cdv)) → sp vs H Q E →
      ∃ t, PSs (cxOf CX0 P w K mg base N qual (defScope st) f cdv A outer s H E).nox (defBody st) t ∧
        t { nx := fun _ H' => Q .non H', rt := Q } (start N vs) H) : FnG P w K mg base CX0 (k + 1) f fd ps sp :=
  okG F S len fun cdv A outer s H vs Q E hq hr h => let ⟨t, h1, h2⟩ := body cdv A outer s H vs Q E hq hr h; ⟨t, h1.nox, h2⟩
end
/-- a def of the top by its name, packed -/
structure Df (P : Program) (w : World) (K : PySem.W.Frag) (mg : Str → Option Value) (base : Heap) (CX : CXT) (k : Nat) (x : Str) (sp : Sp) : Prop where
  ex : ∃ (f : Addr) (fd : FuncData) (ps : List Str), mg x = some (.ref f) ∧ PySem.W.keepIn K (.ref f) = true ∧ Binds K fd ps [] ∧ FnG P w K mg base CX k f fd ps sp
section
variable {X : Cx} {CX : CXT} {j k : Nat} {sp : Sp} {E : XK} {x : Str} {p pos : Pos} {e : Expr} {es : List Expr} {t : TA}
theorem run_df {pins : List (Addr × Obj)} {σ : L2.St} {H : Hp} {s : Shared} {Q : VK} {us : List Value} {vs : List V} {f : Addr} {fd : FuncData} {ps : List Str}
    (F : FnG X.prog X.w X.K X.mg X.base CX k f fd ps sp) (hq : Quiet X.A) (hr : Room k X.A) (hb : Binds X.K fd ps []) (hx : Passes CX X E)
    (I : Inv X pins σ H s) (r : Vals vs us) (h : sp vs H Q E) : wpAny (model X.prog X.w) X.A (call (.ref f) us) (EP X pins σ Q) X.xe s := by
  have hl : us.length = ps.length := by rw [← r.length]; exact F.len _ _ _ _ h
  have hb2 := hb s us I.kIn (by rw [List.append_nil]; exact hl)
  rw [List.append_nil] at hb2
  refine wpAny_call (codeAny_mono (F.run X.A X.stack s H ⟨us, []⟩ us vs Q E hq hr I.env0 hb2 r h) fun r s' hq => ?_)
  cases r with
  | error e => exact hx pins σ H s e s' I hq
  | ok fl =>
    cases fl with
    | ret u => exact I.after hq
    | next => exact hq.elim
    | brk => exact hq.elim
    | cont => exact hq.elim
def tDf (sp : Sp) (E : XK) (t : TA) : TE := fun σ H Q => t σ H fun vs H1 => sp vs H1 Q E
/-- f(e, ..), f a def of the top -/
theorem pe_df (c : Df X.prog X.w X.K X.mg X.base CX k x sp) (hq : Quiet X.A) (hr : Room j X.A) (hx : Passes CX X E) (ha : PA X (e :: es) t)
    (hk : k ≤ j := by omega) (hg : Gl X x := by rfl) (hdb : (x == ("__debug__" : Str)) = false := by decide)
    (he : starEach (e :: es) X.env = (false, eval e X.env) :: starEach es X.env := by rfl) (hpl : (backTo pos (starEach es X.env)).any (·.1) = false := by rfl) :
    PE X (.Call (.Name x p) (e :: es) [] pos) (tDf sp E t) := by
  obtain ⟨f, fd, ps, hm, hkp, hb, F⟩ := c.ex
  refine ⟨fun pins s σ H Q I h => ?_⟩
  refine wpAny_Call_Name_kw (ld_glob I hg hm ?_ hdb)
  refine PySem.W.callWith_K (h₀ := X.base) I.ok.mod.kin hkp (thn (ha.run pos pins s σ H _ I h) fun us s1 hh => ?_) he hpl
  obtain ⟨vs, H1, I1, r1, q1⟩ := hh
  exact ⟨I1.kIn, run_df F hq (hr.mono hk) hb hx I1 r1 q1⟩
end
/-! ### the end of a law -/
theorem lawG {P : Program} {w : World} {K : PySem.W.Frag} {mg mb : Str → Option Value} {CX : CXT} {k : Nat} {fa a : Addr} {fd : FuncData} {x : Str} {sp : Sp}
    {s₁ : Shared} {vs : List Value} {ns : List Int} (KX : K.In s₁.heap) (hns : s₁.heap.Ns mainGlobals mg) (hb : s₁.heap.Ns builtinsNs mb)
    (hbb : ∀ x : Str, x ≠ "__name__" → mb x = bootBuiltins x) (hlim : s₁.heap.NoLimit) (hg : s₁.gens = #[])
    (ha : s₁.heap.get? a = some { cls := .type "list", data := .seq vs.toArray }) (hi : IntsAre vs ns) (hl : ns.length ≤ sizeLine) (hr : Room k callerA)
    (F : ∀ base : Heap, K.In base → base.Ns mainGlobals mg → FnG P w K mg base CX k fa fd [x] sp)
    (hbind : ∀ (s : Shared) (u : Value), BindsTo s fd ⟨[u], []⟩ [(x, u)])
    (hsp : ∀ H : Hp, Only H → SqL K H a (ns.map V.int) → sp [.ref a] H (fun v _ => v = .bl true) fun _ _ _ => False)
    (hCX : ∀ H e s', CX [] H s₁ (fun _ _ _ => False) e s' → False) :
    codeAny (model P w) callerA (.call (.ref fa) ⟨[.ref a], []⟩)
      (fun r s' => r = .ok (.ret (.bool true)) ∧ OldK s₁.heap s'.heap ∧ s'.os = s₁.os ∧ AllBare s'.gens) s₁ := by
  have rels := vals_ints hi
  have lenV := hi.length
  have main : ∀ H : Hp, Only H → SqL K H a (ns.map V.int) → HOk P w H s₁.heap → (∀ b, H b ≠ none → b = a) → (H a ≠ none → K.lookup a = none) →
      codeAny (model P w) callerA (.call (.ref fa) ⟨[.ref a], []⟩)
        (fun r s' => r = .ok (.ret (.bool true)) ∧ OldK s₁.heap s'.heap ∧ s'.os = s₁.os ∧ AllBare s'.gens) s₁ := by
    intro H hO hS hok hA hK
    have none_or : ∀ b, H b = none ∨ b = a := fun b => by
      by_cases q : H b = none
      · exact Or.inl q
      · exact Or.inr (hA b q)
    have noDict : ∀ {b : Addr} {o : Obj} {es : Array DictEntry} {ep : Nat}, s₁.heap.get? b = some o → o.data = .dict es ep → H b = none := by
      intro b o es ep e d
      rcases none_or b with q | q
      · exact q
      · rw [q, ha] at e
        cases e
        exact nomatch d
    have nsK : ∀ {b : Addr} {m : Str → Option Value}, s₁.heap.Ns b m → (hidT s₁.heap H).Ns b m := by
      rintro b m ⟨o, es, ep, e, d, r⟩
      exact ⟨o, es, ep, hidT_get e (noDict e d), d, r⟩
    have inB : K.In (hidT s₁.heap H) := by
      intro b o e
      refine hidT_get (KX b o e) ?_
      rcases none_or b with q | q
      · exact q
      · by_cases z : H b = none
        · exact z
        · rw [q] at z e
          rw [hK z] at e
          cases e
    have modB : Mod K mg (hidT s₁.heap H) := by
      obtain ⟨mc, l1, l2⟩ := hlim
      exact ⟨inB, nsK hns, ⟨mb, nsK hb, hbb⟩, ⟨mc, nsK l1, l2⟩⟩
    have e0 : Env0 P w K mg (hidT s₁.heap H) callerA [] s₁ H :=
      ⟨rfl, modB, fun b o e => of_hidT e, Nat.le_of_eq (hidT_size _ _), trivial, fun b hb => absurd (show b ∈ ([] : List Addr) from hb) (by simp), hok, .of_eq hg⟩
    have run := (F _ inB (nsK hns)).run callerA [] s₁ H ⟨[.ref a], []⟩ [.ref a] [.ref a] _ _ rfl hr e0 (hbind s₁ (.ref a)) (.cons rfl .nil) (hsp H hO hS)
    refine codeAny_mono run fun r s' h => ?_
    cases r with
    | error e => exact (hCX H e s' h).elim
    | ok fl =>
      cases fl with
      | next => exact h.elim
      | brk => exact h.elim
      | cont => exact h.elim
      | ret u =>
        obtain ⟨v, H', os, bare, un, hok', r', q⟩ := h
        obtain rfl : v = V.bl true := q
        obtain rfl : u = Value.bool true := r'
        refine ⟨rfl, OldK.of_keep fun b o e => ?_, os, bare⟩
        cases q : H b with
        | none => exact un.keep b o e q (fun z => absurd (show b ∈ ([] : List Addr) from z) (by simp)) (by simp)
        | some u =>
          rcases hO b with z | ⟨ob, xs, z⟩
          · rw [q] at z
            cases z
          · have e1 := (hok b _ z).1
            have e2 := (hok' b _ (un.frzs b ob _ z)).1
            rw [e] at e1
            cases e1
            exact e2
  cases hk : K.lookup a with
  | some o =>
    have e := KX a o hk
    rw [ha] at e
    cases e
    refine main (fun _ => none) (fun _ => Or.inl rfl) (Or.inr ⟨_, vs.toArray, _, hk, rfl, rfl, rfl, ?_, by simpa using rels⟩) (fun b u z => nomatch z)
      (fun b z => absurd rfl z) fun z => absurd rfl z
    rw [List.size_toArray, lenV]
    exact hl
  | none =>
    refine main (fun b => if b = a then some (.frz { cls := .type "list", data := .seq vs.toArray } (.lst (ns.map V.int))) else none) (fun b => ?_)
      (Or.inl (Or.inr ⟨{ cls := .type "list", data := .seq vs.toArray }, if_pos rfl⟩)) (fun b u z => ?_) (fun b z => ?_) fun _ => hk
    · by_cases h : b = a
      · exact Or.inr ⟨_, _, if_pos h⟩
      · exact Or.inl (if_neg h)
    · by_cases h : b = a
      · have z2 := (if_pos h).symm.trans z
        cases z2
        rw [h]
        exact ⟨ha, by rw [List.length_map]; exact hl, vs, _, rels, ha⟩
      · exact nomatch (if_neg h).symm.trans z
    · by_cases h : b = a
      · exact h
      · exact absurd (if_neg h) z
theorem walkG {l : PySem.W.OpenLaw} {n k : Nat} {q : Program} {loose : List Str} {XP : (Str → Option Value) → Heap → Prop} {YP : World → Heap → Prop} {d : DefRec}
    {K : Params → PySem.W.Frag} {CX : World → CXT} {sp : PySem.W.Frag → Sp} {x : Str}
    (hn : l.most = some n) (hn2 : n ≤ sizeLine) (hdf : d.params.defaults = []) (hr : Room k callerA) (hY : ∀ (w : World) (h : Heap), YP w h → (K w.params).In h)
    (F : ∀ (w : World) (mg : Str → Option Value) (fa : Addr) (h : Heap), (K w.params).In h → h.Ns mainGlobals mg → mg d.name = some (.ref fa) →
      ∃ fd : FuncData, (∀ (s : Shared) (u : Value), BindsTo s fd ⟨[u], []⟩ [(x, u)]) ∧
        ∀ base : Heap, (K w.params).In base → base.Ns mainGlobals mg → FnG l.prog w (K w.params) mg base (CX w) k fa fd [x] (sp (K w.params)))
    (hsp : ∀ (K : PySem.W.Frag) (H : Hp) (a : Addr) (ns : List Int), ns.length ≤ n → Only H → SqL K H a (ns.map V.int) → sp K [.ref a] H (fun v _ => v = .bl true) fun _ _ _ => False)
    (hCX : ∀ (w : World) (H : Hp) (s : Shared) (e : Value) (s' : Shared), CX w [] H s (fun _ _ _ => False) e s' → False) :
    PySem.W.WalkO q loose XP YP l.row.toRowW d [] (fun f vs => PySem.call f vs) := by
  refine Att.attach_call hn hdf fun w s₀ s₁ mg mb fa o pm cd doc a vs ns G Y ho hd hcd hmg hobj hints hlen hg => ?_
  have KX := hY w _ Y
  obtain ⟨fd, hb, hF⟩ := F w mg fa _ KX G.T.g hmg
  exact lawG KX G.T.g G.T.b G.T.builtins G.T.nolimit hg hobj hints (Nat.le_trans hlen hn2) hr hF hb (fun H hO hS => hsp _ H a ns hlen hO hS) fun H e s' => hCX w H s₁ e s'
/-! ### repr of data -/
def rRepr (K : PySem.W.Frag) : List V → Hp → VK → Prop := fun xs H Q =>
  ∃ (a : Addr) (d : PyData), xs = [.ref a] ∧ Dp K H (.ref a) d ∧ d.showable = true ∧ d.hasDict = false ∧ d.depth ≤ 60 ∧ d.shown.length ≤ sizeLine ∧ Q (.str d.shown) H
theorem call_repr {X : Cx} {k : Nat} (hq : Quiet X.A) (hr : Room k X.A) : CallR X (.builtin "repr") (rRepr X.K) := by
  intro pins s σ H xs us Q I r h
  obtain ⟨a, d, rfl, hd, hs, hn, hp, hz, q⟩ := h
  cases r with
  | cons rv rn =>
    cases rn
    cases rv
    obtain ⟨as, rd⟩ := Dp.reads I d (.ref a) (.ref a) hd rfl
    have hu := hr.un
    refine repr_of_reads' rd hs (fun z => by rw [hn] at z; cases z) hq (by omega) (fun _ _ e => e) (fun h' u tk kp => ?_) hz
    exact ⟨.str d.shown, H, I.kept kp, ⟨u, rfl⟩, q⟩
end Tq

/-! ### the stream of draws -/
namespace Tq
open PySem L2
/-- a def of the text, by its name -/
structure Fn1 (K : PySem.W.Frag) (mg : Str → Option Value) (x : Str) (st : Stmt) : Prop where
  ex : ∃ (f : Addr) (fd : FuncData), mg x = some (.ref f) ∧ Fun K x x st f fd
theorem fn1 {K : PySem.W.Frag} {h : Heap} {mg : Str → Option Value} {x : Str} {st : Stmt} {f : Addr} {oc : Value} {od an : Option Addr} {osl : Array (Option Value)}
    {kV doc pm cdv ct : Value} (X : K.In h) (G : h.Ns mainGlobals mg) (a : PySem.W.nsIn K mainGlobals x = some (some (.ref f)))
    (l : K.lookup f = some ⟨oc, od, .func (PySem.W.fnOf x x (defArgs st) (defBody st) (defScope st) .none kV doc pm an cdv ct), osl⟩)
    (c : PySem.W.codeIn K cdv x = true) (k : PySem.W.keepIn K (.ref f) = true) : Fn1 K mg x st := ⟨f, _, PySem.W.mg_of X G a, fun_mk l c k⟩
theorem df_of {P : Program} {w : World} {K : PySem.W.Frag} {mg : Str → Option Value} {base : Heap} {CX : CXT} {k : Nat} {x : Str} {st : Stmt} {sp : Sp} {ps : List Str}
    (F : Fn1 K mg x st) (hb : ∀ (kV doc pm : Value) (an : Option Addr) (cdv ct : Value) (us : List Value), us.length = ps.length →
      bindArgs (PySem.W.fnOf x x (defArgs st) (defBody st) (defScope st) .none kV doc pm an cdv ct) ⟨us, []⟩ = pure (ps.zip us))
    (ok : ∀ (f : Addr) (fd : FuncData), Fun K x x st f fd → FnG P w K mg base CX k f fd ps sp) : Df P w K mg base CX k x sp := by
  obtain ⟨f, fd, hm, F⟩ := F.ex
  exact ⟨f, fd, ps, hm, F.kp, F.binds hb, ok f fd F⟩

/-- a heap without two of its places -/
def off (a l : Addr) (H : Hp) : Hp := fun b => if b = a ∨ b = l then none else H b
theorem off_sub {a l : Addr} {H : Hp} : Same (off a l H) H := fun b o e => by
  unfold off at e
  split at e
  · cases e
  · exact e
theorem off_of {a l b : Addr} {H : Hp} {o : HO} (h : H b = some o) (h1 : b ≠ a) (h2 : b ≠ l) : off a l H b = some o := by
  unfold off
  rw [if_neg (fun z => z.elim h1 h2)]
  exact h
theorem off_ne {a l b : Addr} {H : Hp} {o : HO} (h : off a l H b = some o) : b ≠ a ∧ b ≠ l ∧ H b = some o := by
  unfold off at h
  split at h
  · cases h
  · rename_i n
    exact ⟨fun e => n (Or.inl e), fun e => n (Or.inr e), h⟩
/-- what stood beside the stream stands -/
def Nx (a l : Addr) (H H' : Hp) : Prop := Same (off a l H) (off a l H')
theorem Nx.refl {a l : Addr} {H : Hp} : Nx a l H H := Same.refl _
theorem Nx.trans {a l : Addr} {H H1 H2 : Hp} (x : Nx a l H H1) (y : Nx a l H1 H2) : Nx a l H H2 := Same.trans x y
theorem Nx.get {a l b : Addr} {H H' : Hp} {o : HO} (x : Nx a l H H') (h : H b = some o) (h1 : b ≠ a) (h2 : b ≠ l) : H' b = some o := off_sub b o (x b o (off_of h h1 h2))
theorem Nx.of_same {a l : Addr} {H H' : Hp} (x : Same H H') : Nx a l H H' := fun b o e => by
  obtain ⟨h1, h2, h3⟩ := off_ne e
  exact off_of (x b o h3) h1 h2
theorem Nx.upd_a {a l : Addr} {H : Hp} {o : HO} : Nx a l H (upd H a o) := fun b u e => by
  obtain ⟨h1, h2, h3⟩ := off_ne e
  exact off_of (by rw [upd_ne h1]; exact h3) h1 h2
theorem Nx.upd_l {a l : Addr} {H : Hp} {o : HO} : Nx a l H (upd H l o) := fun b u e => by
  obtain ⟨h1, h2, h3⟩ := off_ne e
  exact off_of (by rw [upd_ne h2]; exact h3) h1 h2
theorem Nx.new {a l p : Addr} {H : Hp} {o : HO} (hp : H p = none) : Nx a l H (upd H p o) := Nx.of_same fun b u e => by
  rw [upd_ne (ne_of_none e hp)]
  exact e
/-- the stream at a, its cells at l, with at most c draws made -/
structure Strm (H : Hp) (a l : Addr) (c : Nat) : Prop where
  ex : ∃ (ns : List Int) (x k m : Int), H a = some (.lst [.ref l, .int x, .int k, .int m]) ∧ H l = some (.lst (ns.map V.int)) ∧ 0 ≤ x ∧ 0 ≤ k ∧ k ≤ c ∧ 0 ≤ m ∧ m < 2147483647
theorem Strm.mono {H : Hp} {a l : Addr} {c d : Nat} (s : Strm H a l c) (h : c ≤ d) : Strm H a l d := by
  obtain ⟨ns, x, k, m, h1, h2, h3, h4, h5, h6⟩ := s.ex
  exact ⟨ns, x, k, m, h1, h2, h3, h4, by omega, h6⟩
theorem strm_ne {H : Hp} {a l : Addr} {ns : List Int} {x k m : Int} (h1 : H a = some (.lst [.ref l, .int x, .int k, .int m])) (h2 : H l = some (.lst (ns.map V.int))) : a ≠ l := by
  rintro rfl
  rw [h1] at h2
  cases ns with
  | nil => cases h2
  | cons n r => cases h2
theorem Strm.dom {H : Hp} {a l : Addr} {c : Nat} (s : Strm H a l c) : H a ≠ none ∧ H l ≠ none := by
  obtain ⟨ns, x, k, m, h1, h2, _⟩ := s.ex
  rw [h1, h2]
  exact ⟨nofun, nofun⟩
theorem Strm.keep {H H' : Hp} {a l : Addr} {c : Nat} (s : Strm H a l c) (h1 : H' a = H a) (h2 : H' l = H l) : Strm H' a l c := by
  obtain ⟨ns, x, k, m, e1, e2, r⟩ := s.ex
  exact ⟨ns, x, k, m, h1.trans e1, h2.trans e2, r⟩
theorem Strm.new {H : Hp} {a l p : Addr} {c : Nat} {o : HO} (s : Strm H a l c) (hp : H p = none) : Strm (upd H p o) a l c :=
  s.keep (upd_ne fun e => s.dom.1 (e ▸ hp)) (upd_ne fun e => s.dom.2 (e ▸ hp))
/-- what is new behind was new ahead -/
theorem Nx.free {a l p : Addr} {H H' : Hp} {c : Nat} (x : Nx a l H H') (s : Strm H' a l c) (hp : H' p = none) : H p = none := by
  cases q : H p with
  | none => rfl
  | some o =>
    have h1 : p ≠ a := fun e => s.dom.1 (e ▸ hp)
    have h2 : p ≠ l := fun e => s.dom.2 (e ▸ hp)
    rw [x.get q h1 h2] at hp
    cases hp
theorem eqv_nil (ns : List Int) : PyData.eqv (.list (ns.map PyData.int)) (.list []) = ns.isEmpty := by
  cases ns with
  | nil => rfl
  | cons n r => simp [PyData.eqv, PyData.eqvAll]
theorem dpAll_ints {K : PySem.W.Frag} {H : Hp} : ∀ ns : List Int, DpAll K H (ns.map V.int) (ns.map PyData.int)
  | [] => .nil
  | n :: r => .cons (.int n) (dpAll_ints r)
theorem canLay_ints : ∀ ns : List Int, PyData.canLayAll0 (ns.map PyData.int) = true
  | [] => rfl
  | n :: r => by
    rw [List.map_cons, PyData.canLayAll0, canLay_ints r]
    rfl
theorem depth_ints : ∀ ns : List Int, PyData.depthAll (ns.map PyData.int) ≤ 1
  | [] => by simp [PyData.depthAll]
  | n :: r => by
    rw [List.map_cons, PyData.depthAll]
    have := depth_ints r
    simp [PyData.depth]
    omega
theorem shaped_ints (ns : List Int) : SeqAt.shaped (.list (ns.map PyData.int)) = true := by
  unfold SeqAt.shaped
  rw [Bool.and_eq_true]
  refine ⟨by rw [PyData.canLay0]; exact canLay_ints ns, ?_⟩
  have := depth_ints ns
  rw [PyData.depth]
  exact decide_eq_true (by omega)
/-! within a comprehension's block the written part is named -/
theorem castIx {X : Cx} {K : PySem.W.Frag} {r : PySem.W.Frag → R2} (i : IxR X (r X.K)) (h : X.K = K := by rfl) : IxR X (r K) := h ▸ i
theorem castOp {X : Cx} {K : PySem.W.Frag} {f : Value → Value → Sem Value} {r : PySem.W.Frag → R2} (i : OpR X f (r X.K)) (h : X.K = K := by rfl) : OpR X f (r K) := h ▸ i
theorem castCall {X : Cx} {K : PySem.W.Frag} {f : Value} {r : PySem.W.Frag → List V → Hp → VK → Prop} (i : CallR X f (r X.K)) (h : X.K = K := by rfl) : CallR X f (r K) := h ▸ i
theorem castPE {X : Cx} {K : PySem.W.Frag} {e : PySem.Expr} {r : PySem.W.Frag → TE} (i : PE X e (r X.K)) (h : X.K = K := by rfl) : PE X e (r K) := h ▸ i
theorem if1 {b : Bool} {A B : Prop} (hb : b = true) (h : A) : if b = true then A else B := by rw [if_pos hb]; exact h
theorem if0 {b : Bool} {A B : Prop} (hb : b = false) (h : B) : if b = true then A else B := by rw [hb, if_neg Bool.false_ne_true]; exact h
theorem ix0 (y : Int) (r : List Int) : seqIndex? 0 ((y :: r).map V.int).length = some 0 := by
  simp [seqIndex?]
theorem while_split {c : TT} {tb u : TS} {D : Ends} {σ : St} {H : Hp} (J : St → Hp → Prop) (hJ : ∀ σ H, J σ H → u D σ H)
    (h : (∀ σ H, J σ H → u D σ H) → tWhile c tb { D with nx := u D } σ H) : tSeq (tWhile c tb) u D σ H := h hJ
/-- draw(stream, n): some number from 0 to n - 1 -/
def spDraw : Sp := fun vs H Q _ => ∃ (a l : Addr) (n : Int) (c : Nat), vs = [.ref a, .int n] ∧ 0 < n ∧ n < 1000000000 ∧ c < 4000000 ∧ Strm H a l c ∧
  ∀ (r : Int) (H' : Hp), 0 ≤ r → r < n → Strm H' a l (c + 1) → Nx a l H H' → Q (.int r) H'
end Tq

/-! ### data: what is read of a value, how long its text is -/
namespace Tq
open PySem L2
theorem sqL_same {K : PySem.W.Frag} {H H' : Hp} {a : Addr} {xs : List V} (e : Same H H') (h : SqL K H a xs) : SqL K H' a xs := e.seq h
theorem sqT_same {K : PySem.W.Frag} {H H' : Hp} {a : Addr} {xs : List V} (e : Same H H') (h : SqT K H a xs) : SqT K H' a xs := by
  rcases h with (h | ⟨o, h⟩) | h
  · exact .inl (.inl (e _ _ h))
  · exact .inl (.inr ⟨o, e _ _ h⟩)
  · exact .inr h
section
variable {K : PySem.W.Frag} {H H' : Hp}
mutual
theorem dp_same (e : Same H H') : ∀ (d : PyData) (v : V), Dp K H v d → Dp K H' v d
  | .none, _, h => by cases h; exact .non
  | .bool b, _, h => by cases h; exact .bl b
  | .int i, _, h => by cases h; exact .int i
  | .str x, _, h => by cases h; exact .str x
  | .list ds, _, h => by
    cases h with
    | lst hs ha => exact .lst (sqL_same e hs) (dpAll_same e ds _ ha)
  | .tuple ds, _, h => by
    cases h with
    | tup hs ha => exact .tup (sqT_same e hs) (dpAll_same e ds _ ha)
  | .dict _, _, h => by cases h
theorem dpAll_same (e : Same H H') : ∀ (ds : List PyData) (vs : List V), DpAll K H vs ds → DpAll K H' vs ds
  | [], _, h => by cases h; exact .nil
  | d :: ds, _, h => by
    cases h with
    | cons h1 h2 => exact .cons (dp_same e d _ h1) (dpAll_same e ds _ h2)
end
end
/-! a bound of the text -/
mutual
def tx : PyData → Nat
  | .list xs => 2 + txAll xs
  | .tuple xs => 3 + txAll xs
  | .none => 4
  | .bool _ => 5
  | .int i => (toString i : Str).length
  | .str x => (reprText x).length
  | .dict _ => 0
def txAll : List PyData → Nat
  | [] => 0
  | x :: xs => tx x + 2 + txAll xs
end
theorem listText_len (ts : List Str) : (listText ts).length ≤ 2 + piled ts := by
  cases ts with
  | nil => decide +kernel
  | cons t r =>
    have h := textFrom_length_pos r 1 (("[" : Str) ++ (if (0 : Nat) > 0 then ", " else "" : String) ++ t) (Nat.succ_pos 0)
    have e : ((("[" : Str) ++ (if (0 : Nat) > 0 then ", " else "" : String) ++ t)).length = 1 + t.length := by
      rw [strLen_append, strLen_append]; rfl
    have hY : (textFrom 0 "[" (t :: r)).length = (textFrom 1 (("[" : Str) ++ (if (0 : Nat) > 0 then ", " else "" : String) ++ t) r).length := rfl
    show (textFrom 0 "[" (t :: r) ++ "]").length ≤ _
    rw [strLen_append, hY, h, e, piled_cons]
    show 1 + t.length + piled r + 1 ≤ _
    omega
theorem tupleText_len (ts : List Str) : (tupleText ts).length ≤ 3 + piled ts := by
  have e3 : (((if ts.length == 1 then ",)" else ")" : String) : Str)).length ≤ 2 := by split <;> decide +kernel
  have e1 : ((("(" : String) : Str)).length = 1 := rfl
  unfold tupleText
  rw [strLen_append, strLen_append, e1]
  by_cases h : ts = []
  · subst h
    decide +kernel
  · have := join_length_add ts h
    omega
mutual
theorem shown_le : ∀ d : PyData, d.hasDict = false → d.shown.length ≤ tx d
  | .none, _ => by decide +kernel
  | .bool b, _ => by cases b <;> decide +kernel
  | .int i, _ => by rw [PyData.shown, tx]; exact Nat.le_refl _
  | .str x, _ => by rw [PyData.shown, tx]; exact Nat.le_refl _
  | .list xs, h => by
    rw [PyData.shown, tx]
    have := listText_len (PyData.shownAll xs)
    have := shownAll_le xs (by simpa [PyData.hasDict] using h)
    omega
  | .tuple xs, h => by
    rw [PyData.shown, tx]
    have := tupleText_len (PyData.shownAll xs)
    have := shownAll_le xs (by simpa [PyData.hasDict] using h)
    omega
  | .dict _, h => by simp [PyData.hasDict] at h
theorem shownAll_le : ∀ xs : List PyData, PyData.hasDictAll xs = false → piled (PyData.shownAll xs) ≤ txAll xs
  | [], _ => by rw [PyData.shownAll, txAll, piled_nil]; exact Nat.le_refl 0
  | x :: xs, h => by
    rw [PyData.hasDictAll, Bool.or_eq_false_iff] at h
    rw [PyData.shownAll, txAll, piled_cons]
    have := shown_le x h.1
    have := shownAll_le xs h.2
    omega
end
/-- plain data: no dict in it, its ints of a known size -/
structure Plain (d : PyData) (n m : Nat) : Prop where
  sh : d.showable = true
  nd : d.hasDict = false
  dp : d.depth ≤ n
  tx : tx d ≤ m
structure PlainAll (ds : List PyData) (n m : Nat) : Prop where
  sh : PyData.showableAll ds = true
  nd : PyData.hasDictAll ds = false
  dp : PyData.depthAll ds ≤ n
  tx : txAll ds ≤ m
theorem Plain.mono {d : PyData} {n m n' m' : Nat} (h : Plain d n m) (a : n ≤ n') (b : m ≤ m') : Plain d n' m' := ⟨h.sh, h.nd, Nat.le_trans h.dp a, Nat.le_trans h.tx b⟩
theorem PlainAll.mono {d : List PyData} {n m n' m' : Nat} (h : PlainAll d n m) (a : n ≤ n') (b : m ≤ m') : PlainAll d n' m' := ⟨h.sh, h.nd, Nat.le_trans h.dp a, Nat.le_trans h.tx b⟩
theorem PlainAll.nil {n m : Nat} : PlainAll [] n m := ⟨rfl, rfl, by simp [PyData.depthAll], by simp [txAll]⟩
theorem PlainAll.cons {d : PyData} {ds : List PyData} {n m k : Nat} (h : Plain d n m) (hs : PlainAll ds n k) : PlainAll (d :: ds) n (m + 2 + k) := by
  refine ⟨?_, ?_, ?_, ?_⟩
  · rw [PyData.showableAll, h.sh, hs.sh]; rfl
  · rw [PyData.hasDictAll, h.nd, hs.nd]; rfl
  · rw [PyData.depthAll]
    have := h.dp
    have := hs.dp
    omega
  · rw [txAll]
    have := h.tx
    have := hs.tx
    omega
theorem PlainAll.head {d : PyData} {ds : List PyData} {n m : Nat} (h : PlainAll (d :: ds) n m) : Plain d n m ∧ PlainAll ds n m := by
  obtain ⟨h1, h2, h3, h4⟩ := h
  rw [PyData.showableAll, Bool.and_eq_true] at h1
  rw [PyData.hasDictAll, Bool.or_eq_false_iff] at h2
  rw [PyData.depthAll] at h3
  rw [txAll] at h4
  exact ⟨⟨h1.1, h2.1, by omega, by omega⟩, ⟨h1.2, h2.2, by omega, by omega⟩⟩
theorem plain_list {ds : List PyData} {n m : Nat} (h : PlainAll ds n m) : Plain (.list ds) (n + 1) (m + 2) := by
  obtain ⟨h1, h2, h3, h4⟩ := h
  refine ⟨by rw [PyData.showable]; exact h1, by rw [PyData.hasDict]; exact h2, by rw [PyData.depth]; omega, by rw [Tq.tx]; omega⟩
theorem plain_tuple {ds : List PyData} {n m : Nat} (h : PlainAll ds n m) : Plain (.tuple ds) (n + 1) (m + 3) := by
  obtain ⟨h1, h2, h3, h4⟩ := h
  refine ⟨by rw [PyData.showable]; exact h1, by rw [PyData.hasDict]; exact h2, by rw [PyData.depth]; omega, by rw [Tq.tx]; omega⟩
/-- a value that may be told by repr -/
def Rep (K : PySem.W.Frag) (H : Hp) (v : V) (n m : Nat) : Prop := ∃ d, Dp K H v d ∧ Plain d n m
theorem Rep.mono {K : PySem.W.Frag} {H : Hp} {v : V} {n m n' m' : Nat} (h : Rep K H v n m) (a : n ≤ n') (b : m ≤ m') : Rep K H v n' m' := let ⟨d, h1, h2⟩ := h; ⟨d, h1, h2.mono a b⟩
theorem Rep.same {K : PySem.W.Frag} {H H' : Hp} {v : V} {n m : Nat} (h : Rep K H v n m) (e : Same H H') : Rep K H' v n m := let ⟨d, h1, h2⟩ := h; ⟨d, dp_same e d v h1, h2⟩
def RepAll (K : PySem.W.Frag) (H : Hp) (vs : List V) (n m : Nat) : Prop := ∃ ds, DpAll K H vs ds ∧ PlainAll ds n m
theorem RepAll.nil {K : PySem.W.Frag} {H : Hp} {n m : Nat} : RepAll K H [] n m := ⟨[], .nil, PlainAll.nil⟩
theorem RepAll.cons {K : PySem.W.Frag} {H : Hp} {v : V} {vs : List V} {n m k : Nat} (h : Rep K H v n m) (hs : RepAll K H vs n k) : RepAll K H (v :: vs) n (m + 2 + k) := by
  obtain ⟨d, h1, h2⟩ := h
  obtain ⟨ds, g1, g2⟩ := hs
  exact ⟨d :: ds, .cons h1 g1, .cons h2 g2⟩
theorem RepAll.same {K : PySem.W.Frag} {H H' : Hp} {vs : List V} {n m : Nat} (h : RepAll K H vs n m) (e : Same H H') : RepAll K H' vs n m := let ⟨d, h1, h2⟩ := h; ⟨d, dpAll_same e d vs h1, h2⟩
theorem RepAll.mono {K : PySem.W.Frag} {H : Hp} {vs : List V} {n m n' m' : Nat} (h : RepAll K H vs n m) (a : n ≤ n') (b : m ≤ m') : RepAll K H vs n' m' := let ⟨d, h1, h2⟩ := h; ⟨d, h1, h2.mono a b⟩
theorem dpAll_snoc {K : PySem.W.Frag} {H : Hp} : ∀ {vs : List V} {ds : List PyData} {v : V} {d : PyData}, DpAll K H vs ds → Dp K H v d → DpAll K H (vs ++ [v]) (ds ++ [d])
  | [], _, _, _, h, g => by cases h; exact .cons g .nil
  | _ :: _, _, _, _, h, g => by
    cases h with
    | cons h1 h2 => exact .cons h1 (dpAll_snoc h2 g)
theorem plain_snoc {d : PyData} {n m : Nat} (h : Plain d n m) : ∀ {ds : List PyData} {k : Nat}, PlainAll ds n k → PlainAll (ds ++ [d]) n (k + (m + 2))
  | [], k, g => (PlainAll.cons h PlainAll.nil (k := 0)).mono (Nat.le_refl _) (by omega)
  | e :: ds, k, g => by
    obtain ⟨g1, g2, g3, g4⟩ := g
    rw [PyData.showableAll, Bool.and_eq_true] at g1
    rw [PyData.hasDictAll, Bool.or_eq_false_iff] at g2
    rw [PyData.depthAll] at g3
    rw [txAll] at g4
    have ih := plain_snoc h (ds := ds) (k := txAll ds) ⟨g1.2, g2.2, by omega, Nat.le_refl _⟩
    exact (PlainAll.cons (d := e) (m := tx e) ⟨g1.1, g2.1, by omega, Nat.le_refl _⟩ ih).mono (Nat.le_refl _) (by omega)
theorem RepAll.snoc {K : PySem.W.Frag} {H : Hp} {v : V} {vs : List V} {n m k : Nat} (hs : RepAll K H vs n k) (h : Rep K H v n m) : RepAll K H (vs ++ [v]) n (k + (m + 2)) := by
  obtain ⟨d, h1, h2⟩ := h
  obtain ⟨ds, g1, g2⟩ := hs
  exact ⟨ds ++ [d], dpAll_snoc g1 h1, plain_snoc h2 g2⟩
theorem rep_list {K : PySem.W.Frag} {H : Hp} {a : Addr} {vs : List V} {n m : Nat} (h : SqL K H a vs) (hs : RepAll K H vs n m) : Rep K H (.ref a) (n + 1) (m + 2) := let ⟨ds, g1, g2⟩ := hs; ⟨.list ds, .lst h g1, plain_list g2⟩
theorem rep_tuple {K : PySem.W.Frag} {H : Hp} {a : Addr} {vs : List V} {n m : Nat} (h : SqT K H a vs) (hs : RepAll K H vs n m) : Rep K H (.ref a) (n + 1) (m + 3) := let ⟨ds, g1, g2⟩ := hs; ⟨.tuple ds, .tup h g1, plain_tuple g2⟩
theorem rep_non {K : PySem.W.Frag} {H : Hp} {n m : Nat} (h : 4 ≤ m) : Rep K H .non n m := ⟨.none, .non, rfl, rfl, Nat.zero_le _, h⟩
theorem rep_bl {K : PySem.W.Frag} {H : Hp} {b : Bool} {n m : Nat} (h : 5 ≤ m) : Rep K H (.bl b) n m := ⟨.bool b, .bl b, rfl, rfl, Nat.zero_le _, h⟩
theorem rep_int {K : PySem.W.Frag} {H : Hp} {i : Int} {n m : Nat} (h1 : i.natAbs.log2 < 1920) (h : (toString i : Str).length ≤ m) : Rep K H (.int i) n m :=
  ⟨.int i, .int i, by rw [PyData.showable]; exact decide_eq_true h1, rfl, Nat.zero_le _, h⟩
theorem rep_str {K : PySem.W.Frag} {H : Hp} {x : Str} {n m : Nat} (h : (reprText x).length ≤ m) : Rep K H (.str x) n m := ⟨.str x, .str x, rfl, rfl, Nat.zero_le _, h⟩
/-! one list gets another item -/
mutual
theorem dp_app {K : PySem.W.Frag} {H : Hp} {b : Addr} {xs : List V} {y : V} {e : PyData} (hb : H b = some (.lst xs)) (he : ∀ H' : Hp, Dp K H' y e) (e1 : Plain e 0 2) :
    ∀ (d : PyData) (v : V) (n : Nat), Dp K H v d → Plain d n (tx d) → ∃ d', Dp K (upd H b (.lst (xs ++ [y]))) v d' ∧ Plain d' n (4 * tx d)
  | .none, _, _, h, p => by cases h; exact ⟨.none, .non, p.mono (Nat.le_refl _) (by omega)⟩
  | .bool c, _, _, h, p => by cases h; exact ⟨.bool c, .bl c, p.mono (Nat.le_refl _) (by omega)⟩
  | .int i, _, _, h, p => by cases h; exact ⟨.int i, .int i, p.mono (Nat.le_refl _) (by omega)⟩
  | .str x, _, _, h, p => by cases h; exact ⟨.str x, .str x, p.mono (Nat.le_refl _) (by omega)⟩
  | .list ds, _, n, h, p => by
    cases h with
    | @lst a zs _ hs ha =>
      obtain ⟨p1, p2, p3, p4⟩ := p
      rw [PyData.showable] at p1
      rw [PyData.hasDict] at p2
      rw [PyData.depth] at p3
      cases n with
      | zero => omega
      | succ n =>
        obtain ⟨ds', g1, g2⟩ := dpAll_app hb he e1 ds zs n ha ⟨p1, p2, by omega, Nat.le_refl _⟩
        have old : SqL K (upd H b (.lst (xs ++ [y]))) a zs ∨ (a = b ∧ zs = xs) := by
          by_cases hab : a = b
          · subst hab
            rcases hs with (hs | ⟨o, hs⟩) | hs
            · rw [hb] at hs
              cases hs
              exact Or.inr ⟨rfl, rfl⟩
            · rw [hb] at hs
              cases hs
            · exact Or.inl (.inr hs)
          · rcases hs with (hs | ⟨o, hs⟩) | hs
            · exact Or.inl (.inl (.inl (by rw [upd_ne hab]; exact hs)))
            · exact Or.inl (.inl (.inr ⟨o, by rw [upd_ne hab]; exact hs⟩))
            · exact Or.inl (.inr hs)
        rcases old with hs' | ⟨rfl, rfl⟩
        · refine ⟨.list ds', .lst hs' g1, (plain_list g2).mono (Nat.le_refl _) ?_⟩
          rw [tx]
          omega
        · refine ⟨.list (ds' ++ [e]), .lst (SqL.of upd_same) (dpAll_snoc g1 (he _)), (plain_list (plain_snoc (e1.mono (Nat.zero_le n) (Nat.le_refl _)) g2)).mono (Nat.le_refl _) ?_⟩
          rw [tx]
          omega
  | .tuple ds, _, n, h, p => by
    cases h with
    | @tup a zs _ hs ha =>
      obtain ⟨p1, p2, p3, p4⟩ := p
      rw [PyData.showable] at p1
      rw [PyData.hasDict] at p2
      rw [PyData.depth] at p3
      cases n with
      | zero => omega
      | succ n =>
        obtain ⟨ds', g1, g2⟩ := dpAll_app hb he e1 ds zs n ha ⟨p1, p2, by omega, Nat.le_refl _⟩
        have hs' : SqT K (upd H b (.lst (xs ++ [y]))) a zs := by
          rcases hs with (hs | ⟨o, hs⟩) | hs
          · exact .inl (.inl (by rw [upd_ne (ne_of hs hb (by intro z; cases z))]; exact hs))
          · exact .inl (.inr ⟨o, by rw [upd_ne (ne_of hs hb (by intro z; cases z))]; exact hs⟩)
          · exact .inr hs
        refine ⟨.tuple ds', .tup hs' g1, (plain_tuple g2).mono (Nat.le_refl _) ?_⟩
        rw [tx]
        omega
  | .dict _, _, _, h, _ => by cases h
theorem dpAll_app {K : PySem.W.Frag} {H : Hp} {b : Addr} {xs : List V} {y : V} {e : PyData} (hb : H b = some (.lst xs)) (he : ∀ H' : Hp, Dp K H' y e) (e1 : Plain e 0 2) :
    ∀ (ds : List PyData) (vs : List V) (n : Nat), DpAll K H vs ds → PlainAll ds n (txAll ds) → ∃ ds', DpAll K (upd H b (.lst (xs ++ [y]))) vs ds' ∧ PlainAll ds' n (4 * txAll ds)
  | [], _, _, h, _ => by cases h; exact ⟨[], .nil, PlainAll.nil⟩
  | d :: ds, _, n, h, p => by
    cases h with
    | cons h1 h2 =>
      obtain ⟨p1, p2, p3, p4⟩ := p
      rw [PyData.showableAll, Bool.and_eq_true] at p1
      rw [PyData.hasDictAll, Bool.or_eq_false_iff] at p2
      rw [PyData.depthAll] at p3
      obtain ⟨d', q1, q2⟩ := dp_app hb he e1 d _ n h1 ⟨p1.1, p2.1, by omega, Nat.le_refl _⟩
      obtain ⟨ds', r1, r2⟩ := dpAll_app hb he e1 ds _ n h2 ⟨p1.2, p2.2, by omega, Nat.le_refl _⟩
      refine ⟨d' :: ds', .cons q1 r1, (PlainAll.cons q2 r2).mono (Nat.le_refl _) ?_⟩
      rw [txAll]
      omega
end
theorem Rep.app {K : PySem.W.Frag} {H : Hp} {b : Addr} {xs : List V} {y : V} {e : PyData} {v : V} {n m : Nat} (hb : H b = some (.lst xs)) (he : ∀ H' : Hp, Dp K H' y e) (e1 : Plain e 0 2) (h : Rep K H v n m) :
    Rep K (upd H b (.lst (xs ++ [y]))) v n (4 * m) := by
  obtain ⟨d, h1, h2⟩ := h
  obtain ⟨d', g1, g2⟩ := dp_app hb he e1 d v n h1 ⟨h2.sh, h2.nd, h2.dp, Nat.le_refl _⟩
  have := h2.tx
  exact ⟨d', g1, g2.mono (Nat.le_refl _) (by omega)⟩
end Tq

/-! ### what is new in a heap -/
namespace Tq
open PySem L2
/-- the part of H' that H has not -/
def nw (H H' : Hp) : Hp := fun b => if H b = none then H' b else none
theorem nw_of {H H' : Hp} {b : Addr} {o : HO} (h : H b = none) (h' : H' b = some o) : nw H H' b = some o := by
  unfold nw
  rw [if_pos h]
  exact h'
theorem of_nw {H H' : Hp} {b : Addr} {o : HO} (h : nw H H' b = some o) : H b = none ∧ H' b = some o := by
  unfold nw at h
  split at h
  · exact ⟨by assumption, h⟩
  · cases h
theorem nw_sub {H H' : Hp} : Same (nw H H') H' := fun b o e => (of_nw e).2
/-- the new part stands, if H grows to G and H' to G' beside it -/
theorem nw_same {H H' G G' : Hp} (h1 : ∀ b, H b = none → H' b ≠ none → G b = none) (h2 : ∀ b o, H b = none → H' b = some o → G' b = some o) : Same (nw H H') (nw G G') := fun b o e => by
  obtain ⟨e1, e2⟩ := of_nw e
  exact nw_of (h1 b e1 (by rw [e2]; exact nofun)) (h2 b o e1 e2)
/-- pick(stream, some) -/
def spPick (K : PySem.W.Frag) : Sp := fun vs H Q _ => ∃ (a l p : Addr) (xs : List V) (c : Nat), vs = [.ref a, .ref p] ∧ c < 4000000 ∧ Strm H a l c ∧ SqL K (off a l H) p xs ∧ xs ≠ [] ∧ xs.length < 1000000000 ∧
  ∀ (v : V) (H' : Hp), v ∈ xs → Strm H' a l (c + 1) → Nx a l H H' → Q v H'
/-- a statement and what follows it, by a word J between them -/
theorem seq_split {s rest : TS} {D : Ends} {σ : St} {H : Hp} (J : St → Hp → Prop) (hJ : ∀ σ H, J σ H → rest D σ H) (h : (∀ σ H, J σ H → rest D σ H) → s { D with nx := rest D } σ H) : tSeq s rest D σ H := h hJ
theorem seq_if {c : TT} {t u rest : TS} {D : Ends} {σ : St} {H : Hp} (J : St → Hp → Prop) (hJ : ∀ σ H, J σ H → rest D σ H) (h : (∀ σ H, J σ H → rest D σ H) → tIfS c t u { D with nx := rest D } σ H) : tSeq (tIfS c t u) rest D σ H := h hJ
theorem seq_for {wi : TI} {g : TG} {tb rest : TS} {D : Ends} {σ : St} {H : Hp} (J : St → Hp → Prop) (hJ : ∀ σ H, J σ H → rest D σ H) (h : (∀ σ H, J σ H → rest D σ H) → tFor wi g tb { D with nx := rest D } σ H) : tSeq (tFor wi g tb) rest D σ H := h hJ
theorem nm {i : Nat} {v : V} {σ : St} {H : Hp} {Q : St → Hp → Prop} (h : Q (σ.set i (some v)) H) : gName i v σ H Q := h
theorem yes {σ : St} {H : Hp} {A B : Hp → Prop} (h : A H) : tYes σ H (fun b H3 => if b = true then A H3 else B H3) := by
  show if true = true then A H else B H
  rw [if_pos rfl]
  exact h
theorem same_new {H : Hp} {p : Addr} {o : HO} (hp : H p = none) : Same H (upd H p o) := fun b u e => by
  rw [upd_ne (ne_of_none e hp)]
  exact e
/-- a new object: its heap by a letter -/
theorem alloc {Q : VK} {H : Hp} {o : HO} (h : ∀ p H', H p = none → Same H H' → H' p = some o → Q (.ref p) H') : ∀ p, H p = none → Q (.ref p) (upd H p o) := fun p hp => h p _ hp (same_new hp) upd_same
theorem atI_mem {xs : List V} {r : Int} (h0 : 0 ≤ r) (h1 : r < xs.length) : ∃ v, atI xs r = some v ∧ v ∈ xs := by
  have h : r.toNat < xs.length := by omega
  refine ⟨xs[r.toNat], ?_, List.getElem_mem h⟩
  exact at_of (j := r.toNat) (by omega) (List.getElem?_eq_getElem h)
end Tq

/-! ### == of lists and tuples whose items run an own __eq__, both answers -/
namespace TqE
open PySem PySem.SeqAt
open AutoSeq1 (wpAny_loadPart')
open MeetsSeq MeetsSeq2 MeetsSeq3 SeqRoads2
section
variable {prog : Program} {w : World} {A : Around} {R : Result → Shared → Prop}
/-- all answers from the i-th on -/
def allF (bs : Nat → Bool) (N i : Nat) : Bool := (List.range' i (N - i)).all bs
theorem allF_end {bs : Nat → Bool} {N : Nat} : allF bs N N = true := by
  unfold allF
  rw [Nat.sub_self]
  rfl
theorem allF_step {bs : Nat → Bool} {N i : Nat} (h : i < N) : allF bs N i = (bs i && allF bs N (i + 1)) := by
  unfold allF
  rw [show N - i = (N - (i + 1)) + 1 by omega, List.range'_succ, List.all_cons]
/-- at each turn the two lists are read anew: N items each, the i-th two compared -/
def ListB (prog : Program) (w : World) (A : Around) (E : Value → Shared → Prop) (l b : Addr) (N : Nat) (bs : Nat → Bool) (I : Shared → Prop) : Prop :=
  ∀ s, I s → ∃ (items items2 : Array Value) (n n2 : Nat), s.heap.get? l = some { cls := .type "list", data := .seq items n } ∧ s.heap.get? b = some { cls := .type "list", data := .seq items2 n2 } ∧ items.size = N ∧ items2.size = N ∧
    ∀ (i : Nat) (h1 : i < items.size) (h2 : i < items2.size), wpAny (model prog w) A.in1 (eqBool items[i] items2[i]) (fun r s' => r = bs i ∧ I s') E s
theorem loopB (l b : Addr) (N : Nat) (bs : Nat → Bool) (I : Shared → Prop) (hl : ListB prog w A (fun e s' => R (.error e) s') l b N bs I) (k : Nat) :
    ∀ i : Nat, N - i = k → i ≤ N → ∀ s, I s → (∀ s', I s' → R (.ok (.ret (.bool (allF bs N i)))) s') →
      wpAny (model prog w) A.in1 (Builtin.«list.__eq__.loop» ⟨[.ref l, .ref b, rawInt i, rawInt 2], []⟩) (GQ.FinOf prog w A R) (fun e s' => R (.error e) s') s := by
  induction k with
  | zero =>
    intro i hk hi s h fin
    obtain ⟨items, items2, n, n2, hl1, hb1, hs1, hs2, _⟩ := hl _ h
    have hi' : i = N := by omega
    have hR := fin s h
    rw [hi', allF_end] at hR
    obtain ⟨hp, g, d, tk, os⟩ := s
    wp_walk using wpAny_loadPart' hl1, wpAny_loadPart' hb1
    have q1 : items[((i : Nat) : Int).toNat]? = none := by simp; omega
    have q2 : items2[((i : Nat) : Int).toNat]? = none := by simp; omega
    rw [q1, q2]
    wp_walk using wpAny_loadPart' hl1, wpAny_loadPart' hb1
    show R (.ok (.ret (.bool (items.size == items2.size)))) _
    rw [hs1, hs2]
    simpa using hR
  | succ k ih =>
    intro i hk hi s h fin
    obtain ⟨items, items2, n, n2, hl1, hb1, hs1, hs2, turn⟩ := hl _ h
    have hlt : i < items.size := by omega
    have hlt2 : i < items2.size := by omega
    have ht := turn i hlt hlt2
    have hstep := allF_step (bs := bs) (N := N) (i := i) (by omega)
    obtain ⟨hp, g, d, tk, os⟩ := s
    wp_walk using wpAny_loadPart' hl1, wpAny_loadPart' hb1
    have q1 : items[((i : Nat) : Int).toNat]? = some items[i] := by simp [hlt]
    have q2 : items2[((i : Nat) : Int).toNat]? = some items2[i] := by simp [hlt2]
    have hc : ((i : Int) + 1) = ((i + 1 : Nat) : Int) := by omega
    rw [q1, q2]
    refine wpAny_bind (wpAny_mono ht (fun r s2 h2 => ?_) fun _ _ x => x)
    obtain ⟨hr, h2⟩ := h2
    subst hr
    cases hb : bs i with
    | true =>
      have hrec := ih (i + 1) (by omega) (by omega) s2 h2 (fun s' z => by have := fin s' z; rw [hstep, hb, Bool.true_and] at this; exact this)
      obtain ⟨hp2, g2, d2, tk2, os2⟩ := s2
      wp_walk
      rw [hc]
      exact ⟨plainId_quiet plain_eq_loop _, codeAny_builtin entry_eq_loop (by
        rw [Around.under_plainId plain_eq_loop _]
        exact hrec)⟩
    | false =>
      have hR := fin s2 h2
      rw [hstep, hb, Bool.false_and] at hR
      obtain ⟨its, its2, m, m2, k1, k2, z1, z2, _⟩ := hl _ h2
      have r1 : its[((i : Nat) : Int).toNat]? = some its[i] := by simp [show i < its.size by omega]
      have r2 : its2[((i : Nat) : Int).toNat]? = some its2[i] := by simp [show i < its2.size by omega]
      obtain ⟨hp2, g2, d2, tk2, os2⟩ := s2
      wp_walk using wpAny_loadPart' k1, wpAny_loadPart' k2
      rw [r1, r2]
      wp_walk
      exact hR
theorem list_eqB (l b : Addr) (N : Nat) (bs : Nat → Bool) (I : Shared → Prop) (hl : ListB prog w A (fun e s' => R (.error e) s') l b N bs I)
    (fin : ∀ s, I s → R (.ok (.ret (.bool (allF bs N 0)))) s) {s : Shared} (h : I s) :
    wpAny (model prog w) A.in1 (Builtin.«list.__eq__» ⟨[.ref l, .ref b], []⟩) (GQ.FinOf prog w A R) (fun e s' => R (.error e) s') s := by
  obtain ⟨items, items2, n, n2, hl1, hb1, hs1, hs2, _⟩ := hl _ h
  have hrec := loopB (A := A) (R := R) l b N bs I hl _ 0 rfl (Nat.zero_le _) s h fin
  obtain ⟨hp, g, d, tk, os⟩ := s
  have f3 := AutoSeq1.sub_list_list
  have hne : ¬ (items.size != items2.size) = true := by simp [hs1, hs2]
  wp_walk using wpAny_loadPart' hl1, wpAny_loadPart' hb1
  refine ⟨plainId_quiet plain_eq_loop _, codeAny_builtin entry_eq_loop ?_⟩
  rw [Around.under_plainId plain_eq_loop _]
  exact hrec
theorem list_eqN (l b : Addr) (items items2 : Array Value) (n n2 : Nat) (hsz : items.size ≠ items2.size) {s : Shared}
    (hl1 : s.heap.get? l = some { cls := .type "list", data := .seq items n }) (hb1 : s.heap.get? b = some { cls := .type "list", data := .seq items2 n2 })
    (fin : R (.ok (.ret (.bool false))) s) :
    wpAny (model prog w) A.in1 (Builtin.«list.__eq__» ⟨[.ref l, .ref b], []⟩) (GQ.FinOf prog w A R) (fun e s' => R (.error e) s') s := by
  obtain ⟨hp, g, d, tk, os⟩ := s
  have f3 := AutoSeq1.sub_list_list
  have hne : (items.size != items2.size) = true := by simp [hsz]
  wp_walk using wpAny_loadPart' hl1, wpAny_loadPart' hb1
  exact fin
/-- two tuples, item by item -/
theorem tuple_eqB (l b : Addr) (items items2 : Array Value) (n n2 : Nat) (dd dd2 : Option Addr) (sl sl2 : Array (Option Value)) (bs : Nat → Bool) (I : Shared → Prop)
    (turn : ∀ i (h1 : i < items.size) (h2 : i < items2.size) s, I s → wpAny (model prog w) A.in1 (eqBool items[i] items2[i]) (fun r s' => r = bs i ∧ I s') (fun e s' => R (.error e) s') s)
    (fin : ∀ s, I s → R (.ok (.ret (.bool (allF bs (min items.size items2.size) 0 && items.size == items2.size)))) s) {s : Shared}
    (hl1 : s.heap.get? l = some { cls := .type "tuple", dict := dd, data := .seq items n, slots := sl }) (hb1 : s.heap.get? b = some { cls := .type "tuple", dict := dd2, data := .seq items2 n2, slots := sl2 }) (h : I s) :
    wpAny (model prog w) A.in1 (Builtin.«tuple.__eq__» ⟨[.ref l, .ref b], []⟩) (GQ.FinOf prog w A R) (fun e s' => R (.error e) s') s := by
  have f2 := AutoSeq1.sub_tuple_tuple
  have hZ : (items.toList.zip items2.toList).length = min items.size items2.size := by simp
  have h0 := h
  obtain ⟨hp, g, d, tk, os⟩ := s
  wp_walk using wpAny_loadPart' hl1, wpAny_loadPart' hb1, wpAny_forIn_list _ (fun rest b s' => (b.1 = none ∧ ∃ i, rest = (items.toList.zip items2.toList).drop i ∧ i ≤ min items.size items2.size ∧ I s' ∧ allF bs (min items.size items2.size) 0 = allF bs (min items.size items2.size) i)) _
  case turn =>
    rintro ⟨y, x⟩ rest b s' ⟨hb', i, hz, hi, hI, hall⟩
    have hlt : i < (items.toList.zip items2.toList).length := by
      rcases Nat.lt_or_ge i (items.toList.zip items2.toList).length with h' | h'
      · exact h'
      · rw [List.drop_of_length_le h'] at hz; cases hz
    have h1 : i < items.size := by omega
    have h2 : i < items2.size := by omega
    rw [List.drop_eq_getElem_cons hlt] at hz
    injection hz with hyx hrest
    have hy : y = items[i] := by have := congrArg Prod.fst hyx; simpa using this
    have hx : x = items2[i] := by have := congrArg Prod.snd hyx; simpa using this
    subst hy hx
    have hstep := allF_step (bs := bs) (N := min items.size items2.size) (i := i) (by omega)
    refine wpAny_bind (wpAny_mono (turn i h1 h2 s' hI) (fun r s2 q2 => ?_) fun _ _ x => x)
    obtain ⟨hr, q2⟩ := q2
    subst hr
    cases hbi : bs i with
    | true =>
      wp_walk
      exact ⟨rfl, i + 1, hrest, by omega, q2, by rw [hall, hstep, hbi, Bool.true_and]⟩
    | false =>
      have hR := fin s2 q2
      rw [hall, hstep, hbi, Bool.false_and, Bool.false_and] at hR
      wp_walk
      exact hR
  case fin =>
    rintro ⟨b1, b2⟩ s' ⟨hb', i, hz, hi, hI, hall⟩
    simp only at hb'
    subst hb'
    have hge : min items.size items2.size ≤ i := by
      rcases Nat.lt_or_ge i (items.toList.zip items2.toList).length with h' | h'
      · rw [List.drop_eq_getElem_cons h'] at hz; cases hz
      · omega
    have hi' : i = min items.size items2.size := by omega
    have hR := fin s' hI
    rw [hall, hi', allF_end, Bool.true_and] at hR
    wp_walk
    exact hR
  case h =>
    exact ⟨rfl, 0, rfl, Nat.zero_le _, h0, rfl⟩
end
section
variable {prog : Program} {w : World} {A : Around} {E : Value → Shared → Prop} {s : Shared}
theorem rc_listB {l b : Addr} {N : Nat} {bs : Nat → Bool} {Q : Value → Shared → Prop} (hu : A.units < cLine) (I : Shared → Prop) (hl : ListB prog w A E l b N bs I)
    (fin : ∀ s, I s → Q (.bool (allF bs N 0)) s) (h : I s) : wpAny (model prog w) A (richCompare .Eq (.ref l) (.ref b)) Q E s := by
  obtain ⟨items, items2, n, n2, hl1, hb1, _, _, _⟩ := hl _ h
  refine wpAny_richCompare_same_room (op := .Eq) ⟨_, hl1, rfl⟩ ⟨_, hb1, rfl⟩ F.slot_list_eq ?_ hu
  refine GQ.call_here F.slot_list_eq ⟨_, hl1, rfl⟩ F.entry_list_eq (F.args_list_eq_2 _ _) ?_
  exact list_eqB (R := wants (fun v s' => v ≠ .notImplemented ∧ Q v s') E) l b N bs I hl (fun s' q => ⟨(fun x => nomatch x), fin s' q⟩) h
theorem rc_listN {l b : Addr} {items items2 : Array Value} {n n2 : Nat} {Q : Value → Shared → Prop} (hu : A.units < cLine) (hsz : items.size ≠ items2.size)
    (hl1 : s.heap.get? l = some { cls := .type "list", data := .seq items n }) (hb1 : s.heap.get? b = some { cls := .type "list", data := .seq items2 n2 })
    (fin : Q (.bool false) s) : wpAny (model prog w) A (richCompare .Eq (.ref l) (.ref b)) Q E s := by
  refine wpAny_richCompare_same_room (op := .Eq) ⟨_, hl1, rfl⟩ ⟨_, hb1, rfl⟩ F.slot_list_eq ?_ hu
  refine GQ.call_here F.slot_list_eq ⟨_, hl1, rfl⟩ F.entry_list_eq (F.args_list_eq_2 _ _) ?_
  exact list_eqN (R := wants (fun v s' => v ≠ .notImplemented ∧ Q v s') E) l b items items2 n n2 hsz hl1 hb1 ⟨(fun x => nomatch x), fin⟩
theorem rc_tupB {l b : Addr} {items items2 : Array Value} {bs : Nat → Bool} {Q : Value → Shared → Prop} (hu : A.units < cLine) (I : Shared → Prop)
    (hl : s.heap.IsTuple l items) (hb : s.heap.IsTuple b items2)
    (turn : ∀ i (h1 : i < items.size) (h2 : i < items2.size) s, I s → wpAny (model prog w) A.in1 (eqBool items[i] items2[i]) (fun r s' => r = bs i ∧ I s') E s)
    (fin : ∀ s, I s → Q (.bool (allF bs (min items.size items2.size) 0 && items.size == items2.size)) s) (h : I s) : wpAny (model prog w) A (richCompare .Eq (.ref l) (.ref b)) Q E s := by
  obtain ⟨⟨cls, dd, data, sl⟩, ho, hc, n, hd⟩ := id hl
  obtain ⟨⟨cls2, dd2, data2, sl2⟩, ho2, hc2, n2, hd2⟩ := id hb
  simp only at hc hd hc2 hd2
  subst hc hd hc2 hd2
  refine wpAny_richCompare_same_room (op := .Eq) ⟨_, ho, rfl⟩ ⟨_, ho2, rfl⟩ F.slot_tuple_eq ?_ hu
  refine GQ.call_here F.slot_tuple_eq ⟨_, ho, rfl⟩ F.entry_tuple_eq (F.args_tuple_eq_2 _ _) ?_
  exact tuple_eqB (R := wants (fun v s' => v ≠ .notImplemented ∧ Q v s') E) l b items items2 n n2 dd dd2 sl sl2 bs I turn (fun s' q => ⟨(fun x => nomatch x), fin s' q⟩) ho ho2 h
end
end TqE

/-! ### own __eq__: on the right of a builtin, and by != -/
namespace TqE
open PySem PySem.SeqAt PySem.W
open AutoSeq1 (wpAny_loadPart')
open MeetsSeq MeetsSeq2 MeetsSeq3 SeqRoads2
section
variable {prog : Program} {w : World} {A : Around} {E : Value → Shared → Prop} {s : Shared} {K : Frag} {x C f : Addr} {ox : Obj} {od : Option Obj} {name : Str} {a b tb : Value}
/-- a builtin slot that the class inherits -/
theorem ifBound_B {M : Model} {B id : String} {args : List Value} {Q : Option Value → Shared → Prop} (X : K.In s.heap) (I : InstAt s.heap x ox C od) (hs : findIn K (.ref C) name = some (some (.builtin id))) (S : Slot B name id)
    (h : wpAny M A (call (.builtin id) (.ref x :: args)) (fun v => Q (some v)) E s) : wpAny M A (callSpecialIfBound? (.ref x) name args) Q E s := by
  simp only [callSpecialIfBound?, bindSpecialIfBound?]
  refine wpAny_holding (wpAny_bind (wpAny_bind (wpAny_bind (I.type.here ((looks_findIn X hs).here ?_)))))
  simp only [S.bind]
  refine wpAny_bind (wpAny_askSetting (wpAny_ite ?_))
  have fin : wpAny M A (call (.builtin id) ([.ref x] ++ args) >>= fun v => pure (some v)) Q E s := wpAny_bind (wpAny_mono h (fun v s' z => wpAny_pure z) (fun _ _ z => z))
  split
  · exact wpAny_bind (wpAny_pure (wpAny_pure fin))
  · exact wpAny_tryCatch (wpAny_bind (wpAny_pure (wpAny_pure fin)))
theorem isObj {M : Model} (X : K.In s.heap) (I : InstAt s.heap x ox C od) (hm : mroIn K C (.type "object") = some true) : Looks M s.heap (isInstance (.ref x) (.type "object")) true :=
  I.type.andThen (looks_subIn X hm)
/-- x != b by the own __eq__ of x -/
theorem ne_own {Q : Value → Shared → Prop} (hu : A.units + 1 < cLine) (X : K.In s.heap) (I : InstAt s.heap x ox C od) (hb : Looks (model prog w) s.heap (typeOf b) tb) (hn : notFirst K C tb = true)
    (hne : findIn K (.ref C) "__ne__" = some (some (.builtin "object.__ne__"))) (hs : findIn K (.ref C) "__eq__" = some (some (.ref f))) (hf : isFn K (.ref f) = true) (hm : mroIn K C (.type "object") = some true)
    (h : wpAny (model prog w) A.in1 (call (.ref f) [.ref x, b]) (fun v s' => ∃ r, v = .bool r ∧ Q (.bool (!r)) s') E s) : wpAny (model prog w) A (richCompare .NotEq (.ref x) b) Q E s := by
  have one : wpAny (model prog w) A (tryCompare (.ref x) "__ne__" b) (fun r s' => ∃ v, r = some v ∧ Q v s') E s := by
    unfold tryCompare
    refine wpAny_bind (ifBound_B X I hne F.cmp_object.ne (wpAny_call (codeAny_call_builtin F.cmp_object.ne.plain F.cmpEntry_ne ?_)))
    refine check_slot F.cmpKind_ne F.cmpSplit_ne (isObj X I hm) (F.cmpArgs_ne _ _) ?_
    unfold Builtin.«object.__ne__»
    have hu1 : A.in1.units < cLine := hu
    refine wpAny_bind (wpAny_of_eq (a := ((Value.ref x : Value), [b])) (by first | rfl | (simp only [slotArgs]; rfl)) ?_)
    refine wpAny_bind (wpAny_cRoomFor hu1 ?_)
    refine wpAny_bind (ifBound_K X I hs hf (wpAny_mono h (fun v s' hv => ?_) fun _ _ e => e))
    obtain ⟨r, rfl, hq⟩ := hv
    refine wpAny_bind (wpAny_truthy_bool ?_)
    exact wpAny_pure (wpAny_pure ⟨_, rfl, hq⟩)
  unfold richCompare
  simp only [oneThing_ref]
  refine wpAny_holding (wpAny_bind (wpAny_cRoomFor (by omega) ?_))
  refine wpAny_bind (I.type.here (wpAny_bind (hb.here ?_)))
  split
  · rename_i q
    have e : subIn K tb (.ref C) = some false := by
      rcases Bool.or_eq_true_iff.mp hn with e | e
      · rw [beq_iff_eq.mp e] at q; simp at q
      · exact beq_iff_eq.mp e
    refine wpAny_bind ((looks_subIn X e).here ?_)
    simp only [Bool.false_eq_true, if_false]
    refine wpAny_bind (wpAny_mono one (fun r s' z => ?_) fun _ _ e => e)
    obtain ⟨v, rfl, hq⟩ := z
    exact wpAny_pure hq
  · refine wpAny_bind (wpAny_pure ?_)
    simp only [Bool.false_eq_true, if_false]
    refine wpAny_bind (wpAny_mono one (fun r s' z => ?_) fun _ _ e => e)
    obtain ⟨v, rfl, hq⟩ := z
    exact wpAny_pure hq
/-- a == x, a of a builtin type that declines, by the own __eq__ of x -/
theorem eq_right {Ta ida : String} {Q : Value → Shared → Prop} (hu : A.units < cLine) (X : K.In s.heap) (I : InstAt s.heap x ox C od) (ha : s.TypeIs a Ta) (h1 : Slot Ta "__eq__" ida)
    (hd : ∀ Q' : Value → Shared → Prop, Q' .notImplemented s → wpAny (model prog w) A (call (.builtin ida) [a, .ref x]) Q' E s) (hsub : subIn K (.ref C) (.type Ta) = some false)
    (hs : findIn K (.ref C) "__eq__" = some (some (.ref f))) (hf : isFn K (.ref f) = true)
    (h : wpAny (model prog w) A (call (.ref f) [.ref x, a]) (fun v s' => ∃ r, v = .bool r ∧ Q (.bool r) s') E s) : wpAny (model prog w) A (richCompare .Eq a (.ref x)) Q E s := by
  simp only [richCompare, ha.oneThing_none]
  refine wpAny_holding ?_
  refine wpAny_bind (wpAny_cRoomFor hu ?_)
  refine wpAny_bind (wpAny_typeOf ha (wpAny_bind (I.type.here ?_)))
  have hne : (Value.type Ta != Value.ref C) = true := rfl
  simp only [hne, if_true]
  refine wpAny_bind ((looks_subIn X hsub).here ?_)
  simp only [Bool.false_eq_true, if_false, Bool.not_false, if_true]
  refine wpAny_bind (m := tryCompare a _ (.ref x)) (wpAny_tryCompare_declines ha h1 (hd _ ⟨rfl, ?_⟩))
  unfold tryCompare
  refine wpAny_bind (wpAny_bind (ifBound_K X I hs hf (wpAny_mono h (fun v s' hv => ?_) fun _ _ e => e)))
  obtain ⟨r, rfl, hq⟩ := hv
  exact wpAny_pure (wpAny_pure hq)
theorem int_dec (b : Int) (u : Tok) (x C dx : Addr) : Meets (Builtin.«int.__eq__» ⟨[.int b u, .ref x], []⟩) (fun _ R s => s.heap.get? x = some (instObj C dx) ∧ R (.ok (.ret .notImplemented)) s) :=
  .of_wp fun prog w A R s h => by obtain ⟨hp, g, d, tk, os⟩ := s; obtain ⟨hl, h⟩ := h; unfold instObj at hl; wp_walk using wpAny_loadPart' hl, wpAny_load hl; exact ⟨_, rfl, h⟩
theorem str_dec (b : Str) (u : Tok) (x C dx : Addr) : Meets (Builtin.«str.__eq__» ⟨[.str b u, .ref x], []⟩) (fun _ R s => s.heap.get? x = some (instObj C dx) ∧ R (.ok (.ret .notImplemented)) s) :=
  .of_wp fun prog w A R s h => by obtain ⟨hp, g, d, tk, os⟩ := s; obtain ⟨hl, h⟩ := h; unfold instObj at hl; wp_walk using wpAny_loadPart' hl, wpAny_load hl; exact ⟨_, rfl, h⟩
theorem list_dec {R : Result → Shared → Prop} (X : K.In s.heap) (I : InstAt s.heap x ox C od) (hsub : subIn K (.ref C) (.type "list") = some false) (l : Addr) (h : R (.ok (.ret .notImplemented)) s) :
    wpAny (model prog w) A.in1 (Builtin.«list.__eq__» ⟨[.ref l, .ref x], []⟩) (GQ.FinOf prog w A R) (fun e s' => R (.error e) s') s := by
  have hi := looks_subIn (M := model prog w) X hsub
  have hat := I.at_
  have hc := I.cls
  obtain ⟨hp, g, d, tk, os⟩ := s
  wp_walk
  rw [hc]
  refine hi.here ?_
  wp_walk
  exact h
theorem tuple_dec {R : Result → Shared → Prop} (X : K.In s.heap) (I : InstAt s.heap x ox C od) (hsub : subIn K (.ref C) (.type "tuple") = some false) (l : Addr) (h : R (.ok (.ret .notImplemented)) s) :
    wpAny (model prog w) A.in1 (Builtin.«tuple.__eq__» ⟨[.ref l, .ref x], []⟩) (GQ.FinOf prog w A R) (fun e s' => R (.error e) s') s := by
  have hi := looks_subIn (M := model prog w) X hsub
  have hat := I.at_
  have hc := I.cls
  obtain ⟨hp, g, d, tk, os⟩ := s
  wp_walk
  rw [hc]
  refine hi.here ?_
  wp_walk
  exact h
end
end TqE

/-! ### values of own classes, lists, tuples in one another; == of them -/
namespace Tq
open PySem L2 PySem.Spec PyProof.Rows PySem.SeqAt
inductive MT where
  | at (v : V)
  | lst (xs : List MT)
  | tup (xs : List MT)
  | obj (k : Nat) (xs : List MT)
mutual
def eqM : MT → MT → Bool
  | .at v, .at u => eqV v u
  | .lst xs, .lst ys => eqL xs ys
  | .tup xs, .tup ys => eqL xs ys
  | .obj k xs, .obj j ys => decide (k = j) && eqL xs ys
  | _, _ => false
def eqL : List MT → List MT → Bool
  | [], [] => true
  | x :: xs, y :: ys => eqM x y && eqL xs ys
  | _, _ => false
end
mutual
def dep : MT → Nat
  | .at _ => 0
  | .lst xs => depL xs + 1
  | .tup xs => depL xs + 1
  | .obj _ xs => depL xs + 1
def depL : List MT → Nat
  | [] => 0
  | x :: xs => max (dep x) (depL xs)
end
/-- None, a number or a text -/
def isAt : V → Bool
  | .non => true
  | .int _ => true
  | .str _ => true
  | _ => false
mutual
inductive OR (c : Nat → Addr) (fl : Nat → List Str) (H : Hp) : V → MT → Prop where
  | at {v : V} : isAt v = true → OR c fl H v (.at v)
  | lst {p : Addr} {vs : List V} {ms : List MT} : H p = some (.lst vs) → ORs c fl H vs ms → OR c fl H (.ref p) (.lst ms)
  | tup {p : Addr} {vs : List V} {ms : List MT} : H p = some (.tup vs) → ORs c fl H vs ms → OR c fl H (.ref p) (.tup ms)
  | obj {p dx : Addr} {k : Nat} {vs : List V} {ms : List MT} : H p = some (.ins (c k) dx ((fl k).zip vs)) → k < 4 → vs.length = (fl k).length → ORs c fl H vs ms → OR c fl H (.ref p) (.obj k ms)
inductive ORs (c : Nat → Addr) (fl : Nat → List Str) (H : Hp) : List V → List MT → Prop where
  | nil : ORs c fl H [] []
  | cons {v : V} {vs : List V} {m : MT} {ms : List MT} : OR c fl H v m → ORs c fl H vs ms → ORs c fl H (v :: vs) (m :: ms)
end
section
variable {c : Nat → Addr} {fl : Nat → List Str} {H H' : Hp}
theorem ORs.length : ∀ {vs : List V} {ms : List MT}, ORs c fl H vs ms → vs.length = ms.length
  | _, _, .nil => rfl
  | _, _, .cons _ h => by rw [List.length_cons, List.length_cons, h.length]
theorem ORs.get : ∀ {vs : List V} {ms : List MT}, ORs c fl H vs ms → ∀ {i : Nat} {v : V}, vs[i]? = some v → ∃ m, ms[i]? = some m ∧ OR c fl H v m
  | _, _, .nil, i, v, h => by simp at h
  | v0 :: _, m0 :: _, .cons a t, 0, v, h => by
    have e : v0 = v := by simpa using h
    subst e
    exact ⟨m0, rfl, a⟩
  | _, _, .cons a t, i + 1, v, h => by
    obtain ⟨m, h1, h2⟩ := t.get (i := i) (v := v) (by simpa using h)
    exact ⟨m, by simpa using h1, h2⟩
mutual
theorem OR.same (e : Same H H') : ∀ {v : V} {m : MT}, OR c fl H v m → OR c fl H' v m
  | _, _, .at h => .at h
  | _, _, .lst h t => .lst (e _ _ h) (t.same e)
  | _, _, .tup h t => .tup (e _ _ h) (t.same e)
  | _, _, .obj h k l t => .obj (e _ _ h) k l (t.same e)
theorem ORs.same (e : Same H H') : ∀ {vs : List V} {ms : List MT}, ORs c fl H vs ms → ORs c fl H' vs ms
  | _, _, .nil => .nil
  | _, _, .cons a t => .cons (a.same e) (t.same e)
end
/-- one place, one value -/
theorem zip_inj : ∀ {l : List Str} {a b : List V}, l.zip a = l.zip b → a.length = l.length → b.length = l.length → a = b
  | [], [], [], _, _, _ => rfl
  | [], _ :: _, _, _, h, _ => by simp at h
  | [], _, _ :: _, _, _, h => by simp at h
  | x :: l, [], _, _, h, _ => by simp at h
  | x :: l, _ :: _, [], _, _, h => by simp at h
  | x :: l, a :: as, b :: bs, e, h, k => by
    simp only [List.zip_cons_cons] at e
    injection e with e1 e2
    injection e1 with _ e3
    rw [e3, zip_inj e2 (by simpa using h) (by simpa using k)]
mutual
theorem OR.inj (hc : ∀ j k, j < 4 → k < 4 → c j = c k → j = k) : ∀ {v : V} {m m' : MT}, OR c fl H v m → OR c fl H v m' → m = m'
  | _, _, _, .at h, b => by
    cases b with
    | «at» _ => rfl
    | lst _ _ => cases h
    | tup _ _ => cases h
    | obj _ _ _ _ => cases h
  | _, _, _, .lst h t, b => by
    cases b with
    | «at» g => cases g
    | lst g u =>
      have := h.symm.trans g
      cases this
      rw [t.inj hc u]
    | tup g u => have := h.symm.trans g; cases this
    | obj g _ _ u => have := h.symm.trans g; cases this
  | _, _, _, .tup h t, b => by
    cases b with
    | «at» g => cases g
    | tup g u =>
      have := h.symm.trans g
      cases this
      rw [t.inj hc u]
    | lst g u => have := h.symm.trans g; cases this
    | obj g _ _ u => have := h.symm.trans g; cases this
  | _, _, _, .obj h k l t, b => by
    cases b with
    | «at» g => cases g
    | lst g u => have := h.symm.trans g; cases this
    | tup g u => have := h.symm.trans g; cases this
    | obj g k' l' u =>
      have e := h.symm.trans g
      injection e with e
      injection e with e1 e2 e3
      obtain rfl := hc _ _ k k' e1
      obtain rfl := zip_inj e3 l l'
      rw [t.inj hc u]
theorem ORs.inj (hc : ∀ j k, j < 4 → k < 4 → c j = c k → j = k) : ∀ {vs : List V} {ms ms' : List MT}, ORs c fl H vs ms → ORs c fl H vs ms' → ms = ms'
  | _, _, _, .nil, .nil => rfl
  | _, _, _, .cons a t, .cons b u => by rw [a.inj hc b, t.inj hc u]
end
mutual
theorem OR.refl : ∀ {v : V} {m : MT}, OR c fl H v m → eqM m m = true
  | _, _, .at (v := v) h => by
    unfold eqM
    cases v <;> first | rfl | (simp [eqV]; done) | cases h
  | _, _, .lst _ t => by unfold eqM; exact t.refl
  | _, _, .tup _ t => by unfold eqM; exact t.refl
  | _, _, .obj _ _ _ t => by unfold eqM; rw [t.refl, decide_eq_true rfl]; rfl
theorem ORs.refl : ∀ {vs : List V} {ms : List MT}, ORs c fl H vs ms → eqL ms ms = true
  | _, _, .nil => by unfold eqL; rfl
  | _, _, .cons a t => by unfold eqL; rw [a.refl, t.refl]; rfl
end
end
/-- the answers item by item -/
def bsOf (xs ys : List MT) (i : Nat) : Bool := match xs[i]?, ys[i]? with
  | some x, some y => eqM x y
  | _, _ => true
theorem eqL_bs : ∀ (xs ys : List MT), xs.length = ys.length → eqL xs ys = TqE.allF (bsOf xs ys) xs.length 0
  | [], [], _ => by unfold eqL; rfl
  | [], _ :: _, h => by simp at h
  | _ :: _, [], h => by simp at h
  | x :: xs, y :: ys, h => by
    have ih := eqL_bs xs ys (by simpa using h)
    unfold eqL
    rw [List.length_cons, TqE.allF_step (by omega), ih]
    congr 1
    unfold TqE.allF
    rw [Nat.sub_zero, show xs.length + 1 - (0 + 1) = xs.length by omega]
    rw [show List.range' (0 + 1) xs.length = (List.range' 0 xs.length).map (fun x => 1 + x) by rw [List.map_add_range']]
    rw [List.all_map]
    congr 1
    funext i
    unfold bsOf
    rw [Function.comp_apply, Nat.add_comm]
    rfl
theorem eqL_len : ∀ (xs ys : List MT), xs.length ≠ ys.length → eqL xs ys = false
  | [], [], h => absurd rfl h
  | [], _ :: _, _ => by unfold eqL; rfl
  | _ :: _, [], _ => by unfold eqL; rfl
  | x :: xs, y :: ys, h => by
    unfold eqL
    rw [eqL_len xs ys (by simpa using h), Bool.and_false]
end Tq

namespace Tq
open PySem L2 PySem.Spec PyProof.Rows PySem.SeqAt PySem.MeetsSeq
def tyNames : List String := ["list", "tuple", "int", "str", "NoneType"]
structure EqC (K : PySem.W.Frag) (c f : Nat → Addr) : Prop where
  cls : ∀ k, k < 4 → Cls K (c k)
  eq : ∀ k, k < 4 → PySem.W.findIn K (.ref (c k)) "__eq__" = some (some (.ref (f k)))
  fn : ∀ k, k < 4 → PySem.W.isFn K (.ref (f k)) = true
  ne : ∀ k, k < 4 → PySem.W.findIn K (.ref (c k)) "__ne__" = some (some (.builtin "object.__ne__"))
  hm : ∀ k, k < 4 → PySem.W.mroIn K (c k) (.type "object") = some true
  sub : ∀ j k, j < 4 → k < 4 → j ≠ k → PySem.W.subIn K (.ref (c j)) (.ref (c k)) = some false
  subB : ∀ k, k < 4 → ∀ T ∈ tyNames, PySem.W.subIn K (.ref (c k)) (.type T) = some false
  inj : ∀ j k, j < 4 → k < 4 → c j = c k → j = k
theorem sub_ty {K : PySem.W.Frag} {C : Addr} {T : String} (h : T ∈ tyNames) : PySem.W.subIn K (.type T) (.ref C) = some false := by
  have key : ∀ T : String, ((PySem.fastBuiltinMro T).map fun m => m.all fun v => match v with | .ref _ => false | _ => true) = some true → PySem.W.subIn K (.type T) (.ref C) = some false := by
    intro T hm
    show (PySem.fastBuiltinMro T).map (·.contains (Value.ref C)) = some false
    obtain ⟨m, e1, e2⟩ := Option.map_eq_some_iff.mp hm
    rw [e1]
    show some (m.contains (Value.ref C)) = some false
    congr 1
    rw [← Bool.not_eq_true, List.contains_iff_mem]
    intro hmem
    have := List.all_eq_true.mp e2 _ hmem
    cases this
  simp only [tyNames, List.mem_cons, List.not_mem_nil, or_false] at h
  rcases h with rfl | rfl | rfl | rfl | rfl <;> exact key _ (by decide +kernel)
/-- the own == of the class k, for values of at most n + 1 -/
def spEqM (c : Nat → Addr) (fl : Nat → List Str) (k n : Nat) : Sp := fun vs H Q _ => ∃ (p : Addr) (v : V) (ms : List MT) (m : MT), vs = [.ref p, v] ∧ OR c fl H (.ref p) (.obj k ms) ∧ OR c fl H v m ∧
  dep (.obj k ms) ≤ n + 1 ∧ dep m ≤ n + 1 ∧ Q (.bl (eqM (.obj k ms) m)) H
structure EqF (P : Program) (w : World) (K : PySem.W.Frag) (mg : Str → Option Value) (base : Heap) (c f : Nat → Addr) (fl : Nat → List Str) (n : Nat) : Prop where
  ok : ∀ k, k < 4 → ∃ (fd : FuncData) (ps : List Str), FnOk P w K mg base CX0 (n + 1) (f k) fd ps (spEqM c fl k n) ∧ Binds K fd ps []
def RcM (X : Cx) (c : Nat → Addr) (fl : Nat → List Str) (n : Nat) : Prop :=
  ∀ (A : Around) (pins : List (Addr × Obj)) (s : Shared) (σ : L2.St) (H : Hp) (x y : V) (u v : Value) (m1 m2 : MT), Sub X n A → Inv X pins σ H s → RelV x u → RelV y v → OR c fl H x m1 → OR c fl H y m2 → dep m1 ≤ n → dep m2 ≤ n →
    wpAny (model X.prog X.w) A (richCompare .Eq u v) (fun r s' => r = .bool (eqM m1 m2) ∧ Inv X pins σ H s') X.xe s
def EqM (X : Cx) (c : Nat → Addr) (fl : Nat → List Str) (n : Nat) : Prop :=
  ∀ (A : Around) (pins : List (Addr × Obj)) (s : Shared) (σ : L2.St) (H : Hp) (x y : V) (u v : Value) (m1 m2 : MT), Sub X n A → Inv X pins σ H s → RelV x u → RelV y v → OR c fl H x m1 → OR c fl H y m2 → dep m1 ≤ n → dep m2 ≤ n →
    wpAny (model X.prog X.w) A (eqBool u v) (fun r s' => r = eqM m1 m2 ∧ Inv X pins σ H s') X.xe s
section
variable {X : Cx} {c f : Nat → Addr} {fl : Nat → List Str} {n : Nat}
/-- two plain values -/
theorem rc_at {A : Around} {s : Shared} {x y : V} {u v : Value} (rx : RelV x u) (ry : RelV y v) (hx : isAt x = true) (hy : isAt y = true) : RcAt A s u v (eqV x y) := by
  cases x <;> cases hx <;> cases y <;> cases hy <;> (try obtain ⟨t, rfl⟩ := rx) <;> (try obtain ⟨t', rfl⟩ := ry) <;> (try cases (show u = Value.none from rx)) <;> (try cases (show v = Value.none from ry))
  · exact RcAt.none_none
  · exact RcAt.none_int _ _
  · exact RcAt.none_str _ _
  · exact RcAt.int_none _ _
  · exact RcAt.int_int _ _ _ _
  · exact RcAt.int_str _ _ _ _
  · exact RcAt.str_none _ _
  · exact RcAt.str_int _ _ _ _
  · exact RcAt.str_str _ _ _ _
theorem rcM_zero : RcM X c fl 0 := by
  intro A pins s σ H x y u v m1 m2 sb I rx ry o1 o2 d1 d2
  cases o1 with
  | «at» h1 =>
    cases o2 with
    | «at» h2 =>
      have := rc_at (A := A) (s := s) rx ry h1 h2 X.prog X.w X.xe
      refine this _ ⟨?_, I⟩
      unfold eqM
      rfl
    | lst _ _ => simp only [dep] at d2; omega
    | tup _ _ => simp only [dep] at d2; omega
    | obj _ _ _ _ => simp only [dep] at d2; omega
  | lst _ _ => simp only [dep] at d1; omega
  | tup _ _ => simp only [dep] at d1; omega
  | obj _ _ _ _ => simp only [dep] at d1; omega
theorem OR.kind {H : Hp} {v : V} {m : MT} (h : OR c fl H v m) : (isAt v = true ∧ m = .at v) ∨ ∃ p, v = .ref p := by
  cases h with
  | «at» h => exact Or.inl ⟨h, rfl⟩
  | lst _ _ => exact Or.inr ⟨_, rfl⟩
  | tup _ _ => exact Or.inr ⟨_, rfl⟩
  | obj _ _ _ _ => exact Or.inr ⟨_, rfl⟩
def plainV : Value → Bool
  | .none => true
  | .int _ _ => true
  | .str _ _ => true
  | .ref _ => true
  | _ => false
theorem rel_plain {x : V} {u : Value} (h : isAt x = true ∨ ∃ p, x = .ref p) (r : RelV x u) : plainV u = true := by
  rcases h with h | ⟨p, rfl⟩
  · cases x <;> cases h <;> first | (obtain ⟨t, rfl⟩ := r; rfl) | (cases r; rfl)
  · cases r
    rfl
theorem eqBool_rc {M : Model} {A : Around} {E : Value → Shared → Prop} {s : Shared} {u v : Value} {Q : Bool → Shared → Prop} (hu : plainV u = true) (hne : u ≠ v)
    (h : wpAny M A (richCompare .Eq u v) (fun r s' => ∃ b, r = .bool b ∧ Q b s') E s) : wpAny M A (eqBool u v) Q E s := by
  unfold eqBool
  refine wpAny_holding ?_
  refine wpAny_ite_split (fun q => absurd (eq_of_beq q) hne) (fun _ => ?_)
  have fin : wpAny M A (richCompare .Eq u v >>= truthOfDropped) Q E s := wpAny_bind (wpAny_mono h (fun r s' hr => by
    obtain ⟨b, rfl, q⟩ := hr
    exact wpAny_truthy_bool q) fun _ _ z => z)
  cases u <;> cases hu <;> exact fin
theorem isAt_flat {x : V} (h : isAt x = true) : flatV x = true := by cases x <;> cases h <;> rfl
/-- within a list the same object is equal to itself -/
theorem RcM.eqM (T : ∀ j k, j < 4 → k < 4 → c j = c k → j = k) (h : RcM X c fl n) : EqM X c fl n := by
  intro A pins s σ H x y u v m1 m2 sb I rx ry o1 o2 d1 d2
  rcases o1.kind with ⟨a1, rfl⟩ | ⟨p, rfl⟩
  · rcases o2.kind with ⟨a2, rfl⟩ | ⟨q, rfl⟩
    · have := eqAt_V (A := A) (s := s) rx ry (isAt_flat a1) (isAt_flat a2)
      refine this X.prog X.w X.xe _ ⟨?_, I⟩
      unfold Tq.eqM
      rfl
    · refine eqBool_rc (rel_plain (Or.inl a1) rx) (fun e => ?_) (wpAny_mono (h A pins s σ H x _ u v _ m2 sb I rx ry o1 o2 d1 d2) (fun r s' hr => ⟨_, hr.1, rfl, hr.2⟩) fun _ _ z => z)
      cases ry
      subst e
      cases x <;> cases a1 <;> first | (obtain ⟨t, z⟩ := rx; cases z) | cases rx
  · rcases o2.kind with ⟨a2, rfl⟩ | ⟨q, rfl⟩
    · refine eqBool_rc (rel_plain (Or.inr ⟨_, rfl⟩) rx) (fun e => ?_) (wpAny_mono (h A pins s σ H _ y u v m1 _ sb I rx ry o1 o2 d1 d2) (fun r s' hr => ⟨_, hr.1, rfl, hr.2⟩) fun _ _ z => z)
      cases rx
      subst e
      cases y <;> cases a2 <;> first | (obtain ⟨t, z⟩ := ry; cases z) | cases ry
    · cases rx
      cases ry
      by_cases e : p = q
      · subst e
        obtain rfl := o1.inj T o2
        rw [o1.refl]
        exact SeqAt.EqAt.same (A := A) (s := s) (.ref p) X.prog X.w X.xe _ ⟨rfl, I⟩
      · exact eqBool_rc rfl (fun z => e (by injection z)) (wpAny_mono (h A pins s σ H (.ref p) (.ref q) _ _ m1 m2 sb I rfl rfl o1 o2 d1 d2) (fun r s' hr => ⟨_, hr.1, rfl, hr.2⟩) fun _ _ z => z)
theorem depL_le : ∀ {ms : List MT} {i : Nat} {m : MT}, ms[i]? = some m → dep m ≤ depL ms
  | [], i, m, h => by simp at h
  | x :: xs, 0, m, h => by
    have e : x = m := by simpa using h
    subst e
    unfold depL
    omega
  | x :: xs, i + 1, m, h => by
    have := depL_le (ms := xs) (i := i) (m := m) (by simpa using h)
    unfold depL
    omega
/-- one turn over two rows of items -/
theorem turnM (h : EqM X c fl n) {A : Around} (sb : Sub X (n + 1) A) {pins : List (Addr × Obj)} {σ : L2.St} {H : Hp} {xs ys : List V} {its its2 : List Value} {ms ms2 : List MT} (o1 : ORs c fl H xs ms) (o2 : ORs c fl H ys ms2) (d1 : depL ms ≤ n) (d2 : depL ms2 ≤ n)
    (r : Vals xs its) (r2 : Vals ys its2) (i : Nat) (h1 : i < its.toArray.size) (h2 : i < its2.toArray.size) (s' : Shared) (I : Inv X pins σ H s') :
    wpAny (model X.prog X.w) A.in1 (eqBool its.toArray[i] its2.toArray[i]) (fun r s2 => r = bsOf ms ms2 i ∧ Inv X pins σ H s2) X.xe s' := by
  have g1 : its[i]? = some its.toArray[i] := by
    have h1' : i < its.length := by simpa using h1
    rw [List.getElem?_eq_getElem h1'] <;> simp
  have g2 : its2[i]? = some its2.toArray[i] := by
    have h2' : i < its2.length := by simpa using h2
    rw [List.getElem?_eq_getElem h2'] <;> simp
  have k1 : i < xs.length := by rw [r.length]; simpa using h1
  have k2 : i < ys.length := by rw [r2.length]; simpa using h2
  obtain ⟨u, hu, ru⟩ := r.get (List.getElem?_eq_getElem k1)
  obtain ⟨v, hv, rv⟩ := r2.get (List.getElem?_eq_getElem k2)
  obtain ⟨m, hm, om⟩ := o1.get (List.getElem?_eq_getElem k1)
  obtain ⟨m', hm', om'⟩ := o2.get (List.getElem?_eq_getElem k2)
  rw [g1] at hu
  rw [g2] at hv
  rw [Option.some.inj hu, Option.some.inj hv]
  have e : bsOf ms ms2 i = Tq.eqM m m' := by
    unfold bsOf
    rw [hm, hm']
  rw [e]
  exact h A.in1 pins s' σ H _ _ u v m m' sb.in1 I ru rv om om' (Nat.le_trans (depL_le hm) d1) (Nat.le_trans (depL_le hm') d2)
theorem looks_at {M : Model} {s : Shared} {x : V} {u : Value} (h : isAt x = true) (r : RelV x u) : ∃ T ∈ tyNames, PySem.W.Looks M s.heap (typeOf u) (.type T) ∧ s.TypeIs u T := by
  cases x <;> cases h
  · cases r
    exact ⟨"NoneType", by decide, .of_pure rfl, rfl⟩
  · obtain ⟨t, rfl⟩ := r
    exact ⟨"int", by decide, .of_pure rfl, typeIs_int _ _ _⟩
  · obtain ⟨t, rfl⟩ := r
    exact ⟨"str", by decide, .of_pure rfl, typeIs_str _ _ _⟩
theorem looks_obj {M : Model} {h : Heap} {a : Addr} {o : Obj} {t : Value} (e : h.get? a = some o) (hc : o.cls = t) : PySem.W.Looks M h (typeOf (.ref a)) t := hc ▸ (PySem.W.Looks.ld e).andThen .now
end
end Tq

namespace Tq
open PySem L2 PySem.Spec PyProof.Rows PySem.SeqAt PySem.MeetsSeq
section
variable {X : Cx} {c f : Nat → Addr} {fl : Nat → List Str} {n : Nat}
theorem callEq (F : EqF X.prog X.w X.K X.mg X.base c f fl n) {A : Around} {pins : List (Addr × Obj)} {s : Shared} {σ : L2.St} {H : Hp} {p : Addr} {k : Nat} {ms : List MT} {y : V} {v : Value} {m : MT} (sb : Sub X (n + 1) A) (I : Inv X pins σ H s) (hk : k < 4)
    (ry : RelV y v) (o1 : OR c fl H (.ref p) (.obj k ms)) (o2 : OR c fl H y m) (d1 : dep (.obj k ms) ≤ n + 1) (d2 : dep m ≤ n + 1) :
    wpAny (model X.prog X.w) A (call (.ref (f k)) [.ref p, v]) (fun r s' => r = .bool (Tq.eqM (.obj k ms) m) ∧ Inv X pins σ H s') X.xe s := by
  obtain ⟨fd, ps, G, hb⟩ := F.ok k hk
  have hsp : spEqM c fl k n [.ref p, y] H (fun z H' => z = .bl (Tq.eqM (.obj k ms) m) ∧ H' = H) E0 := ⟨p, y, ms, m, rfl, o1, o2, d1, d2, rfl, rfl⟩
  have e0 : Env0 X.prog X.w X.K X.mg X.base A X.stack s H := by
    have e := I.env0
    exact ⟨by rw [sb.fr]; exact e.frames, e.mod, e.bs, e.bsz, e.funs, e.frf, e.hok, e.bare⟩
  have hl := G.len _ _ _ _ hsp
  have r2 : Vals [V.ref p, y] [Value.ref p, v] := .cons rfl (.cons ry .nil)
  refine wpAny_call (codeAny_mono (G.run A X.stack s H ⟨[.ref p, v], []⟩ [.ref p, v] [.ref p, y] _ E0 sb.room e0 (by
    have := hb s [.ref p, v] I.kIn (by simpa using hl)
    simpa using this) r2 hsp) fun r s' hq => ?_)
  cases r with
  | error e => exact (hq : False).elim
  | ok fl' =>
    cases fl' with
    | ret z =>
      obtain ⟨z', H', I', rz, ez, rfl⟩ := I.after hq
      subst ez
      cases rz
      exact ⟨rfl, I'⟩
    | next => exact False.elim hq
    | brk => exact False.elim hq
    | cont => exact False.elim hq
theorem inst_of {pins : List (Addr × Obj)} {s : Shared} {σ : L2.St} {H : Hp} {p dx C : Addr} {fs : List (Str × V)} (I : Inv X pins σ H s) (h : H p = some (.ins C dx fs)) :
    ∃ od, PySem.W.InstAt s.heap p (PySem.W.instObj C dx) C (some od) := by
  obtain ⟨mA, J, _⟩ := ins_get I.hok h
  obtain ⟨od, J, _⟩ := J.look
  exact ⟨od, J⟩
theorem list_of {pins : List (Addr × Obj)} {s : Shared} {σ : L2.St} {H : Hp} {p : Addr} {vs : List V} (I : Inv X pins σ H s) (h : H p = some (.lst vs)) :
    ∃ (its : List Value) (k : Nat), Vals vs its ∧ s.heap.get? p = some { cls := .type "list", data := .seq its.toArray k } := by
  obtain ⟨z, its, k, r, e⟩ := I.hok p _ h
  exact ⟨its, k, r, e⟩
theorem tup_of {pins : List (Addr × Obj)} {s : Shared} {σ : L2.St} {H : Hp} {p : Addr} {vs : List V} (I : Inv X pins σ H s) (h : H p = some (.tup vs)) :
    ∃ its : List Value, Vals vs its ∧ s.heap.IsTuple p its.toArray := by
  obtain ⟨its, r, e, z⟩ := I.tuple (.inl (.inl h) : SqT X.K H p vs)
  exact ⟨its, r, e⟩
theorem isList_of {h : Heap} {p : Addr} {its : Array Value} {k : Nat} (e : h.get? p = some { cls := .type "list", data := .seq its k }) : h.IsList p its := ⟨_, e, rfl, _, rfl⟩
/-- the type of a value, by its model -/
theorem looks_of (T : EqC X.K c f) {pins : List (Addr × Obj)} {s : Shared} {σ : L2.St} {H : Hp} {y : V} {v : Value} {m : MT} {k : Nat} (I : Inv X pins σ H s) (ry : RelV y v) (o : OR c fl H y m) (hk : k < 4) :
    ∃ tb, PySem.W.Looks (model X.prog X.w) s.heap (typeOf v) tb ∧ PySem.W.notFirst X.K (c k) tb = true := by
  have nf : ∀ Tn ∈ tyNames, PySem.W.notFirst X.K (c k) (.type Tn) = true := fun Tn hT => by
    unfold PySem.W.notFirst
    rw [sub_ty hT]
    simp
  cases o with
  | «at» h =>
    obtain ⟨Tn, hT, l, _⟩ := looks_at (M := model X.prog X.w) (s := s) h ry
    exact ⟨_, l, nf Tn hT⟩
  | lst h _ =>
    obtain ⟨its, kk, _, e⟩ := list_of I h
    cases ry
    exact ⟨_, looks_obj e rfl, nf "list" (by decide)⟩
  | tup h _ =>
    obtain ⟨its, _, o, e, hc, _⟩ := tup_of I h
    cases ry
    exact ⟨_, looks_obj e hc, nf "tuple" (by decide)⟩
  | @obj p dx jj vs ms h j _ _ =>
    obtain ⟨od, J⟩ := inst_of I h
    cases ry
    refine ⟨_, J.type, ?_⟩
    unfold PySem.W.notFirst
    by_cases e : jj = k
    · rw [e]; simp
    · rw [T.sub jj k j hk e]; simp
theorem rcM_succ (T : EqC X.K c f) (h : RcM X c fl n) (F : EqF X.prog X.w X.K X.mg X.base c f fl n) : RcM X c fl (n + 1) := by
  have hE := h.eqM T.inj
  intro A pins s σ H x y u v m1 m2 sb I rx ry o1 o2 d1 d2
  have hu := sb.room.units0
  have at_false : ∀ {xs : List MT} {z : V}, Tq.eqM (.at z) (.lst xs) = false ∧ Tq.eqM (.at z) (.tup xs) = false ∧ Tq.eqM (.lst xs) (.at z) = false ∧ Tq.eqM (.tup xs) (.at z) = false := by
    intro xs z
    refine ⟨?_, ?_, ?_, ?_⟩ <;> (unfold Tq.eqM; rfl)
  have right : ∀ {p dx : Addr} {j : Nat} {vs : List V} {ms : List MT} {Tn ida : String}, H p = some (.ins (c j) dx ((fl j).zip vs)) → j < 4 → vs.length = (fl j).length → ORs c fl H vs ms → dep (.obj j ms) ≤ n + 1 → Tn ∈ tyNames → s.TypeIs u Tn → Slot Tn "__eq__" ida →
      (∀ Q' : Value → Shared → Prop, Q' .notImplemented s → wpAny (model X.prog X.w) A (call (.builtin ida) [u, .ref p]) Q' X.xe s) → Tq.eqM m1 (.obj j ms) = false → Tq.eqM (.obj j ms) m1 = false →
      wpAny (model X.prog X.w) A (richCompare .Eq u (.ref p)) (fun r s' => r = .bool (Tq.eqM m1 (.obj j ms)) ∧ Inv X pins σ H s') X.xe s := by
    intro p dx j vs ms Tn ida hp hj hl ho hd hT ht hS hdec e1 e2
    obtain ⟨od, J⟩ := inst_of I hp
    refine TqE.eq_right hu I.kIn J ht hS hdec (T.subB j hj Tn hT) (T.eq j hj) (T.fn j hj) (wpAny_mono (callEq F sb I hj rx (.obj hp hj hl ho) o1 hd d1) (fun r s' hr => ?_) fun _ _ z => z)
    exact ⟨_, hr.1, by rw [e1, e2], hr.2⟩
  cases o1 with
  | «at» a1 =>
    cases o2 with
    | «at» a2 =>
      refine rc_at (A := A) (s := s) rx ry a1 a2 X.prog X.w X.xe _ ⟨?_, I⟩
      unfold Tq.eqM
      rfl
    | lst g t =>
      obtain ⟨its, kk, _, e⟩ := list_of I g
      cases ry
      rw [at_false.1]
      cases x <;> cases a1
      · cases rx; exact RcAt.none_list (isList_of e) hu X.prog X.w X.xe _ ⟨rfl, I⟩
      · obtain ⟨t, rfl⟩ := rx; exact RcAt.int_list _ _ (isList_of e) hu X.prog X.w X.xe _ ⟨rfl, I⟩
      · obtain ⟨t, rfl⟩ := rx; exact RcAt.str_list _ _ (isList_of e) hu X.prog X.w X.xe _ ⟨rfl, I⟩
    | tup g t =>
      obtain ⟨its, _, e⟩ := tup_of I g
      cases ry
      rw [at_false.2.1]
      cases x <;> cases a1
      · cases rx; exact RcAt.none_tuple e hu X.prog X.w X.xe _ ⟨rfl, I⟩
      · obtain ⟨t, rfl⟩ := rx; exact RcAt.int_tuple _ _ e hu X.prog X.w X.xe _ ⟨rfl, I⟩
      · obtain ⟨t, rfl⟩ := rx; exact RcAt.str_tuple _ _ e hu X.prog X.w X.xe _ ⟨rfl, I⟩
    | obj g j hl t =>
      have gi := (inst_of I g).choose_spec.at_
      cases ry
      cases x <;> cases a1
      · cases rx
        exact right g j hl t d2 (Tn := "NoneType") (by decide) rfl PySem.F.slot_NoneType_eq (fun _ hq => call_gives PySem.F.slot_NoneType_eq rfl PySem.F.entry_NoneType_eq (PySem.F.args_NoneType_eq_2 _ _) (NoneType___eq___none_ref_0 _) hq) (by unfold Tq.eqM; rfl) (by unfold Tq.eqM; rfl)
      · obtain ⟨t', rfl⟩ := rx
        exact right g j hl t d2 (Tn := "int") (by decide) (typeIs_int _ _ _) PySem.F.slot_int_eq (fun _ hq => call_meets PySem.F.slot_int_eq (typeIs_int _ _ _) PySem.F.entry_int_eq (PySem.F.args_int_eq_2 _ _) (TqE.int_dec _ _ _ _ _) ⟨gi, hq⟩) (by unfold Tq.eqM; rfl) (by unfold Tq.eqM; rfl)
      · obtain ⟨t', rfl⟩ := rx
        exact right g j hl t d2 (Tn := "str") (by decide) (typeIs_str _ _ _) PySem.F.slot_str_eq (fun _ hq => call_meets PySem.F.slot_str_eq (typeIs_str _ _ _) PySem.F.entry_str_eq (PySem.F.args_str_eq_2 _ _) (TqE.str_dec _ _ _ _ _) ⟨gi, hq⟩) (by unfold Tq.eqM; rfl) (by unfold Tq.eqM; rfl)
  | @lst p vs1 ms1 h1 t1 =>
    obtain ⟨its, kk, r1, e1⟩ := list_of I h1
    cases rx
    have d1' : depL ms1 ≤ n := by simp only [dep] at d1; omega
    cases o2 with
    | «at» a2 =>
      rw [at_false.2.2.1]
      cases y <;> cases a2
      · cases ry; exact RcAt.list_none (isList_of e1) hu X.prog X.w X.xe _ ⟨rfl, I⟩
      · obtain ⟨t, rfl⟩ := ry; exact RcAt.list_int _ _ (isList_of e1) hu X.prog X.w X.xe _ ⟨rfl, I⟩
      · obtain ⟨t, rfl⟩ := ry; exact RcAt.list_str _ _ (isList_of e1) hu X.prog X.w X.xe _ ⟨rfl, I⟩
    | @lst q vs2 ms2 h2 t2 =>
      cases ry
      have d2' : depL ms2 ≤ n := by simp only [dep] at d2; omega
      have l1 := t1.length
      have l2 := t2.length
      have ee : Tq.eqM (.lst ms1) (.lst ms2) = eqL ms1 ms2 := by unfold Tq.eqM; rfl
      by_cases hN : ms1.length = ms2.length
      · refine TqE.rc_listB (N := ms1.length) (bs := bsOf ms1 ms2) hu (fun s' => Inv X pins σ H s') (fun s' J => ?_) (fun s' J => ⟨by rw [ee, eqL_bs _ _ hN], J⟩) I
        obtain ⟨it1, k1, v1, g1⟩ := list_of J h1
        obtain ⟨it2, k2, v2, g2⟩ := list_of J h2
        exact ⟨it1.toArray, it2.toArray, k1, k2, g1, g2, by rw [List.size_toArray, ← v1.length, l1], by rw [List.size_toArray, ← v2.length, l2, hN], fun i z1 z2 => turnM hE sb t1 t2 d1' d2' v1 v2 i z1 z2 s' J⟩
      · obtain ⟨it2, k2, v2, g2⟩ := list_of I h2
        refine TqE.rc_listN hu (fun z => hN ?_) e1 g2 ⟨by rw [ee, eqL_len _ _ hN], I⟩
        rw [List.size_toArray, List.size_toArray, ← r1.length, ← v2.length, l1, l2] at z
        exact z
    | tup h2 t2 =>
      obtain ⟨it2, _, e2⟩ := tup_of I h2
      cases ry
      exact RcAt.list_tuple (isList_of e1) e2 hu X.prog X.w X.xe _ ⟨by unfold Tq.eqM; rfl, I⟩
    | obj g j hl t =>
      obtain ⟨od, J⟩ := inst_of I g
      cases ry
      exact right g j hl t d2 (Tn := "list") (by decide) ⟨_, e1, rfl⟩ PySem.F.slot_list_eq (fun _ hq => GQ.call_here PySem.F.slot_list_eq ⟨_, e1, rfl⟩ PySem.F.entry_list_eq (PySem.F.args_list_eq_2 _ _) (TqE.list_dec I.kIn J (T.subB _ j "list" (by decide)) _ hq)) (by unfold Tq.eqM; rfl) (by unfold Tq.eqM; rfl)
  | @tup p vs1 ms1 h1 t1 =>
    obtain ⟨its, r1, e1⟩ := tup_of I h1
    cases rx
    have d1' : depL ms1 ≤ n := by simp only [dep] at d1; omega
    cases o2 with
    | «at» a2 =>
      rw [at_false.2.2.2]
      cases y <;> cases a2
      · cases ry; exact RcAt.tuple_none e1 hu X.prog X.w X.xe _ ⟨rfl, I⟩
      · obtain ⟨t, rfl⟩ := ry; exact RcAt.tuple_int _ _ e1 hu X.prog X.w X.xe _ ⟨rfl, I⟩
      · obtain ⟨t, rfl⟩ := ry; exact RcAt.tuple_str _ _ e1 hu X.prog X.w X.xe _ ⟨rfl, I⟩
    | lst h2 t2 =>
      obtain ⟨it2, k2, _, e2⟩ := list_of I h2
      cases ry
      exact RcAt.tuple_list e1 (isList_of e2) hu X.prog X.w X.xe _ ⟨by unfold Tq.eqM; rfl, I⟩
    | @tup q vs2 ms2 h2 t2 =>
      obtain ⟨it2, r2, e2⟩ := tup_of I h2
      cases ry
      have d2' : depL ms2 ≤ n := by simp only [dep] at d2; omega
      have l1 := t1.length
      have l2 := t2.length
      have ee : Tq.eqM (.tup ms1) (.tup ms2) = eqL ms1 ms2 := by unfold Tq.eqM; rfl
      refine TqE.rc_tupB (bs := bsOf ms1 ms2) hu (fun s' => Inv X pins σ H s') e1 e2 (fun i z1 z2 s' J => turnM hE sb t1 t2 d1' d2' r1 r2 i z1 z2 s' J) (fun s' J => ⟨?_, J⟩) I
      rw [ee]
      have s1 : its.toArray.size = ms1.length := by rw [List.size_toArray, ← r1.length, l1]
      have s2 : it2.toArray.size = ms2.length := by rw [List.size_toArray, ← r2.length, l2]
      rw [s1, s2]
      by_cases hN : ms1.length = ms2.length
      · rw [eqL_bs _ _ hN, hN, Nat.min_self, beq_self_eq_true, Bool.and_true]
      · rw [eqL_len _ _ hN, beq_eq_false_iff_ne.mpr hN, Bool.and_false]
    | obj g j hl t =>
      obtain ⟨od, J⟩ := inst_of I g
      obtain ⟨o, e, hc, _⟩ := id e1
      cases ry
      exact right g j hl t d2 (Tn := "tuple") (by decide) ⟨_, e, hc⟩ PySem.F.slot_tuple_eq (fun _ hq => GQ.call_here PySem.F.slot_tuple_eq ⟨_, e, hc⟩ PySem.F.entry_tuple_eq (PySem.F.args_tuple_eq_2 _ _) (TqE.tuple_dec I.kIn J (T.subB _ j "tuple" (by decide)) _ hq)) (by unfold Tq.eqM; rfl) (by unfold Tq.eqM; rfl)
  | @obj p dx k vs1 ms1 h1 k1 l1 t1 =>
    obtain ⟨od, J⟩ := inst_of I h1
    cases rx
    obtain ⟨tb, lk, nf⟩ := looks_of T I ry o2 k1
    obtain ⟨m, hF⟩ := I.fr
    refine PySem.W.cmp_K (op := .Eq) (tb := tb) hu hF I.ok.mod.kin J lk nf (T.eq k k1) (T.fn k k1) (wpAny_mono (callEq F sb I k1 ry (.obj h1 k1 l1 t1) o2 d1 d2) (fun r s' hr => ?_) fun _ _ z => z)
    obtain ⟨rfl, J'⟩ := hr
    exact ⟨rfl, J'⟩
/-- x == y as an expression -/
def rEqM (c : Nat → Addr) (fl : Nat → List Str) (n : Nat) : R2 := fun x y H Q => ∃ m1 m2, OR c fl H x m1 ∧ OR c fl H y m2 ∧ dep m1 ≤ n ∧ dep m2 ≤ n ∧ Q (.bl (Tq.eqM m1 m2)) H
theorem op_eqM (h : RcM X c fl n) (hr : Room n X.A) : OpR X (compareOp .Eq) (rEqM c fl n) := by
  intro pins s σ H x y v u Q I rx ry hq
  obtain ⟨m1, m2, o1, o2, d1, d2, q⟩ := hq
  show wpAny (model X.prog X.w) X.A (richCompare .Eq v u) (EP X pins σ Q) X.xe s
  refine wpAny_mono (h X.A pins s σ H x y v u m1 m2 ⟨hr, rfl⟩ I rx ry o1 o2 d1 d2) (fun r s' z => ?_) fun _ _ z => z
  obtain ⟨rfl, I'⟩ := z
  exact ⟨.bl _, H, I', rfl, q⟩
/-- x != y, x of an own class -/
def rNeM (c : Nat → Addr) (fl : Nat → List Str) (n : Nat) : R2 := fun x y H Q => ∃ k ms m2, OR c fl H x (.obj k ms) ∧ OR c fl H y m2 ∧ dep (.obj k ms) ≤ n + 1 ∧ dep m2 ≤ n + 1 ∧ Q (.bl (!Tq.eqM (.obj k ms) m2)) H
theorem op_neM (T : EqC X.K c f) (F : EqF X.prog X.w X.K X.mg X.base c f fl n) (hr : Room (n + 2) X.A) : OpR X (compareOp .NotEq) (rNeM c fl n) := by
  intro pins s σ H x y v u Q I rx ry hq
  obtain ⟨k, ms, m2, o1, o2, d1, d2, q⟩ := hq
  show wpAny (model X.prog X.w) X.A (richCompare .NotEq v u) (EP X pins σ Q) X.xe s
  cases o1 with
  | @obj p dx k vs1 ms1 h1 k1 l1 t1 =>
    obtain ⟨od, J⟩ := inst_of I h1
    cases rx
    obtain ⟨tb, lk, nf⟩ := looks_of T I ry o2 k1
    have sb : Sub X (n + 2) X.A := ⟨hr, rfl⟩
    have hu : X.A.units + 1 < cLine := by have := hr.un; omega
    refine TqE.ne_own hu I.kIn J lk nf (T.ne k k1) (T.eq k k1) (T.fn k k1) (T.hm k k1) (wpAny_mono (callEq F sb.in1 I k1 ry (.obj h1 k1 l1 t1) o2 d1 d2) (fun r s' hr => ?_) fun _ _ z => z)
    obtain ⟨rfl, J'⟩ := hr
    exact ⟨_, rfl, .bl _, H, J', rfl, q⟩
end
end Tq

/-! ### a != x, a of a builtin type, x of an own class -/
namespace TqE
open PySem PySem.SeqAt PySem.W
open AutoSeq1 (wpAny_loadPart')
open MeetsSeq MeetsSeq2 MeetsSeq3 SeqRoads2
section
variable {prog : Program} {w : World} {A : Around} {E : Value → Shared → Prop} {s : Shared} {K : Frag} {x C f : Addr} {ox : Obj} {od : Option Obj} {name : Str} {a b tb : Value}
theorem ne_right {Ta ida : String} {Q : Value → Shared → Prop} (hu : A.units + 1 < cLine) (X : K.In s.heap) (I : InstAt s.heap x ox C od) (ha : s.TypeIs a Ta) (h1 : Slot Ta "__ne__" ida)
    (hd : ∀ Q' : Value → Shared → Prop, Q' .notImplemented s → wpAny (model prog w) A (call (.builtin ida) [a, .ref x]) Q' E s) (hsub : subIn K (.ref C) (.type Ta) = some false)
    (hne : findIn K (.ref C) "__ne__" = some (some (.builtin "object.__ne__"))) (hs : findIn K (.ref C) "__eq__" = some (some (.ref f))) (hf : isFn K (.ref f) = true) (hm : mroIn K C (.type "object") = some true)
    (h : wpAny (model prog w) A.in1 (call (.ref f) [.ref x, a]) (fun v s' => ∃ r, v = .bool r ∧ Q (.bool (!r)) s') E s) : wpAny (model prog w) A (richCompare .NotEq a (.ref x)) Q E s := by
  have one : wpAny (model prog w) A (tryCompare (.ref x) "__ne__" a) (fun r s' => ∃ v, r = some v ∧ Q v s') E s := by
    unfold tryCompare
    refine wpAny_bind (ifBound_B X I hne F.cmp_object.ne (wpAny_call (codeAny_call_builtin F.cmp_object.ne.plain F.cmpEntry_ne ?_)))
    refine check_slot F.cmpKind_ne F.cmpSplit_ne (isObj X I hm) (F.cmpArgs_ne _ _) ?_
    unfold Builtin.«object.__ne__»
    have hu1 : A.in1.units < cLine := hu
    refine wpAny_bind (wpAny_of_eq (a := ((Value.ref x : Value), [a])) (by first | rfl | (simp only [slotArgs]; rfl)) ?_)
    refine wpAny_bind (wpAny_cRoomFor hu1 ?_)
    refine wpAny_bind (ifBound_K X I hs hf (wpAny_mono h (fun v s' hv => ?_) fun _ _ e => e))
    obtain ⟨r, rfl, hq⟩ := hv
    refine wpAny_bind (wpAny_truthy_bool ?_)
    exact wpAny_pure (wpAny_pure ⟨_, rfl, hq⟩)
  simp only [richCompare, ha.oneThing_none]
  refine wpAny_holding ?_
  refine wpAny_bind (wpAny_cRoomFor (by omega) ?_)
  refine wpAny_bind (wpAny_typeOf ha (wpAny_bind (I.type.here ?_)))
  have hne : (Value.type Ta != Value.ref C) = true := rfl
  simp only [hne, if_true]
  refine wpAny_bind ((looks_subIn X hsub).here ?_)
  simp only [Bool.false_eq_true, if_false, Bool.not_false, if_true]
  refine wpAny_bind (m := tryCompare a _ (.ref x)) (wpAny_tryCompare_declines ha h1 (hd _ ⟨rfl, ?_⟩))
  refine wpAny_bind (wpAny_mono one (fun r s' hv => ?_) fun _ _ e => e)
  obtain ⟨r, rfl, hq⟩ := hv
  exact wpAny_pure hq
theorem int_decN (b : Int) (u : Tok) (x C dx : Addr) : Meets (Builtin.«int.__ne__» ⟨[.int b u, .ref x], []⟩) (fun _ R s => s.heap.get? x = some (instObj C dx) ∧ R (.ok (.ret .notImplemented)) s) :=
  .of_wp fun prog w A R s h => by obtain ⟨hp, g, d, tk, os⟩ := s; obtain ⟨hl, h⟩ := h; unfold instObj at hl; wp_walk using wpAny_loadPart' hl, wpAny_load hl; exact ⟨_, rfl, h⟩
theorem str_decN (b : Str) (u : Tok) (x C dx : Addr) : Meets (Builtin.«str.__ne__» ⟨[.str b u, .ref x], []⟩) (fun _ R s => s.heap.get? x = some (instObj C dx) ∧ R (.ok (.ret .notImplemented)) s) :=
  .of_wp fun prog w A R s h => by obtain ⟨hp, g, d, tk, os⟩ := s; obtain ⟨hl, h⟩ := h; unfold instObj at hl; wp_walk using wpAny_loadPart' hl, wpAny_load hl; exact ⟨_, rfl, h⟩
theorem list_decN {R : Result → Shared → Prop} (X : K.In s.heap) (I : InstAt s.heap x ox C od) (hsub : subIn K (.ref C) (.type "list") = some false) (l : Addr) (h : R (.ok (.ret .notImplemented)) s) :
    wpAny (model prog w) A.in1 (Builtin.«list.__ne__» ⟨[.ref l, .ref x], []⟩) (GQ.FinOf prog w A R) (fun e s' => R (.error e) s') s := by
  have hi := looks_subIn (M := model prog w) X hsub
  have hat := I.at_
  have hc := I.cls
  obtain ⟨hp, g, d, tk, os⟩ := s
  wp_walk
  rw [hc]
  refine hi.here ?_
  wp_walk
  exact h
theorem tuple_decN {R : Result → Shared → Prop} (X : K.In s.heap) (I : InstAt s.heap x ox C od) (hsub : subIn K (.ref C) (.type "tuple") = some false) (l : Addr) (h : R (.ok (.ret .notImplemented)) s) :
    wpAny (model prog w) A.in1 (Builtin.«tuple.__ne__» ⟨[.ref l, .ref x], []⟩) (GQ.FinOf prog w A R) (fun e s' => R (.error e) s') s := by
  have hi := looks_subIn (M := model prog w) X hsub
  have hat := I.at_
  have hc := I.cls
  obtain ⟨hp, g, d, tk, os⟩ := s
  wp_walk
  rw [hc]
  refine hi.here ?_
  wp_walk
  exact h
end
end TqE
namespace Tq
open PySem L2 PySem.Spec PyProof.Rows PySem.SeqAt PySem.MeetsSeq
section
variable {X : Cx} {c f : Nat → Addr} {fl : Nat → List Str} {n : Nat}
def isObM : MT → Bool
  | .obj _ _ => true
  | _ => false
/-- x != y, one of them of an own class -/
def rNeA (c : Nat → Addr) (fl : Nat → List Str) (n : Nat) : R2 := fun x y H Q => ∃ m1 m2, OR c fl H x m1 ∧ OR c fl H y m2 ∧ (isObM m1 = true ∨ isObM m2 = true) ∧ dep m1 ≤ n + 1 ∧ dep m2 ≤ n + 1 ∧ Q (.bl (!Tq.eqM m1 m2)) H
theorem op_neA (T : EqC X.K c f) (F : EqF X.prog X.w X.K X.mg X.base c f fl n) (hr : Room (n + 2) X.A) : OpR X (compareOp .NotEq) (rNeA c fl n) := by
  intro pins s σ H x y v u Q I rx ry hq
  obtain ⟨m1, m2, o1, o2, ho, d1, d2, q⟩ := hq
  by_cases hob : isObM m1 = true
  · cases m1 with
    | obj k ms => exact op_neM T F hr pins s σ H x y v u Q I rx ry ⟨k, ms, m2, o1, o2, d1, d2, q⟩
    | _ => cases hob
  have ho2 : isObM m2 = true := ho.resolve_left hob
  show wpAny (model X.prog X.w) X.A (richCompare .NotEq v u) (EP X pins σ Q) X.xe s
  have sb : Sub X (n + 2) X.A := ⟨hr, rfl⟩
  have hu : X.A.units + 1 < cLine := by have := hr.un; omega
  have right : ∀ {p dx : Addr} {j : Nat} {vs : List V} {ms : List MT} {Tn ida : String}, H p = some (.ins (c j) dx ((fl j).zip vs)) → j < 4 → vs.length = (fl j).length → ORs c fl H vs ms → dep (.obj j ms) ≤ n + 1 → Tn ∈ tyNames → s.TypeIs v Tn → Slot Tn "__ne__" ida →
      (∀ Q' : Value → Shared → Prop, Q' .notImplemented s → wpAny (model X.prog X.w) X.A (call (.builtin ida) [v, .ref p]) Q' X.xe s) → m2 = .obj j ms → Tq.eqM m1 (.obj j ms) = false → Tq.eqM (.obj j ms) m1 = false →
      wpAny (model X.prog X.w) X.A (richCompare .NotEq v (.ref p)) (EP X pins σ Q) X.xe s := by
    intro p dx j vs ms Tn ida hp hj hl ho hd hT ht hS hdec em e1 e2
    obtain ⟨od, J⟩ := inst_of I hp
    refine TqE.ne_right hu I.kIn J ht hS hdec (T.subB j hj Tn hT) (T.ne j hj) (T.eq j hj) (T.fn j hj) (T.hm j hj) (wpAny_mono (callEq F sb.in1 I hj rx (.obj hp hj hl ho) o1 hd d1) (fun r s' hr => ?_) fun _ _ z => z)
    obtain ⟨rfl, J'⟩ := hr
    rw [em, e1] at q
    exact ⟨_, rfl, .bl _, H, J', by rw [e2]; rfl, q⟩
  cases o2 with
  | «at» _ => cases ho2
  | lst _ _ => cases ho2
  | tup _ _ => cases ho2
  | obj g j hl t =>
    obtain ⟨od, J⟩ := inst_of I g
    have gi := (inst_of I g).choose_spec.at_
    cases ry
    cases o1 with
    | obj _ _ _ _ => exact absurd rfl hob
    | «at» a1 =>
      cases x <;> cases a1
      · cases rx
        exact right g j hl t d2 (Tn := "NoneType") (by decide) rfl PySem.F.slot_NoneType_ne (fun _ hq => call_gives PySem.F.slot_NoneType_ne rfl PySem.F.entry_NoneType_ne (PySem.F.args_NoneType_ne_2 _ _) (NoneType___ne___none_ref_0 _) hq) rfl (by unfold Tq.eqM; rfl) (by unfold Tq.eqM; rfl)
      · obtain ⟨t', rfl⟩ := rx
        exact right g j hl t d2 (Tn := "int") (by decide) (typeIs_int _ _ _) PySem.F.slot_int_ne (fun _ hq => call_meets PySem.F.slot_int_ne (typeIs_int _ _ _) PySem.F.entry_int_ne (PySem.F.args_int_ne_2 _ _) (TqE.int_decN _ _ _ _ _) ⟨gi, hq⟩) rfl (by unfold Tq.eqM; rfl) (by unfold Tq.eqM; rfl)
      · obtain ⟨t', rfl⟩ := rx
        exact right g j hl t d2 (Tn := "str") (by decide) (typeIs_str _ _ _) PySem.F.slot_str_ne (fun _ hq => call_meets PySem.F.slot_str_ne (typeIs_str _ _ _) PySem.F.entry_str_ne (PySem.F.args_str_ne_2 _ _) (TqE.str_decN _ _ _ _ _) ⟨gi, hq⟩) rfl (by unfold Tq.eqM; rfl) (by unfold Tq.eqM; rfl)
    | lst h1 t1 =>
      obtain ⟨its, kk, r1, e1⟩ := list_of I h1
      cases rx
      exact right g j hl t d2 (Tn := "list") (by decide) ⟨_, e1, rfl⟩ PySem.F.slot_list_ne (fun _ hq => GQ.call_here PySem.F.slot_list_ne ⟨_, e1, rfl⟩ PySem.F.entry_list_ne (PySem.F.args_list_ne_2 _ _) (TqE.list_decN I.kIn J (T.subB _ j "list" (by decide)) _ hq)) rfl (by unfold Tq.eqM; rfl) (by unfold Tq.eqM; rfl)
    | tup h1 t1 =>
      obtain ⟨its, r1, e1⟩ := tup_of I h1
      obtain ⟨o, e, hc, _⟩ := id e1
      cases rx
      exact right g j hl t d2 (Tn := "tuple") (by decide) ⟨_, e, hc⟩ PySem.F.slot_tuple_ne (fun _ hq => GQ.call_here PySem.F.slot_tuple_ne ⟨_, e, hc⟩ PySem.F.entry_tuple_ne (PySem.F.args_tuple_ne_2 _ _) (TqE.tuple_decN I.kIn J (T.subB _ j "tuple" (by decide)) _ hq)) rfl (by unfold Tq.eqM; rfl) (by unfold Tq.eqM; rfl)
end
end Tq

set_option pp.maxSteps 1500

namespace K06
open PySem L2 Tq
def top (i : Nat) : Stmt := PySem.Challenge.pw_treequill_k06_values_compared.main.body.getD i (.Pass ⟨0, 0, 0, 0⟩)
def inClass (s : Stmt) (j : Nat) : Stmt := match s with
  | .ClassDef _ _ _ b _ _ _ _ _ _ _ => b.getD j (.Pass ⟨0, 0, 0, 0⟩)
  | _ => .Pass ⟨0, 0, 0, 0⟩
abbrev sDots___eq__ : Stmt := inClass (top 1) 0
abbrev NDots___eq__ : List Str := ["self", "other"]
theorem scDots___eq__ : FnScope NDots___eq__ ["self", "other"] (defScope sDots___eq__) := ⟨rfl, rfl, rfl, by decide +kernel, rfl, by decide +kernel, by decide +kernel⟩
abbrev sFloat___init__ : Stmt := inClass (top 2) 0
abbrev NFloat___init__ : List Str := ["self", "mantissa", "exponent"]
theorem scFloat___init__ : FnScope NFloat___init__ ["self", "mantissa", "exponent"] (defScope sFloat___init__) := ⟨rfl, rfl, rfl, by decide +kernel, rfl, by decide +kernel, by decide +kernel⟩
abbrev sFloat___eq__ : Stmt := inClass (top 2) 1
abbrev NFloat___eq__ : List Str := ["self", "other"]
theorem scFloat___eq__ : FnScope NFloat___eq__ ["self", "other"] (defScope sFloat___eq__) := ⟨rfl, rfl, rfl, by decide +kernel, rfl, by decide +kernel, by decide +kernel⟩
abbrev sImaginary___init__ : Stmt := inClass (top 3) 0
abbrev NImaginary___init__ : List Str := ["self", "number"]
theorem scImaginary___init__ : FnScope NImaginary___init__ ["self", "number"] (defScope sImaginary___init__) := ⟨rfl, rfl, rfl, by decide +kernel, rfl, by decide +kernel, by decide +kernel⟩
abbrev sImaginary___eq__ : Stmt := inClass (top 3) 1
abbrev NImaginary___eq__ : List Str := ["self", "other"]
theorem scImaginary___eq__ : FnScope NImaginary___eq__ ["self", "other"] (defScope sImaginary___eq__) := ⟨rfl, rfl, rfl, by decide +kernel, rfl, by decide +kernel, by decide +kernel⟩
abbrev sOctets___init__ : Stmt := inClass (top 4) 0
abbrev NOctets___init__ : List Str := ["self", "numbers"]
theorem scOctets___init__ : FnScope NOctets___init__ ["self", "numbers"] (defScope sOctets___init__) := ⟨rfl, rfl, rfl, by decide +kernel, rfl, by decide +kernel, by decide +kernel⟩
abbrev sOctets___eq__ : Stmt := inClass (top 4) 1
abbrev NOctets___eq__ : List Str := ["self", "other"]
theorem scOctets___eq__ : FnScope NOctets___eq__ ["self", "other"] (defScope sOctets___eq__) := ⟨rfl, rfl, rfl, by decide +kernel, rfl, by decide +kernel, by decide +kernel⟩
abbrev s_law_draw : Stmt := top 6
abbrev N_law_draw : List Str := ["_law_stream", "_law_many", "_law_digit", "_law_mixed", "_law_last"]
theorem sc_law_draw : FnScope N_law_draw ["_law_stream", "_law_many"] (defScope s_law_draw) := ⟨rfl, rfl, rfl, by decide +kernel, rfl, by decide +kernel, by decide +kernel⟩
abbrev s_law_pick : Stmt := top 7
abbrev N_law_pick : List Str := ["_law_stream", "_law_some"]
theorem sc_law_pick : FnScope N_law_pick ["_law_stream", "_law_some"] (defScope s_law_pick) := ⟨rfl, rfl, rfl, by decide +kernel, rfl, by decide +kernel, by decide +kernel⟩
abbrev s_law_thing : Stmt := top 8
abbrev N_law_thing : List Str := ["_law_stream", "_law_deep", "_law_way", "_law_some", "_law_k"]
theorem sc_law_thing : FnScope N_law_thing ["_law_stream", "_law_deep"] (defScope s_law_thing) := ⟨rfl, rfl, rfl, by decide +kernel, rfl, by decide +kernel, by decide +kernel⟩
abbrev s_law_object : Stmt := top 9
abbrev N_law_object : List Str := ["_law_stream", "_law_deep", "_law_word", "_law_many", "_law_k"]
theorem sc_law_object : FnScope N_law_object ["_law_stream", "_law_deep"] (defScope s_law_object) := ⟨rfl, rfl, rfl, by decide +kernel, rfl, by decide +kernel, by decide +kernel⟩
abbrev s_law_made : Stmt := top 10
abbrev N_law_made : List Str := ["_law_model", "_law_parts", "_law_found", "_law_part"]
theorem sc_law_made : FnScope N_law_made ["_law_model"] (defScope s_law_made) := ⟨rfl, rfl, rfl, by decide +kernel, rfl, by decide +kernel, by decide +kernel⟩
abbrev s_law_changed : Stmt := top 11
abbrev N_law_changed : List Str := ["_law_stream", "_law_model", "_law_k", "_law_parts", "_law_found"]
theorem sc_law_changed : FnScope N_law_changed ["_law_stream", "_law_model"] (defScope s_law_changed) := ⟨rfl, rfl, rfl, by decide +kernel, rfl, by decide +kernel, by decide +kernel⟩
abbrev s_law_fields : Stmt := top 12
abbrev N_law_fields : List Str := ["_law_made_here"]
theorem sc_law_fields : FnScope N_law_fields ["_law_made_here"] (defScope s_law_fields) := ⟨rfl, rfl, rfl, by decide +kernel, rfl, by decide +kernel, by decide +kernel⟩
abbrev s_law_alike : Stmt := top 13
abbrev N_law_alike : List Str := ["_law_one", "_law_other", "_law_first", "_law_second"]
theorem sc_law_alike : FnScope N_law_alike ["_law_one", "_law_other"] (defScope s_law_alike) := ⟨rfl, rfl, rfl, by decide +kernel, rfl, by decide +kernel, by decide +kernel⟩
abbrev slaw : Stmt := top 14
abbrev Nlaw : List Str := ["_law_script", "_law_stream", "_law_turn", "_law_one", "_law_other", "_law_due", "_law_first", "_law_second", "_law_left", "_law_right", "_law_found", "_law_parts", "_law_odd", "_law_part", "_law_k"]
theorem sclaw : FnScope Nlaw ["_law_script"] (defScope slaw) := ⟨rfl, rfl, rfl, by decide +kernel, rfl, by decide +kernel, by decide +kernel⟩
structure Txt (mg : Str → Option Value) : Prop where
  b_int : mg "int" = none
  b_len : mg "len" = none
  b_list : mg "list" = none
  b_tuple : mg "tuple" = none
  b_all : mg "all" = none
  b_zip : mg "zip" = none
  b_dict : mg "dict" = none
  range : mg "range" = none
  b_isinstance : mg "isinstance" = none
section
variable {P : Program} {w : World} {K : PySem.W.Frag} {mg : Str → Option Value} {base : Heap}
theorem ok_draw {f : Addr} {fd : FuncData} (F : Fun K "_law_draw" "_law_draw" s_law_draw f fd) (T : Txt mg) :
    FnG P w K mg base CX0 1 f fd ["_law_stream", "_law_many"] spDraw := by
  refine okG0 F sc_law_draw (fun vs H Q E h => ?_) (fun cdv A outer s H vs Q E hq hr h => ?_)
  · obtain ⟨a, l, n, c, rfl, _⟩ := h
    rfl
  · obtain ⟨a, l, n, c, rfl, n0, n1, c1, S, k⟩ := h
    refine ⟨_, (pss_cons (ps_while PassesOwn.never (PW.pt (pw_and (pt_cmpR op_eq (pe_ix ix_list (pv 0) pe_int (fun _ _ => rfl)) pe_int (nomark _)) (pw_and1 (pt_cmpR (op_neD hr.units) (pe_ix ix_list (pv 0) pe_int (fun _ _ => rfl)) (pe_lst pa_nil) (nomark _)))))
      (pss_cons (ps_asg (pe_bm PySem.F.plainAttrs_list PySem.F.slot_list_pop PySem.F.type_list_pop mt_popAt (pe_ix ix_list (pv 0) pe_int (fun _ _ => rfl)) (pa_cons pe_int pa_nil)) (pg_sub (pv 0) pe_int set_list))
      (pss_one (ps_if (pt_cmpR op_lt (pe_ix ix_list (pv 0) pe_int (fun _ _ => rfl)) (pe_op op_pow pe_int pe_int) (nomark _))
      (pss_cons (ps_asg (pe_op op_mod (pe_callTy call_int1 (by rfl) T.b_int (by decide +kernel) (pa_cons (pe_op op_add (pe_op op_add (pe_op op_mul (pe_ix ix_list (pv 0) pe_int (fun _ _ => rfl)) pe_int) (pe_ix ix_list (pv 0) pe_int (fun _ _ => rfl))) pe_int) pa_nil)) pe_int) (pg_sub (pv 0) pe_int set_list))
      (pss_one (ps_asg pe_int (pg_sub (pv 0) pe_int set_list))))
      pss_nil))))
      (pss_cons (ps_if (pt_cmpR op_gt (pe_ix ix_list (pv 0) pe_int (fun _ _ => rfl)) pe_int (nomark _))
      (pss_cons (ps_set (i := 2) sc_law_draw.nd rfl (Or.inl rfl) (pe_op op_mod (pe_callTy call_int1 (by rfl) T.b_int (by decide +kernel) (pa_cons (pe_ix ix_list (pv 0) pe_int (fun _ _ => rfl)) pa_nil)) (pv 1)))
      (pss_cons (ps_asg (pe_op op_fdivN (pe_ix ix_list (pv 0) pe_int (fun _ _ => rfl)) (pv 1)) (pg_sub (pv 0) pe_int set_list))
      (pss_one (ps_ret (pv 2)))))
      pss_nil)
      (pss_cons (ps_asg (pe_op op_add (pe_ix ix_list (pv 0) pe_int (fun _ _ => rfl)) pe_int) (pg_sub (pv 0) pe_int set_list))
      (pss_cons (ps_set (i := 3) sc_law_draw.nd rfl (Or.inl rfl) (pe_op op_mod (pe_callTy call_int1 (by rfl) T.b_int (by decide +kernel) (pa_cons (pe_op op_pow (pe_op op_add (pe_op op_add (pe_ix ix_list (pv 0) pe_int (fun _ _ => rfl)) (pe_op op_mul pe_int (pe_ix ix_list (pv 0) pe_int (fun _ _ => rfl)))) pe_int) pe_int) pa_nil)) pe_int))
      (pss_cons (ps_set (i := 4) sc_law_draw.nd rfl (Or.inl rfl) (pe_op op_mod (pe_callTy call_int1 (by rfl) T.b_int (by decide +kernel) (pa_cons (pe_op op_pow (pe_op op_add (pe_op op_add (pe_op op_mul (pv 3) pe_int) (pe_op op_mul (pe_op op_mul pe_int (pe_ix ix_list (pv 0) pe_int (fun _ _ => rfl))) (pe_ix ix_list (pv 0) pe_int (fun _ _ => rfl)))) pe_int) pe_int) pa_nil)) pe_int))
      (pss_one (ps_ret (pe_op op_mod (pe_callTy call_int1 (by rfl) T.b_int (by decide +kernel) (pa_cons (pv 4) pa_nil)) (pv 1))))))))), ?_⟩
    obtain ⟨ns, x, kk, m, ha, hl, x0, k0, kc, m0, m1⟩ := S.ex
    refine while_split (fun σ H1 => σ = [some (.ref a), some (.int n), none, none, none] ∧ Nx a l H H1 ∧ ∃ (ns : List Int) (x m : Int),
      H1 a = some (.lst [.ref l, .int x, .int kk, .int m]) ∧ H1 l = some (.lst (ns.map V.int)) ∧ 0 ≤ x ∧ 0 ≤ m ∧ m < 2147483647) ?_ (fun fin => ?_)
    · -- behind the loop
      rintro σ H1 ⟨rfl, nx, ns, x, m, ha, hl, x0, m0, m1⟩
      have hal := strm_ne ha hl
      refine ⟨_, rfl, a, _, _, _, rfl, rfl, SqL.of ha, rfl, _, _, rfl, rfl, _, rfl, ?_⟩
      by_cases hx : (0 : Int) < x
      · refine if1 (decide_eq_true hx) ?_
        refine ⟨_, rfl, a, _, _, _, rfl, rfl, SqL.of ha, rfl, Or.inl ⟨_, rfl, _, rfl, _, _, rfl, rfl, n0, ?_⟩⟩
        refine ⟨_, rfl, a, _, _, _, rfl, rfl, SqL.of ha, rfl, _, rfl, _, _, rfl, rfl, ⟨by omega, by omega⟩, _, rfl, a, _, _, 1, rfl, rfl, ha, rfl, _, rfl, ?_⟩
        refine k _ _ (Int.emod_nonneg _ (by omega)) (Int.emod_lt_of_pos _ n0) ⟨ns, _, kk, m, upd_same, ?_, ?_, k0, by omega, m0, m1⟩ (nx.trans Nx.upd_a)
        · rw [upd_ne hal.symm]
          exact hl
        · exact Int.fdiv_nonneg (by omega) (by omega)
      · refine if0 (decide_eq_false hx) ?_
        refine ⟨_, rfl, a, _, _, _, rfl, rfl, SqL.of ha, rfl, _, _, rfl, rfl, _, rfl, a, _, _, 2, rfl, rfl, ha, rfl, ?_⟩
        have e1 : (upd H1 a (.lst [V.ref l, V.int x, V.int (kk + 1), V.int m])) a = some (.lst [V.ref l, V.int x, V.int (kk + 1), V.int m]) := upd_same
        refine ⟨_, rfl, a, _, _, _, rfl, rfl, SqL.of e1, rfl, _, rfl, a, _, _, _, rfl, rfl, SqL.of e1, rfl, _, _, rfl, rfl, Or.inl ⟨by decide, by decide⟩, _, _, rfl, rfl, _, _, rfl, rfl, _, _, rfl, rfl, ⟨by decide, by decide, ?_⟩,
          Or.inl ⟨_, rfl, _, _, rfl, rfl, (show (0 : Int) < 2147483629 by decide), ?_⟩⟩
        · omega
        have b1 := Int.emod_nonneg ((m + 104729 * (kk + 1) + 17) ^ (5 : Int).toNat) (show (2147483629 : Int) ≠ 0 by decide)
        have b2 := Int.emod_lt_of_pos ((m + 104729 * (kk + 1) + 17) ^ (5 : Int).toNat) (show (0 : Int) < 2147483629 by decide)
        generalize (m + 104729 * (kk + 1) + 17) ^ (5 : Int).toNat % 2147483629 = mx at b1 b2 ⊢
        have b3 : (kk + 1) * (kk + 1) ≤ 4000001 * 4000001 := Int.mul_le_mul (by omega) (by omega) (by omega) (by omega)
        have b4 : 0 ≤ (kk + 1) * (kk + 1) := Int.mul_nonneg (by omega) (by omega)
        have b5 : 40503 * (kk + 1) * (kk + 1) = 40503 * ((kk + 1) * (kk + 1)) := Int.mul_assoc _ _ _
        refine ⟨_, rfl, _, _, rfl, rfl, Or.inl ⟨by omega, by omega⟩, _, rfl, a, _, _, _, rfl, rfl, SqL.of e1, rfl, _, _, rfl, rfl, Or.inl ⟨by decide, by decide⟩, _, rfl, a, _, _, _, rfl, rfl, SqL.of e1, rfl,
          _, _, rfl, rfl, Or.inl ⟨by omega, by omega⟩, _, _, rfl, rfl, _, _, rfl, rfl, _, _, rfl, rfl, ⟨by decide, by decide, ?_⟩, Or.inl ⟨_, rfl, _, _, rfl, rfl, (show (0 : Int) < 1000000007 by decide), ?_⟩⟩
        · omega
        refine ⟨_, rfl, Or.inl ⟨_, rfl, _, rfl, _, _, rfl, rfl, n0, ?_⟩⟩
        refine k _ _ (Int.emod_nonneg _ (by omega)) (Int.emod_lt_of_pos _ n0) ⟨ns, x, kk + 1, m, e1, ?_, x0, by omega, by omega, m0, m1⟩ (nx.trans Nx.upd_a)
        rw [upd_ne hal.symm]
        exact hl
    refine ⟨fun z σ H' => σ = [some (.ref a), some (.int n), none, none, none] ∧ Nx a l H H' ∧ ∃ (ns : List Int) (x m : Int),
      H' a = some (.lst [.ref l, .int x, .int kk, .int m]) ∧ H' l = some (.lst (ns.map V.int)) ∧ 0 ≤ x ∧ 0 ≤ m ∧ m < 2147483647 ∧ z = ns.length,
      ⟨_, rfl, Nx.refl, ns, x, m, ha, hl, x0, m0, m1, rfl⟩, ?_⟩
    rintro z σ H1 ⟨rfl, nx, ns, x, m, ha, hl, x0, m0, m1, rfl⟩
    have hal := strm_ne ha hl
    -- the loop's test
    refine ⟨_, rfl, a, _, _, _, rfl, rfl, SqL.of ha, rfl, rfl, _, rfl, ?_⟩
    by_cases hx : x = 0
    · subst hx
      refine if1 (by decide) ?_
      refine ⟨_, rfl, a, _, _, _, rfl, rfl, SqL.of ha, rfl, (by show 0 ≤ sizeLine; decide), fun p hp => ?_⟩
      have hpa : a ≠ p := ne_of_none ha hp
      have hpl : l ≠ p := ne_of_none hl hp
      have ha2 : upd H1 p (.lst []) a = some (.lst [V.ref l, V.int 0, V.int kk, V.int m]) := by rw [upd_ne hpa]; exact ha
      have hl2 : upd H1 p (.lst []) l = some (.lst (ns.map V.int)) := by rw [upd_ne hpl]; exact hl
      have nx2 : Nx a l H (upd H1 p (.lst [])) := nx.trans (Nx.new hp)
      refine ⟨_, _, .lst (SqL.of hl2) (dpAll_ints ns), .lst (SqL.of upd_same) .nil, shaped_ints ns, rfl, _, rfl, ?_⟩
      rw [eqv_nil]
      cases ns with
      | nil => exact fin _ _ ⟨rfl, nx2, [], 0, m, ha2, hl2, x0, m0, m1⟩
      | cons y r =>
        refine ⟨fun σ' H' => σ' = [some (.ref a), some (.int n), none, none, none] ∧ Nx a l H H' ∧ ∃ (x m : Int),
          H' a = some (.lst [.ref l, .int x, .int kk, .int m]) ∧ H' l = some (.lst (r.map V.int)) ∧ 0 ≤ x ∧ 0 ≤ m ∧ m < 2147483647, ?_, ?_⟩
        · rintro σ' H' ⟨rfl, nx', x, m, h1, h2, h3, h4, h5⟩
          exact ⟨r.length, by simp, rfl, nx', r, x, m, h1, h2, h3, h4, h5, rfl⟩
        · -- stream[1] = stream[0].pop(0)
          refine ⟨_, rfl, a, _, _, _, rfl, rfl, SqL.of ha2, rfl, .inl ⟨rfl, _, SqL.of hl2⟩, l, _, _, 0, _, rfl, rfl, hl2, by decide, by decide, ix0 _ _, rfl, _, rfl, a, [V.ref l, V.int 0, V.int kk, V.int m], _, 1, rfl, rfl, ?_, rfl, ?_⟩
          · rw [upd_ne hal]
            exact ha2
          obtain ⟨H2, e2⟩ : ∃ H2, H2 = upd (upd (upd H1 p (.lst [])) l (.lst (((y :: r).map V.int).eraseIdx 0))) a (.lst ([V.ref l, V.int 0, V.int kk, V.int m].set 1 (V.int y))) := ⟨_, rfl⟩
          have ha3 : H2 a = some (.lst [V.ref l, V.int y, V.int kk, V.int m]) := by rw [e2]; exact upd_same
          have hl3 : H2 l = some (.lst (r.map V.int)) := by rw [e2, upd_ne hal.symm, upd_same]; rfl
          have nx3 : Nx a l H H2 := by rw [e2]; exact (nx2.trans Nx.upd_l).trans Nx.upd_a
          rw [← e2]
          refine ⟨_, rfl, a, _, _, _, rfl, rfl, SqL.of ha3, rfl, _, _, rfl, rfl, ⟨by decide, by decide, by decide⟩, _, _, rfl, rfl, _, rfl, ?_⟩
          by_cases hy : y < 10 ^ (18 : Int).toNat
          · refine if1 (decide_eq_true hy) ?_
            refine ⟨_, rfl, a, _, _, _, rfl, rfl, SqL.of ha3, rfl, _, _, rfl, rfl, Or.inl ⟨by omega, by omega⟩, _, rfl, a, _, _, _, rfl, rfl, SqL.of ha3, rfl, _, _, rfl, rfl, _, _, rfl, rfl, Or.inl ⟨_, rfl, _, _, rfl, rfl, (show (0 : Int) < 2147483647 by decide),
              _, rfl, a, _, _, 3, rfl, rfl, ha3, rfl, ?_⟩⟩
            refine ⟨_, rfl, a, [V.ref l, V.int y, V.int kk, V.int ((m * 31 + y + 7) % 2147483647)], _, 1, rfl, rfl, upd_same, rfl, rfl, (nx3.trans Nx.upd_a).trans Nx.upd_a, _, _, upd_same, ?_, Int.le_refl 0, Int.emod_nonneg _ (by decide), Int.emod_lt_of_pos _ (by decide)⟩
            rw [upd_ne hal.symm, upd_ne hal.symm]
            exact hl3
          · refine if0 (decide_eq_false hy) ?_
            refine ⟨rfl, nx3, y, m, ha3, hl3, ?_, m0, m1⟩
            have : (0 : Int) ≤ 10 ^ (18 : Int).toNat := by decide
            omega
    · have hd : decide (V.int x = V.int 0) = false := decide_eq_false fun e => hx (by cases e; rfl)
      refine if0 hd ?_
      exact fin _ _ ⟨rfl, nx, ns, x, m, ha, hl, x0, m0, m1⟩
end

section
variable {P : Program} {w : World} {K : PySem.W.Frag} {mg : Str → Option Value} {base : Heap}
theorem ok_pick {f : Addr} {fd : FuncData} (F : Fun K "_law_pick" "_law_pick" s_law_pick f fd) (T : Txt mg) (D_law_draw : Df P w K mg base CX0 1 "_law_draw" spDraw) :
    FnG P w K mg base CX0 2 f fd ["_law_stream", "_law_some"] (spPick K) := by
  refine okG0 F sc_law_pick (fun vs H Q E h => ?_) (fun cdv A outer s H vs Q E hq hr h => ?_)
  · obtain ⟨a, l, p, xs, c, rfl, _⟩ := h
    rfl
  · obtain ⟨a, l, p, xs, c, rfl, hc, S, hp, hne, hz, k⟩ := h
    have hp0 : SqL K H p xs := sqL_same off_sub hp
    have hpos : 0 < xs.length := List.length_pos_iff.mpr hne
    refine ⟨_, (pss_one (ps_ret (pe_ix ix_list (pv 1) (pe_df D_law_draw hq hr pass0 (pa_cons (pv 0) (pa_cons (pe_callB call_len_seq (by rfl) T.b_len (by decide +kernel) (pa_cons (pv 1) pa_nil)) pa_nil))) (fun _ _ => rfl)))), ?_⟩
    refine ⟨_, rfl, _, rfl, _, rfl, p, xs, rfl, .inl hp0, a, l, _, c, rfl, by omega, by omega, hc, S, fun r H' r0 r1 S' nx => ?_⟩
    obtain ⟨v, hv, hm⟩ := atI_mem r0 r1
    exact ⟨p, xs, r, v, rfl, rfl, sqL_same off_sub (sqL_same nx hp), hv, k v H' hm S' nx⟩
end

def fl : Nat → List Str
  | 0 => []
  | 1 => ["mantissa", "exponent"]
  | 2 => ["number"]
  | _ => ["numbers"]
/-- the four classes -/
structure Cl6 (K : PySem.W.Frag) (mg : Str → Option Value) (c f : Nat → Addr) : Prop extends EqC K c f where
  g0 : mg "Dots" = some (.ref (c 0))
  g1 : mg "Float" = some (.ref (c 1))
  g2 : mg "Imaginary" = some (.ref (c 2))
  g3 : mg "Octets" = some (.ref (c 3))
  ha : ∀ k, k < 4 → PySem.W.findIn K (.ref (c k)) "__class__" = some (some (.builtin "object.__class__"))
  hn : PySem.W.specialIn K (.builtin "object.__class__") "__get__" = some (some (.builtin "getset_descriptor.__get__"))
  htk : PySem.W.takesIn K (.builtin "object.__class__") = some true
  kc : ∀ k, k < 4 → (PySem.W.clsIn K (c k)).isSome = true
  ty : ∀ k, k < 4 → PySem.W.typeIn K (.ref (c k)) = some (.type "type")
  no : ∀ k, k < 4 → ∀ x ∈ fl k, NoAttr K (c k) x
  kp : ∀ k, k < 4 → PySem.W.keepIn K (.ref (c k)) = true
  mks : ∀ k, k < 4 → PySem.W.makesIn K (c k) = true
  i0 : PySem.W.findIn K (.ref (c 0)) "__init__" = some (some (.builtin "object.__init__"))
  i1 : ∃ (h : Addr) (fd : FuncData), PySem.W.findIn K (.ref (c 1)) "__init__" = some (some (.ref h)) ∧ PySem.W.isFn K (.ref h) = true ∧ Fun K "__init__" "Float.__init__" sFloat___init__ h fd
  i2 : ∃ (h : Addr) (fd : FuncData), PySem.W.findIn K (.ref (c 2)) "__init__" = some (some (.ref h)) ∧ PySem.W.isFn K (.ref h) = true ∧ Fun K "__init__" "Imaginary.__init__" sImaginary___init__ h fd
  i3 : ∃ (h : Addr) (fd : FuncData), PySem.W.findIn K (.ref (c 3)) "__init__" = some (some (.ref h)) ∧ PySem.W.isFn K (.ref h) = true ∧ Fun K "__init__" "Octets.__init__" sOctets___init__ h fd
  e0 : ∃ fd, Fun K "__eq__" "Dots.__eq__" sDots___eq__ (f 0) fd
  e1 : ∃ fd, Fun K "__eq__" "Float.__eq__" sFloat___eq__ (f 1) fd
  e2 : ∃ fd, Fun K "__eq__" "Imaginary.__eq__" sImaginary___eq__ (f 2) fd
  e3 : ∃ fd, Fun K "__eq__" "Octets.__eq__" sOctets___eq__ (f 3) fd
def isO (k : Nat) : MT → Bool
  | .obj j _ => decide (j = k)
  | _ => false
section
variable {P : Program} {w : World} {K : PySem.W.Frag} {mg : Str → Option Value} {base : Heap} {c f : Nat → Addr}
theorem kit_ty0 (U : Cl6 K mg c f) {T : String} {k : Nat} (hk : k < 4) (h : T ∈ tyNames) : PySem.W.kitOne K (.type T) (.ref (c k)) = some false := by
  unfold PySem.W.kitOne
  rw [if_neg (by simp)]
  show PySem.W.kitCls K (.type T) (.ref (c k)) = _
  unfold PySem.W.kitCls
  simp only [U.kc k hk, U.ty k hk]
  rw [if_pos (by decide)]
  exact sub_ty h
theorem kit_own (U : Cl6 K mg c f) {j k : Nat} (hj : j < 4) (hk : k < 4) : PySem.W.kitOne K (.ref (c j)) (.ref (c k)) = some (decide (j = k)) := by
  unfold PySem.W.kitOne
  by_cases e : j = k
  · subst e
    rw [if_pos (beq_self_eq_true _), decide_eq_true rfl]
  · rw [if_neg (by simp; exact fun z => e (U.inj j k hj hk z)), decide_eq_false e]
    show PySem.W.kitCls K (.ref (c j)) (.ref (c k)) = _
    unfold PySem.W.kitCls
    simp only [U.kc k hk, U.ty k hk]
    rw [if_pos (by decide)]
    exact U.sub j k hj hk e
theorem isK (U : Cl6 K mg c f) {H : Hp} {v : V} {m : MT} {k : Nat} (hk : k < 4) (o : OR c fl H v m) : ∃ t, TyX K H v t ∧ PySem.W.kitOne K t (.ref (c k)) = some (isO k m) := by
  cases o with
  | «at» h =>
    cases v <;> cases h
    · exact ⟨_, .base .non, kit_ty0 U hk (by decide)⟩
    · exact ⟨_, .base (.int _), kit_ty0 U hk (by decide)⟩
    · exact ⟨_, .base (.str _), kit_ty0 U hk (by decide)⟩
  | lst h _ => exact ⟨_, .base (.lst h), kit_ty0 U hk (by decide)⟩
  | tup h _ => exact ⟨_, .base (.tup h), kit_ty0 U hk (by decide)⟩
  | obj h j _ _ => exact ⟨_, .base (.ins h (U.cls _ j) (U.ha _ j) U.hn U.htk (U.hm _ j)), kit_own U j hk⟩
def AllRc (P : Program) (w : World) (K : PySem.W.Frag) (mg : Str → Option Value) (base : Heap) (c : Nat → Addr) (n : Nat) : Prop :=
  ∀ X : Cx, X.prog = P → X.w = w → X.K = K → X.mg = mg → X.base = base → RcM X c fl n
theorem or_obj {H : Hp} {p : Addr} {k : Nat} {ms : List MT} (o : OR c fl H (.ref p) (.obj k ms)) : ∃ (dx : Addr) (vs : List V), H p = some (.ins (c k) dx ((fl k).zip vs)) ∧ k < 4 ∧ vs.length = (fl k).length ∧ ORs c fl H vs ms := by
  cases o with
  | obj h a b d => exact ⟨_, _, h, a, b, d⟩
theorem ors1 {H : Hp} {vs : List V} {ms : List MT} (o : ORs c fl H vs ms) (h : vs.length = 1) : ∃ v m, vs = [v] ∧ ms = [m] ∧ OR c fl H v m := by
  cases o with
  | nil => simp at h
  | cons a t =>
    cases t with
    | nil => exact ⟨_, _, rfl, rfl, a⟩
    | cons _ _ => simp at h
theorem ors2 {H : Hp} {vs : List V} {ms : List MT} (o : ORs c fl H vs ms) (h : vs.length = 2) : ∃ v u m m', vs = [v, u] ∧ ms = [m, m'] ∧ OR c fl H v m ∧ OR c fl H u m' := by
  cases o with
  | nil => simp at h
  | cons a t =>
    obtain ⟨u, m', rfl, rfl, b⟩ := ors1 t (by simpa using h)
    exact ⟨_, _, _, _, rfl, rfl, a, b⟩
theorem ok_eq0 {n : Nat} {fd : FuncData} (F : Fun K "__eq__" "Dots.__eq__" sDots___eq__ (f 0) fd) (T : Txt mg) (U : Cl6 K mg c f) : FnOk P w K mg base CX0 (n + 1) (f 0) fd ["self", "other"] (spEqM c fl 0 n) := by
  refine F.ok scDots___eq__ (fun vs H Q E h => ?_) (fun cdv A outer s H vs Q E hr h => ?_)
  · obtain ⟨p, v, ms, m, rfl, _⟩ := h
    rfl
  · obtain ⟨p, v, ms, m, rfl, o1, o2, d1, d2, k⟩ := h
    refine ⟨_, (pss_one (ps_ret (pe_callB call_isi (by rfl) T.b_isinstance (by decide +kernel) (pa_cons (pv 1) (pa_cons (pe_glob (v := .ref (c 0)) rfl U.g0 rfl) pa_nil))))), ?_⟩
    obtain ⟨t, ty, kt⟩ := isK U (k := 0) (by decide) o2
    obtain ⟨dx, vs, h1, _, l1, t1⟩ := or_obj o1
    have : ms = [] := by cases t1 with | nil => rfl | cons _ _ => simp [fl] at l1
    subst this
    refine ⟨_, rfl, _, _, _, _, _, rfl, .own _, ty, kt, ?_⟩
    have e : Tq.eqM (.obj 0 []) m = isO 0 m := by
      cases o2 with
      | «at» _ => unfold Tq.eqM; rfl
      | lst _ _ => unfold Tq.eqM; rfl
      | tup _ _ => unfold Tq.eqM; rfl
      | @obj q dy j us ms2 h2 k2 l2 t2 =>
        rw [Tq.eqM]
        show _ = decide (j = 0)
        by_cases hj : j = 0
        · subst hj
          cases t2 with
          | nil => rw [eqL]; rfl
          | cons _ _ => simp [fl] at l2
        · rw [decide_eq_false (fun z => hj z.symm), decide_eq_false hj]; rfl
    rw [e] at k
    exact k
theorem eq_not {k : Nat} {ms : List MT} {m : MT} (h : isO k m = false) : Tq.eqM (.obj k ms) m = false := by
  cases m with
  | «at» _ => unfold Tq.eqM; rfl
  | lst _ => unfold Tq.eqM; rfl
  | tup _ => unfold Tq.eqM; rfl
  | obj j ms2 =>
    have h' : decide (j = k) = false := h
    rw [Tq.eqM, decide_eq_false (fun z => of_decide_eq_false h' z.symm)]
    rfl
theorem isO_obj {k : Nat} {m : MT} (h : isO k m = true) : ∃ ms, m = .obj k ms := by
  cases m with
  | obj j ms => exact ⟨ms, by rw [of_decide_eq_true h]⟩
  | «at» _ => cases h
  | lst _ => cases h
  | tup _ => cases h
theorem or_ref {H : Hp} {v : V} {k : Nat} {ms : List MT} (o : OR c fl H v (.obj k ms)) : ∃ p, v = .ref p := by
  cases o with
  | obj _ _ _ _ => exact ⟨_, rfl⟩
theorem dep1 {k n : Nat} {m : MT} (h : dep (.obj k [m]) ≤ n + 1) : dep m ≤ n := by
  simp only [dep, depL] at h
  omega
theorem dep2 {k n : Nat} {m m' : MT} (h : dep (.obj k [m, m']) ≤ n + 1) : dep m ≤ n ∧ dep m' ≤ n := by
  simp only [dep, depL] at h
  omega
theorem ok_eq1 {n : Nat} {fd : FuncData} (F : Fun K "__eq__" "Float.__eq__" sFloat___eq__ (f 1) fd) (T : Txt mg) (U : Cl6 K mg c f) (rc : AllRc P w K mg base c n) : FnOk P w K mg base CX0 (n + 1) (f 1) fd ["self", "other"] (spEqM c fl 1 n) := by
  refine F.ok scFloat___eq__ (fun vs H Q E h => ?_) (fun cdv A outer s H vs Q E hr h => ?_)
  · obtain ⟨p, v, ms, m, rfl, _⟩ := h
    rfl
  · obtain ⟨p, v, ms, m, rfl, o1, o2, d1, d2, k⟩ := h
    refine ⟨_, (pss_cons (ps_if (pt_not (pt_val (pe_callB call_isi (by rfl) T.b_isinstance (by decide +kernel) (pa_cons (pv 1) (pa_cons (pe_glob (v := .ref (c 1)) rfl U.g1 rfl) pa_nil)))))
      (pss_one (ps_ret pe_bl))
      pss_nil)
      (pss_one (ps_ret (pe_and (pe_cmpR (op_eqM (rc _ rfl rfl rfl rfl rfl) hr) (pe_fld (pv 0) rfl) (pe_fld (pv 1) rfl) (nomark _)) (pe_one (pe_cmpR (op_eqM (rc _ rfl rfl rfl rfl rfl) hr) (pe_fld (pv 0) rfl) (pe_fld (pv 1) rfl) (nomark _))))))), ?_⟩
    obtain ⟨t, ty, kt⟩ := isK U (k := 1) (by decide) o2
    refine ⟨_, rfl, _, _, _, _, _, rfl, .own _, ty, kt, _, rfl, ?_⟩
    cases hi : isO 1 m with
    | false =>
      rw [eq_not hi] at k
      exact if1 rfl k
    | true =>
    obtain ⟨ms2, rfl⟩ := isO_obj hi
    obtain ⟨q, rfl⟩ := or_ref o2
    obtain ⟨dx, vs, h1, _, l1, t1⟩ := or_obj o1
    obtain ⟨dy, us, h2, _, l2, t2⟩ := or_obj o2
    obtain ⟨v0, v1, m0, m1, rfl, rfl, a0, a1⟩ := ors2 t1 l1
    obtain ⟨u0, u1, n0, n1, rfl, rfl, b0, b1⟩ := ors2 t2 l2
    have na : NoAttr K (c 1) "mantissa" := U.no 1 (by decide) _ (.head _)
    have nb : NoAttr K (c 1) "exponent" := U.no 1 (by decide) _ (.tail _ (.head _))
    have cl := U.cls 1 (by decide)
    refine if0 rfl ⟨_, rfl, p, c 1, dx, _, v0, rfl, h1, cl, na, rfl, _, rfl, q, c 1, dy, _, u0, rfl, h2, cl, na, rfl, m0, n0, a0, b0, (dep2 d1).1, (dep2 d2).1, _, rfl, ?_⟩
    have e : Tq.eqM (.obj 1 [m0, m1]) (.obj 1 [n0, n1]) = (Tq.eqM m0 n0 && Tq.eqM m1 n1) := by
      rw [Tq.eqM, eqL, eqL, eqL, decide_eq_true rfl, Bool.true_and, Bool.and_true]
    rw [e] at k
    cases q0 : Tq.eqM m0 n0 with
    | false =>
      rw [q0] at k
      exact if0 rfl k
    | true =>
      rw [q0] at k
      exact if1 rfl ⟨_, rfl, p, c 1, dx, _, v1, rfl, h1, cl, nb, rfl, _, rfl, q, c 1, dy, _, u1, rfl, h2, cl, nb, rfl, m1, n1, a1, b1, (dep2 d1).2, (dep2 d2).2, k⟩
theorem ok_eq2 {n : Nat} {fd : FuncData} (F : Fun K "__eq__" "Imaginary.__eq__" sImaginary___eq__ (f 2) fd) (T : Txt mg) (U : Cl6 K mg c f) (rc : AllRc P w K mg base c n) : FnOk P w K mg base CX0 (n + 1) (f 2) fd ["self", "other"] (spEqM c fl 2 n) := by
  refine F.ok scImaginary___eq__ (fun vs H Q E h => ?_) (fun cdv A outer s H vs Q E hr h => ?_)
  · obtain ⟨p, v, ms, m, rfl, _⟩ := h
    rfl
  · obtain ⟨p, v, ms, m, rfl, o1, o2, d1, d2, k⟩ := h
    refine ⟨_, (pss_one (ps_ret (pe_and (pe_callB call_isi (by rfl) T.b_isinstance (by decide +kernel) (pa_cons (pv 1) (pa_cons (pe_glob (v := .ref (c 2)) rfl U.g2 rfl) pa_nil))) (pe_one (pe_cmpR (op_eqM (rc _ rfl rfl rfl rfl rfl) hr) (pe_fld (pv 0) rfl) (pe_fld (pv 1) rfl) (nomark _)))))), ?_⟩
    obtain ⟨t, ty, kt⟩ := isK U (k := 2) (by decide) o2
    refine ⟨_, rfl, _, _, _, _, _, rfl, .own _, ty, kt, _, rfl, ?_⟩
    cases hi : isO 2 m with
    | false =>
      rw [eq_not hi] at k
      exact if0 rfl k
    | true =>
    obtain ⟨ms2, rfl⟩ := isO_obj hi
    obtain ⟨q, rfl⟩ := or_ref o2
    obtain ⟨dx, vs, h1, _, l1, t1⟩ := or_obj o1
    obtain ⟨dy, us, h2, _, l2, t2⟩ := or_obj o2
    obtain ⟨v0, m0, rfl, rfl, a0⟩ := ors1 t1 l1
    obtain ⟨u0, n0, rfl, rfl, b0⟩ := ors1 t2 l2
    have na : NoAttr K (c 2) "number" := U.no 2 (by decide) _ (.head _)
    have cl := U.cls 2 (by decide)
    have e : Tq.eqM (.obj 2 [m0]) (.obj 2 [n0]) = Tq.eqM m0 n0 := by
      rw [Tq.eqM, eqL, eqL, decide_eq_true rfl, Bool.true_and, Bool.and_true]
    rw [e] at k
    exact if1 rfl ⟨_, rfl, p, c 2, dx, _, v0, rfl, h1, cl, na, rfl, _, rfl, q, c 2, dy, _, u0, rfl, h2, cl, na, rfl, m0, n0, a0, b0, dep1 d1, dep1 d2, k⟩
theorem ok_eq3 {n : Nat} {fd : FuncData} (F : Fun K "__eq__" "Octets.__eq__" sOctets___eq__ (f 3) fd) (T : Txt mg) (U : Cl6 K mg c f) (rc : AllRc P w K mg base c n) : FnOk P w K mg base CX0 (n + 1) (f 3) fd ["self", "other"] (spEqM c fl 3 n) := by
  refine F.ok scOctets___eq__ (fun vs H Q E h => ?_) (fun cdv A outer s H vs Q E hr h => ?_)
  · obtain ⟨p, v, ms, m, rfl, _⟩ := h
    rfl
  · obtain ⟨p, v, ms, m, rfl, o1, o2, d1, d2, k⟩ := h
    refine ⟨_, (pss_one (ps_ret (pe_and (pe_callB call_isi (by rfl) T.b_isinstance (by decide +kernel) (pa_cons (pv 1) (pa_cons (pe_glob (v := .ref (c 3)) rfl U.g3 rfl) pa_nil))) (pe_one (pe_cmpR (op_eqM (rc _ rfl rfl rfl rfl rfl) hr) (pe_fld (pv 0) rfl) (pe_fld (pv 1) rfl) (nomark _)))))), ?_⟩
    obtain ⟨t, ty, kt⟩ := isK U (k := 3) (by decide) o2
    refine ⟨_, rfl, _, _, _, _, _, rfl, .own _, ty, kt, _, rfl, ?_⟩
    cases hi : isO 3 m with
    | false =>
      rw [eq_not hi] at k
      exact if0 rfl k
    | true =>
    obtain ⟨ms2, rfl⟩ := isO_obj hi
    obtain ⟨q, rfl⟩ := or_ref o2
    obtain ⟨dx, vs, h1, _, l1, t1⟩ := or_obj o1
    obtain ⟨dy, us, h2, _, l2, t2⟩ := or_obj o2
    obtain ⟨v0, m0, rfl, rfl, a0⟩ := ors1 t1 l1
    obtain ⟨u0, n0, rfl, rfl, b0⟩ := ors1 t2 l2
    have na : NoAttr K (c 3) "numbers" := U.no 3 (by decide) _ (.head _)
    have cl := U.cls 3 (by decide)
    have e : Tq.eqM (.obj 3 [m0]) (.obj 3 [n0]) = Tq.eqM m0 n0 := by
      rw [Tq.eqM, eqL, eqL, decide_eq_true rfl, Bool.true_and, Bool.and_true]
    rw [e] at k
    exact if1 rfl ⟨_, rfl, p, c 3, dx, _, v0, rfl, h1, cl, na, rfl, _, rfl, q, c 3, dy, _, u0, rfl, h2, cl, na, rfl, m0, n0, a0, b0, dep1 d1, dep1 d2, k⟩
theorem eqf (T : Txt mg) (U : Cl6 K mg c f) {n : Nat} (rc : AllRc P w K mg base c n) : EqF P w K mg base c f fl n := by
  refine ⟨fun k hk => ?_⟩
  match k, hk with
  | 0, _ =>
    obtain ⟨fd, F⟩ := U.e0
    exact ⟨fd, _, ok_eq0 F T U, F.binds fun _ _ _ _ _ _ us hl => match us, hl with | [_, _], _ => rfl⟩
  | 1, _ =>
    obtain ⟨fd, F⟩ := U.e1
    exact ⟨fd, _, ok_eq1 F T U rc, F.binds fun _ _ _ _ _ _ us hl => match us, hl with | [_, _], _ => rfl⟩
  | 2, _ =>
    obtain ⟨fd, F⟩ := U.e2
    exact ⟨fd, _, ok_eq2 F T U rc, F.binds fun _ _ _ _ _ _ us hl => match us, hl with | [_, _], _ => rfl⟩
  | 3, _ =>
    obtain ⟨fd, F⟩ := U.e3
    exact ⟨fd, _, ok_eq3 F T U rc, F.binds fun _ _ _ _ _ _ us hl => match us, hl with | [_, _], _ => rfl⟩
theorem all_rc (T : Txt mg) (U : Cl6 K mg c f) (n : Nat) : AllRc P w K mg base c n := by
  induction n with
  | zero => exact fun X _ _ _ _ _ => rcM_zero
  | succ n ih =>
    intro X h1 h2 h3 h4 h5
    have hF := eqf T U ih
    have hR := ih X h1 h2 h3 h4 h5
    subst h1; subst h2; subst h3; subst h4; subst h5
    exact rcM_succ U.toEqC hR hF
end
end K06

set_option pp.maxSteps 1500

namespace K06
open PySem L2 Tq
def wd : Nat → Str
  | 0 => "dots"
  | 1 => "float"
  | 2 => "imaginary"
  | _ => "octets"
mutual
inductive MR (H : Hp) : V → MT → Prop where
  | at {v : V} : isAt v = true → MR H v (.at v)
  | lst {p : Addr} {vs : List V} {ms : List MT} : H p = some (.lst vs) → vs.length ≤ 1000 → MRs H vs ms → MR H (.ref p) (.lst ms)
  | tup {p : Addr} {vs : List V} {ms : List MT} : H p = some (.tup vs) → vs.length ≤ 1000 → MRs H vs ms → MR H (.ref p) (.tup ms)
  | obj {p q : Addr} {k : Nat} {vs : List V} {ms : List MT} : H p = some (.dK [(Sum.inr "word", .str (wd k)), (Sum.inr "parts", .ref q)]) → H q = some (.lst vs) → k < 4 → vs.length = (fl k).length → MRs H vs ms → MR H (.ref p) (.obj k ms)
inductive MRs (H : Hp) : List V → List MT → Prop where
  | nil : MRs H [] []
  | cons {v : V} {vs : List V} {m : MT} {ms : List MT} : MR H v m → MRs H vs ms → MRs H (v :: vs) (m :: ms)
end
section
variable {H H' : Hp}
mutual
theorem MR.same (e : Same H H') : ∀ {v : V} {m : MT}, MR H v m → MR H' v m
  | _, _, .at h => .at h
  | _, _, .lst h z t => .lst (e _ _ h) z (t.same e)
  | _, _, .tup h z t => .tup (e _ _ h) z (t.same e)
  | _, _, .obj h g k l t => .obj (e _ _ h) (e _ _ g) k l (t.same e)
theorem MRs.same (e : Same H H') : ∀ {vs : List V} {ms : List MT}, MRs H vs ms → MRs H' vs ms
  | _, _, .nil => .nil
  | _, _, .cons a t => .cons (a.same e) (t.same e)
end
theorem MRs.length : ∀ {vs : List V} {ms : List MT}, MRs H vs ms → vs.length = ms.length
  | _, _, .nil => rfl
  | _, _, .cons _ h => by rw [List.length_cons, List.length_cons, h.length]
theorem MRs.get : ∀ {vs : List V} {ms : List MT}, MRs H vs ms → ∀ {i : Nat} {v : V}, vs[i]? = some v → ∃ m, ms[i]? = some m ∧ MR H v m
  | _, _, .nil, i, v, h => by simp at h
  | v0 :: _, m0 :: _, .cons a t, 0, v, h => by
    have e : v0 = v := by simpa using h
    subst e
    exact ⟨m0, rfl, a⟩
  | _, _, .cons a t, i + 1, v, h => by
    obtain ⟨m, h1, h2⟩ := t.get (i := i) (v := v) (by simpa using h)
    exact ⟨m, by simpa using h1, h2⟩
theorem MRs.snoc : ∀ {vs : List V} {ms : List MT} {v : V} {m : MT}, MRs H vs ms → MR H v m → MRs H (vs ++ [v]) (ms ++ [m])
  | _, _, _, _, .nil, h => .cons h .nil
  | _, _, _, _, .cons a t, h => .cons a (t.snoc h)
theorem depL_snoc : ∀ (ms : List MT) (m : MT), depL (ms ++ [m]) = max (depL ms) (dep m)
  | [], m => by simp [depL]
  | x :: xs, m => by
    rw [List.cons_append, depL, depL_snoc xs m, depL]
    omega
end
def tc : Nat → Nat
  | 0 => 0
  | d + 1 => 2 + 2 * tc d
def spThing (d : Nat) : Sp := fun vs H Q _ => ∃ (a l : Addr) (k : Int) (c : Nat), vs = [.ref a, .int k] ∧ 0 ≤ k ∧ k < d ∧ c + tc d < 1000000 ∧ Strm H a l c ∧
  ∀ v m H', MR (nw H H') v m → dep m ≤ d → Strm H' a l (c + tc d) → Nx a l H H' → Q v H'
def spObject (d : Nat) : Sp := fun vs H Q _ => ∃ (a l : Addr) (k : Int) (c : Nat), vs = [.ref a, .int k] ∧ 0 ≤ k ∧ k < d ∧ c + 1 + 2 * tc d < 1000000 ∧ Strm H a l c ∧
  ∀ v j ms H', MR (nw H H') v (.obj j ms) → dep (.obj j ms) ≤ d + 1 → Strm H' a l (c + 1 + 2 * tc d) → Nx a l H H' → Q v H'
theorem same_none {H H' : Hp} {p : Addr} (e : Same H H') (h : H' p = none) : H p = none := by
  cases q : H p with
  | none => rfl
  | some o =>
    rw [e p o q] at h
    cases h
theorem strm_same {H H' : Hp} {a l : Addr} {c : Nat} (S : Strm H a l c) (e : Same H H') : Strm H' a l c := by
  obtain ⟨ns, x, k, m, h1, h2, r⟩ := S.ex
  exact ⟨ns, x, k, m, e _ _ h1, e _ _ h2, r⟩
/-- what is new behind a later heap is new, and stands further on -/
theorem nw_lift {H H1 H2 H3 : Hp} (h0 : ∀ b, H1 b = none → H b = none) (h : ∀ b o, H1 b = none → H2 b = some o → H3 b = some o) : Same (nw H1 H2) (nw H H3) := fun b o e => by
  obtain ⟨e1, e2⟩ := of_nw e
  exact nw_of (h0 b e1) (h b o e1 e2)
section
variable {P : Program} {w : World} {K : PySem.W.Frag} {mg : Str → Option Value} {base : Heap} {c f : Nat → Addr}
theorem ok_thing {g : Addr} {fd : FuncData} (F : Fun K "_law_thing" "_law_thing" s_law_thing g fd) (T : Txt mg) (d : Nat) (hd : d < 5) (D_law_draw : Df P w K mg base CX0 1 "_law_draw" spDraw) (D_law_pick : Df P w K mg base CX0 2 "_law_pick" (spPick K))
    (D_law_thing : Df P w K mg base CX0 (2 * d + 3) "_law_thing" (spThing d)) (D_law_object : Df P w K mg base CX0 (2 * d + 4) "_law_object" (spObject d)) : FnG P w K mg base CX0 (2 * d + 5) g fd ["_law_stream", "_law_deep"] (spThing (d + 1)) := by
  refine okG0 F sc_law_thing (fun vs H Q E h => ?_) (fun cdv A outer s H vs Q E hq hr h => ?_)
  · obtain ⟨a, l, k, c, rfl, _⟩ := h
    rfl
  · obtain ⟨a, l, dp, c, rfl, k0, k1, hc, S0, k⟩ := h
    refine ⟨_, (pss_cons (ps_set (i := 2) sc_law_thing.nd rfl (Or.inl rfl) (pe_df D_law_draw hq hr pass0 (pa_cons (pv 0) (pa_cons pe_int pa_nil))))
      (pss_cons (ps_if (PW.pt (pw_and (pt_cmpR op_gt (pv 1) pe_int (nomark _)) (pw_and1 (pt_cmpR op_lt (pv 2) pe_int (nomark _)))))
      (pss_cons (ps_setLc (i := 3) (own := [("_law_k", 4)]) (by rfl) sc_law_thing.nd rfl rfl (sw_true rfl rfl rfl (by decide +kernel)) (pi_range1 rfl T.range (pa_cons (pe_df D_law_draw hq hr pass0 (pa_cons (pv 0) (pa_cons pe_int pa_nil))) pa_nil)) (blkOk_by (own := [("_law_k", 4)]) (N := N_law_thing) (sc := defScope s_law_thing) (by decide +kernel)) (fun _ _ _ _ _ => (pg_name (i := 4) sc_law_thing.nd rfl (Or.inl rfl))) (fun _ _ _ _ _ => pts_nil) (fun _ _ _ _ _ => (pe_df D_law_thing hq hr pass0 (pa_cons (pv 0) (pa_cons (pe_op op_sub (pv 1) pe_int) pa_nil)))))
      (pss_one (ps_ret (pe_ifExp (pt_cmpR op_eq (pv 2) pe_int (nomark _)) (pv 3) (pe_callTy call_tuple_of (by rfl) T.b_tuple (by decide +kernel) (pa_cons (pv 3) pa_nil))))))
      pss_nil)
      (pss_cons (ps_if (PW.pt (pw_and (pt_cmpR op_gt (pv 1) pe_int (nomark _)) (pw_and1 (pt_cmpR op_lt (pv 2) pe_int (nomark _)))))
      (pss_one (ps_ret (pe_df D_law_object hq hr pass0 (pa_cons (pv 0) (pa_cons (pe_op op_sub (pv 1) pe_int) pa_nil)))))
      pss_nil)
      (pss_one (ps_ret (pe_df D_law_pick hq hr pass0 (pa_cons (pv 0) (pa_cons (pe_lst (pa_cons pe_int (pa_cons pe_int (pa_cons (pe_un un_neg pe_int) (pa_cons pe_int (pa_cons (pe_op op_pow pe_int pe_int) (pa_cons (pe_un un_neg pe_int) (pa_cons pe_str (pa_cons pe_str (pa_cons pe_non (pa_cons (pe_op op_sub (pe_op op_pow pe_int pe_int) pe_int) (pa_cons (pe_tup (pa_cons pe_int (pa_cons pe_int pa_nil))) (pa_cons (pe_lst (pa_cons pe_int pa_nil)) pa_nil))))))))))))) pa_nil)))))))), ?_⟩
    refine ⟨_, rfl, a, l, 9, c, rfl, by decide, by decide, by omega, S0, fun way H1 w0 w1 S1 nx1 => nm ?_⟩
    dsimp only
    have etc : tc (d + 1) = 2 + 2 * tc d := rfl
    refine seq_if (fun σ H' => H' = H1 ∧ σ = [some (.ref a), some (.int dp), some (.int way), none, none]) ?_ (fun fin => ?_)
    · rintro σ H' ⟨rfl, rfl⟩
      refine seq_if (fun σ H2 => H2 = H' ∧ σ = [some (.ref a), some (.int dp), some (.int way), none, none]) ?_ (fun fin => ?_)
      · rintro σ H2 ⟨rfl, rfl⟩
        -- a value off the list
        refine ⟨_, rfl, _, rfl, _, _, rfl, rfl, ⟨by decide, by decide, by decide⟩, _, rfl, _, _, rfl, rfl, ⟨by decide, by decide, by decide⟩, _, _, rfl, rfl, (by show 2 ≤ sizeLine; decide), fun t ht => ⟨(by show 1 ≤ sizeLine; decide), fun u hu => ⟨(by show 12 ≤ sizeLine; decide), fun p hp => ?_⟩⟩⟩
        have sm1 := same_new (o := .tup [V.int 97, V.int 0]) ht
        have e1 : (upd H2 t (.tup [V.int 97, V.int 0])) t = some (.tup [V.int 97, V.int 0]) := upd_same
        generalize upd H2 t (.tup [V.int 97, V.int 0]) = G1 at sm1 e1 hu hp ⊢
        have sm2 := same_new (o := .lst [V.int 97]) hu
        have e2 : (upd G1 u (.lst [V.int 97])) u = some (.lst [V.int 97]) := upd_same
        generalize upd G1 u (.lst [V.int 97]) = G2 at sm2 e2 hp ⊢
        have S3 := strm_same (strm_same S1 sm1) sm2
        have ne : ∀ {x : Addr} {o : HO}, H2 x = none → (x ≠ a ∧ x ≠ l) := fun hx => ⟨fun z => S1.dom.1 (z ▸ hx), fun z => S1.dom.2 (z ▸ hx)⟩
        have nt := ne (o := .own 0) ht
        have nu := ne (o := .own 0) (same_none sm1 hu)
        have np := ne (o := .own 0) (same_none (sm1.trans sm2) hp)
        refine ⟨a, l, p, _, c + 1, rfl, by omega, S3.new hp, SqL.of (off_of upd_same np.1 np.2), by simp, by simp, fun v H3 hv S4 nx4 => ?_⟩
        have nx' := nx1.trans ((Nx.of_same (sm1.trans (sm2.trans (same_new hp)))).trans nx4)
        have ft : H t = none := nx1.free S1 ht
        have fu : H u = none := nx1.free S1 (same_none sm1 hu)
        have m1 : MR (nw H H3) (.ref t) (.tup [.at (.int 97), .at (.int 0)]) := .tup (nw_of ft (nx4.get (same_new hp _ _ (sm2 _ _ e1)) nt.1 nt.2)) (by decide) (.cons (.at rfl) (.cons (.at rfl) .nil))
        have m2 : MR (nw H H3) (.ref u) (.lst [.at (.int 97)]) := .lst (nw_of fu (nx4.get (same_new hp _ _ e2) nu.1 nu.2)) (by decide) (.cons (.at rfl) .nil)
        have fin : ∀ m, MR (nw H H3) v m → dep m ≤ 1 → Q v H3 := fun m h1 h2 => k v m H3 h1 (by omega) (S4.mono (by omega)) nx'
        simp only [List.mem_cons, List.not_mem_nil, or_false] at hv
        rcases hv with rfl | rfl | rfl | rfl | rfl | rfl | rfl | rfl | rfl | rfl | rfl | rfl
        all_goals first | exact fin _ m1 (by simp [dep, depL]) | exact fin _ m2 (by simp [dep, depL]) | exact fin _ (.at rfl) (by simp [dep])
      · refine ⟨_, rfl, _, _, rfl, rfl, _, rfl, ?_⟩
        by_cases c1 : (0 : Int) < dp
        · refine if1 (decide_eq_true c1) ⟨_, rfl, _, _, rfl, rfl, _, rfl, ?_⟩
          by_cases c2 : way < 5
          · refine if1 (decide_eq_true c2) ⟨_, rfl, _, rfl, _, _, rfl, rfl, a, l, dp - 1, c + 1, rfl, by omega, by omega, by omega, S1, fun v j ms H3 hm hdp S3 nx3 => k v _ H3 (hm.same (nw_lift (fun b hb => nx1.free S1 hb) fun _ _ _ e => e)) hdp (S3.mono (by omega)) (nx1.trans nx3)⟩
          · exact if0 (decide_eq_false c2) (fin _ _ ⟨rfl, rfl⟩)
        · exact if0 (decide_eq_false c1) (if0 rfl (fin _ _ ⟨rfl, rfl⟩))
    · refine ⟨_, rfl, _, _, rfl, rfl, _, rfl, ?_⟩
      by_cases c1 : (0 : Int) < dp
      · refine if1 (decide_eq_true c1) ⟨_, rfl, _, _, rfl, rfl, _, rfl, ?_⟩
        by_cases c2 : way < 2
        · refine if1 (decide_eq_true c2) ⟨_, rfl, a, l, 3, c + 1, rfl, by decide, by decide, by omega, S1, fun u H3 u0 u1 S3 nx3 => ⟨u, rfl, by omega, by omega, fun D hD => ?_⟩⟩
          have Da : D ≠ a := fun e => S3.dom.1 (e ▸ hD)
          have Dl : D ≠ l := fun e => S3.dom.2 (e ▸ hD)
          have hD0 : H D = none := (nx1.trans nx3).free S3 hD
          refine lc_range (lo := 0) (n := u.toNat) (fun j H'' => ∃ (vs : List V) (ms : List MT), H'' D = some (.lst vs) ∧ vs.length = j ∧ MRs (nw (upd H3 D (.lst [])) H'') vs ms ∧ depL ms ≤ d ∧ Strm H'' a l (c + 2 + j * tc d) ∧ (∀ b o, b ≠ D → H3 b = some o → b ≠ a → b ≠ l → H'' b = some o))
            ⟨[], [], upd_same, rfl, .nil, Nat.zero_le _, by rw [Nat.zero_mul, Nat.add_zero]; exact S3.new hD, fun b o n e _ _ => same_new hD b o e⟩ (fun j H'' hj pv => ?_) (fun H'' pv => ?_)
          · obtain ⟨vs, ms, hDv, hvl, hmr, hdl, Sj, kp⟩ := pv
            have hj2 : j < 2 := by omega
            have hb : j * tc d ≤ 1 * tc d := Nat.mul_le_mul_right _ (by omega)
            refine nm ⟨rfl, yes ⟨_, rfl, _, rfl, _, _, rfl, rfl, a, l, dp - 1, _, rfl, by omega, by omega, by omega, Sj, fun v m H4 hm hdm S4 nx4 => ?_⟩⟩
            have bD : ∀ b, (upd H3 D (.lst [])) b = none → b ≠ D ∧ b ≠ a ∧ b ≠ l ∧ H3 b = none := fun b hb' => by
              have n1 : b ≠ D := fun z => by rw [z, upd_same] at hb'; cases hb'
              rw [upd_ne n1] at hb'
              exact ⟨n1, fun z => S3.dom.1 (z ▸ hb'), fun z => S3.dom.2 (z ▸ hb'), hb'⟩
            refine ⟨vs, nx4.get hDv Da Dl, ?_, vs ++ [v], ms ++ [m], upd_same, by simp [hvl], ?_, ?_, ?_, ?_⟩
            · rw [hvl]; exact Nat.lt_of_lt_of_le hj2 (by decide)
            · refine MRs.snoc (hmr.same (nw_lift (fun _ h => h) fun b o h e => ?_)) (hm.same (nw_lift (fun b h => ?_) fun b o h e => ?_))
              · obtain ⟨n1, n2, n3, _⟩ := bD b h
                rw [upd_ne n1]
                exact nx4.get e n2 n3
              · cases q : (upd H3 D (.lst [])) b with
                | none => rfl
                | some o =>
                  by_cases z : b = D
                  · rw [z, hDv] at h; cases h
                  · rw [upd_ne z] at q
                    have za : b ≠ a := fun y => Sj.dom.1 (y ▸ h)
                    have zl : b ≠ l := fun y => Sj.dom.2 (y ▸ h)
                    rw [kp b o z q za zl] at h
                    cases h
              · have z : b ≠ D := fun y => by rw [y, hDv] at h; cases h
                rw [upd_ne z]
                exact e
            · rw [depL_snoc]; omega
            · have := S4.keep (H' := upd H4 D (.lst (vs ++ [v]))) (upd_ne Da.symm) (upd_ne Dl.symm)
              rw [show c + 2 + (j + 1) * tc d = c + 2 + j * tc d + tc d by rw [Nat.succ_mul]; omega]
              exact this
            · intro b o n e n1 n2
              rw [upd_ne n]
              exact nx4.get (kp b o n e n1 n2) n1 n2
          · obtain ⟨vs, ms, hDv, hvl, hmr, hdl, Sj, kp⟩ := pv
            have hb : u.toNat * tc d ≤ 2 * tc d := Nat.mul_le_mul_right _ (by omega)
            have S5 := Sj.mono (show c + 2 + u.toNat * tc d ≤ c + tc (d + 1) by omega)
            have nx5 : Nx a l H H'' := (nx1.trans nx3).trans fun b o e => by
              obtain ⟨n1, n2, e'⟩ := off_ne e
              exact off_of (kp b o (fun z => by rw [z, hD] at e'; cases e') e' n1 n2) n1 n2
            have f3 : ∀ b, (upd H3 D (.lst [])) b = none → H b = none := fun b hb' => by
              have n1 : b ≠ D := fun z => by rw [z, upd_same] at hb'; cases hb'
              rw [upd_ne n1] at hb'
              exact (nx1.trans nx3).free S3 hb'
            have hms : MRs (nw H H'') vs ms := hmr.same (nw_lift f3 fun _ _ _ e => e)
            refine ⟨_, rfl, rfl, _, rfl, ?_⟩
            by_cases c3 : way = 0
            · exact if1 (decide_eq_true (congrArg V.int c3)) ⟨_, rfl, k _ _ H'' (.lst (nw_of hD0 hDv) (by omega) hms) (by simp only [dep]; omega) S5 nx5⟩
            · refine if0 (decide_eq_false (fun z => c3 (by injection z))) ⟨_, rfl, D, _, rfl, .inl ⟨SqL.of hDv, fun t ht => ?_⟩⟩
              refine k _ _ _ (.tup (nw_of (nx5.free S5 ht) upd_same) (by omega) (hms.same (nw_lift (fun _ h => h) fun b o _ e => same_new ht b o e))) (by simp only [dep]; omega) (S5.new ht) (nx5.trans (Nx.new ht))
        · exact if0 (decide_eq_false c2) (fin _ _ ⟨rfl, rfl⟩)
      · exact if0 (decide_eq_false c1) (if0 rfl (fin _ _ ⟨rfl, rfl⟩))
theorem ix_draw {K : PySem.W.Frag} {H : Hp} {a l : Addr} {c : Nat} {xs : List V} {n : Int} {Q : VK} (S : Strm H a l c) (hc : c < 4000000) (hn : n = (xs.length : Int)) (h0 : 0 < n) (h1 : n < 1000000000)
    (k : ∀ v H', v ∈ xs → Strm H' a l (c + 1) → Nx a l H H' → Q v H') : ∀ p, H p = none → spDraw [.ref a, .int n] (upd H p (.lst xs)) (fun r H2 => rIxL K (.ref p) r H2 Q) E0 := by
  intro p hp
  refine ⟨a, l, n, c, rfl, h0, h1, hc, S.new hp, fun r H' r0 r1 S' nx => ?_⟩
  obtain ⟨v, hv, hm⟩ := atI_mem (xs := xs) r0 (by omega)
  have pa : p ≠ a := fun e => S.dom.1 (e ▸ hp)
  have pl : p ≠ l := fun e => S.dom.2 (e ▸ hp)
  exact ⟨p, xs, r, v, rfl, rfl, SqL.of (nx.get upd_same pa pl), hv, k v H' hm S' ((Nx.new hp).trans nx)⟩
theorem ok_object {g : Addr} {fd : FuncData} (F : Fun K "_law_object" "_law_object" s_law_object g fd) (T : Txt mg) (d : Nat) (hd : d < 5) (D_law_draw : Df P w K mg base CX0 1 "_law_draw" spDraw)
    (D_law_thing : Df P w K mg base CX0 (2 * d + 3) "_law_thing" (spThing d)) : FnG P w K mg base CX0 (2 * d + 4) g fd ["_law_stream", "_law_deep"] (spObject d) := by
  refine okG0 F sc_law_object (fun vs H Q E h => ?_) (fun cdv A outer s H vs Q E hq hr h => ?_)
  · obtain ⟨a, l, k, c, rfl, _⟩ := h
    rfl
  · obtain ⟨a, l, dp, c, rfl, k0, k1, hc, S0, k⟩ := h
    refine ⟨_, (pss_cons (ps_set (i := 2) sc_law_object.nd rfl (Or.inl rfl) (pe_ix ix_list (pe_lst (pa_cons pe_str (pa_cons pe_str (pa_cons pe_str (pa_cons pe_str pa_nil))))) (pe_df D_law_draw hq hr pass0 (pa_cons (pv 0) (pa_cons pe_int pa_nil))) (fun _ _ => rfl)))
      (pss_cons (ps_set (i := 3) sc_law_object.nd rfl (Or.inl rfl) (pe_dget2 (hu_of hr) (pe_disp (pps_cons pe_str pe_int (pps_cons pe_str pe_int pps_nil)) rfl rfl (by decide) (by decide)) (pv 2) pe_int ⟨rfl, rfl, rfl, rfl⟩))
      (pss_one (ps_ret (pe_disp (pps_cons pe_str (pv 2) (pps_cons pe_str (pe_lc (own := [("_law_k", 4)]) (by rfl) sc_law_object.nd (pi_range1 rfl T.range (pa_cons (pv 3) pa_nil)) (blkOk_by (own := [("_law_k", 4)]) (N := N_law_object) (sc := defScope s_law_object) (by decide +kernel)) (fun _ _ _ _ _ => (pg_name (i := 4) sc_law_object.nd rfl (Or.inl rfl))) (fun _ _ _ _ _ => pts_nil) (fun _ _ _ _ _ => (pe_df D_law_thing hq hr pass0 (pa_cons (pv 0) (pa_cons (pv 1) pa_nil))))) pps_nil)) rfl rfl (by decide) (by decide)))))), ?_⟩
    refine ⟨(by show 4 ≤ sizeLine; decide), fun p2 hp2 => ⟨_, rfl, ix_draw (xs := [V.str "dots", V.str "float", V.str "imaginary", V.str "octets"]) (n := 4) S0 (by omega) rfl (by decide) (by decide) (fun v H1 hv S1 nx1 => nm ?_) p2 hp2⟩⟩
    obtain ⟨j, hj, rfl⟩ : ∃ j, j < 4 ∧ v = .str (wd j) := by
      have : v = .str "dots" ∨ v = .str "float" ∨ v = .str "imaginary" ∨ v = .str "octets" := by simpa using hv
      rcases this with rfl | rfl | rfl | rfl
      · exact ⟨0, by decide, rfl⟩
      · exact ⟨1, by decide, rfl⟩
      · exact ⟨2, by decide, rfl⟩
      · exact ⟨3, by decide, rfl⟩
    clear hv
    refine fun p3 hp3 => ?_
    refine ⟨upd_same, [(Sum.inr "dots", .int 0), (Sum.inr "float", .int 2)], rfl, by decide, p3, rfl, .inl ⟨_, .inl upd_same⟩, _, rfl, _, DGet.k (k := Sum.inr (wd j)) upd_same, nm ?_⟩
    have emany : (valV (mergeK [] [(Sum.inr "dots", V.int 0), (Sum.inr "float", V.int 2)]) (Sum.inr (wd j))).getD (V.int 1) = .int (fl j).length := by
      match j, hj with
      | 0, _ => decide +kernel
      | 1, _ => decide +kernel
      | 2, _ => decide +kernel
      | 3, _ => decide +kernel
    rw [emany]
    have hfl : (fl j).length ≤ 2 := by
      match j, hj with
      | 0, _ => decide
      | 1, _ => decide
      | 2, _ => decide
      | 3, _ => decide
    have sm2 : Same H1 (upd (upd H1 p3 (.dK [])) p3 (.dK (mergeK [] [(Sum.inr "dots", V.int 0), (Sum.inr "float", V.int 2)]))) := fun b o e => by
      have n : b ≠ p3 := fun z => by rw [z, hp3] at e; cases e
      rw [upd_ne n, upd_ne n]
      exact e
    generalize upd (upd H1 p3 (.dK [])) p3 (.dK (mergeK [] [(Sum.inr "dots", V.int 0), (Sum.inr "float", V.int 2)])) = H2 at sm2 ⊢
    have S2 := strm_same S1 sm2
    have nx2 := nx1.trans (Nx.of_same (a := a) (l := l) sm2)
    refine fun p4 hp4 => ⟨_, rfl, _, rfl, ((fl j).length : Int), rfl, by omega, by omega, fun D hD => ?_⟩
    have S3 := S2.new (o := .dK []) hp4
    have nx3 := nx2.trans (Nx.new (o := .dK []) hp4)
    have e4 : (upd H2 p4 (.dK [])) p4 = some (.dK []) := upd_same
    have h40 : H p4 = none := nx2.free S2 hp4
    have p4a : p4 ≠ a := fun e => S2.dom.1 (e ▸ hp4)
    have p4l : p4 ≠ l := fun e => S2.dom.2 (e ▸ hp4)
    generalize upd H2 p4 (.dK []) = H3 at S3 nx3 e4 hD ⊢
    have Da : D ≠ a := fun e => S3.dom.1 (e ▸ hD)
    have Dl : D ≠ l := fun e => S3.dom.2 (e ▸ hD)
    have D4 : p4 ≠ D := fun e => by rw [← e, e4] at hD; cases hD
    have hD0 : H D = none := nx3.free S3 hD
    rw [Int.toNat_natCast]
    refine lc_range (lo := 0) (n := (fl j).length) (fun i H'' => ∃ (vs : List V) (ms : List MT), H'' D = some (.lst vs) ∧ vs.length = i ∧ MRs (nw (upd H3 D (.lst [])) H'') vs ms ∧ depL ms ≤ d ∧ Strm H'' a l (c + 1 + i * tc d) ∧ (∀ b o, b ≠ D → H3 b = some o → b ≠ a → b ≠ l → H'' b = some o))
      ⟨[], [], upd_same, rfl, .nil, Nat.zero_le _, by rw [Nat.zero_mul, Nat.add_zero]; exact S3.new hD, fun b o n e _ _ => same_new hD b o e⟩ (fun i H'' hi pv => ?_) (fun H'' pv => ?_)
    · obtain ⟨vs, ms, hDv, hvl, hmr, hdl, Sj, kp⟩ := pv
      have hj2 : i < 2 := by omega
      have hb : i * tc d ≤ 1 * tc d := Nat.mul_le_mul_right _ (by omega)
      refine nm ⟨rfl, yes ⟨_, rfl, _, rfl, a, l, dp, _, rfl, by omega, by omega, by omega, Sj, fun v m H4 hm hdm S4 nx4 => ?_⟩⟩
      have bD : ∀ b, (upd H3 D (.lst [])) b = none → b ≠ D ∧ b ≠ a ∧ b ≠ l ∧ H3 b = none := fun b hb' => by
        have n1 : b ≠ D := fun z => by rw [z, upd_same] at hb'; cases hb'
        rw [upd_ne n1] at hb'
        exact ⟨n1, fun z => S3.dom.1 (z ▸ hb'), fun z => S3.dom.2 (z ▸ hb'), hb'⟩
      refine ⟨vs, nx4.get hDv Da Dl, ?_, vs ++ [v], ms ++ [m], upd_same, by simp [hvl], ?_, ?_, ?_, ?_⟩
      · rw [hvl]; exact Nat.lt_of_lt_of_le hj2 (by decide)
      · refine MRs.snoc (hmr.same (nw_lift (fun _ h => h) fun b o h e => ?_)) (hm.same (nw_lift (fun b h => ?_) fun b o h e => ?_))
        · obtain ⟨n1, n2, n3, _⟩ := bD b h
          rw [upd_ne n1]
          exact nx4.get e n2 n3
        · cases q : (upd H3 D (.lst [])) b with
          | none => rfl
          | some o =>
            by_cases z : b = D
            · rw [z, hDv] at h; cases h
            · rw [upd_ne z] at q
              have za : b ≠ a := fun y => Sj.dom.1 (y ▸ h)
              have zl : b ≠ l := fun y => Sj.dom.2 (y ▸ h)
              rw [kp b o z q za zl] at h
              cases h
        · have z : b ≠ D := fun y => by rw [y, hDv] at h; cases h
          rw [upd_ne z]
          exact e
      · rw [depL_snoc]; omega
      · have := S4.keep (H' := upd H4 D (.lst (vs ++ [v]))) (upd_ne Da.symm) (upd_ne Dl.symm)
        rw [show c + 1 + (i + 1) * tc d = c + 1 + i * tc d + tc d by rw [Nat.succ_mul]; omega]
        exact this
      · intro b o n e n1 n2
        rw [upd_ne n]
        exact nx4.get (kp b o n e n1 n2) n1 n2
    · obtain ⟨vs, ms, hDv, hvl, hmr, hdl, Sj, kp⟩ := pv
      have hb : (fl j).length * tc d ≤ 2 * tc d := Nat.mul_le_mul_right _ (by omega)
      have S5 := Sj.mono (show c + 1 + (fl j).length * tc d ≤ c + 1 + 2 * tc d by omega)
      have e5 : H'' p4 = some (.dK []) := kp p4 _ D4 e4 p4a p4l
      refine ⟨e5, [(Sum.inr "word", .str (wd j)), (Sum.inr "parts", .ref D)], rfl, (by show 2 ≤ 15; decide), ?_⟩
      have em : mergeK ([] : List (Key × V)) [(Sum.inr "word", V.str (wd j)), (Sum.inr "parts", V.ref D)] = ([(Sum.inr "word", V.str (wd j)), (Sum.inr "parts", V.ref D)] : List (Key × V)) := rfl
      rw [em]
      refine k _ j ms _ (.obj (q := D) (vs := vs) (nw_of h40 upd_same) (nw_of hD0 (by rw [upd_ne D4.symm]; exact hDv)) hj hvl (hmr.same (nw_lift (fun b hb' => ?_) fun b o hb' e => ?_))) (by simp only [dep]; omega) ?_ ?_
      · have n1 : b ≠ D := fun z => by rw [z, upd_same] at hb'; cases hb'
        rw [upd_ne n1] at hb'
        exact nx3.free S3 hb'
      · have n1 : b ≠ D := fun z => by rw [z, upd_same] at hb'; cases hb'
        rw [upd_ne n1] at hb'
        have n4 : b ≠ p4 := fun z => by rw [z, e4] at hb'; cases hb'
        rw [upd_ne n4]
        exact e
      · exact S5.keep (upd_ne p4a.symm) (upd_ne p4l.symm)
      · intro b o e
        obtain ⟨n1, n2, e'⟩ := off_ne e
        have n4 : b ≠ p4 := fun z => by rw [z, h40] at e'; cases e'
        refine off_of ?_ n1 n2
        rw [upd_ne n4]
        exact kp b o (fun z => by rw [z, hD0] at e'; cases e') (nx3.get e' n1 n2) n1 n2
end
end K06

set_option pp.maxSteps 1500

namespace K06
open PySem L2 Tq
section
variable {X : Cx} {tg l : Expr} {tl : TE}
/-- what a for walks: a list or a tuple -/
def iLT (K : PySem.W.Frag) (tl : TE) : TI := fun σ H R => tl σ H fun x H1 => ∃ a, x = .ref a ∧ (((∃ xs, SqL K H1 a xs) ∧ R (Itl K a) H1) ∨ ((∃ xs, SqT K H1 a xs) ∧ R (Itt K a) H1))
theorem pi_lt (hl : PE X l tl) : PI X tg l (iLT X.K tl) := by
  refine ⟨fun pins s σ H R I h => ?_⟩
  refine thn (hl.run pins s σ H _ I h) fun v s1 hh => ?_
  obtain ⟨x, H1, I1, r1, a, rfl, hq⟩ := hh
  cases r1
  have fr : ∀ b ∈ [s1.heap.objs.size], _ := fun b hb => by
    have e : b = s1.heap.objs.size := by simpa using hb
    subst e
    exact I1.fpOk (Nat.le_refl _) (I1.hok.fresh (Nat.le_refl _))
  rcases hq with ⟨⟨xs, hx⟩, q⟩ | ⟨⟨xs, hx⟩, q⟩
  · obtain ⟨its, rv, p, hz⟩ := I1.list hx
    refine wpAny_pyIter_list p.isList ⟨s1.heap.objs.size, [s1.heap.objs.size], _, _, H1, rfl, ?_, turn_list a _, ⟨_, Heap.get?_push_size _ rfl, rfl, rfl⟩, fr, q⟩
    exact I1.kept (t' := s1.toks) fun b o e => Heap.get?_push_of_some _ e
  · obtain ⟨its, rv, p, hz⟩ := I1.tuple hx
    refine wpAny_pyIter_tuple (show s1.heap.IsTuple a its.toArray from p) ⟨s1.heap.objs.size, [s1.heap.objs.size], _, _, H1, rfl, ?_, turn_tuple a _, ⟨_, Heap.get?_push_size _ rfl, rfl, rfl⟩, fr, q⟩
    exact I1.kept (t' := s1.toks) fun b o e => Heap.get?_push_of_some _ e
/-- C() of a class without its own __init__ -/
def tBare (C : Addr) : TE := fun _ H Q => ∀ x dx, H x = none → H dx = none → dx ≠ x → Q (.ref x) (upd (upd H dx (.own x)) x (.ins C dx []))
theorem pe_bare {C : Addr} {x : Str} {p pos : Pos} (hg : Gl X x) (hm : X.mg x = some (.ref C)) (mk : PySem.W.makesIn X.K C = true) (hi : PySem.W.findIn X.K (.ref C) "__init__" = some (some (.builtin "object.__init__"))) (ho : PySem.W.mroIn X.K C (.type "object") = some true)
    (kp : PySem.W.keepIn X.K (.ref C) = true) (hdb : (x == ("__debug__" : Str)) = false := by decide) : PE X (.Call (.Name x p) [] [] pos) (tBare C) := by
  refine ⟨fun pins s σ H Q I h => ?_⟩
  refine wpAny_Call_Name_kw (ld_glob I hg hm ?_ hdb)
  have q := h (s.heap.objs.size + 1) s.heap.objs.size (I.hok.fresh (Nat.le_succ _)) (I.hok.fresh (Nat.le_refl _)) (Nat.ne_of_lt (Nat.lt_succ_self _))
  have I2 := Inv.made (C := C) I
  have e2 : ((s.heap.push PySem.W.emptyDict).push (PySem.W.instObj C s.heap.objs.size)).get? (s.heap.objs.size + 1) = some (PySem.W.instObj C s.heap.objs.size) := by
    have z := Heap.get?_push_size (s.heap.push PySem.W.emptyDict) (o := PySem.W.instObj C s.heap.objs.size) rfl
    rwa [Heap.size_push] at z
  have t1 : PySem.W.Looks (model X.prog X.w) ((s.heap.push PySem.W.emptyDict).push (PySem.W.instObj C s.heap.objs.size)) (isInstance (.ref (s.heap.objs.size + 1)) (.type "object")) true :=
    (looks_obj e2 rfl).andThen (PySem.W.looks_subIn I2.kIn ho)
  refine PySem.W.callWith_K0 I.kIn kp (wpAny_call (make_map0 I.kIn mk hi (fun self => .of_pure (PySem.W.oi_bind self)) (codeAny_call_builtin PySem.W.oi_plain PySem.W.entry_oi ?_)))
  refine @PySem.W.check_slot (model X.prog X.w) _ _ _ "object.__init__" "object" "__init__" (.ref (s.heap.objs.size + 1)) [] [] _ PySem.W.oi_kind PySem.W.oi_split t1 (PySem.W.oi_args _) ?_
  rw [PySem.W.oi_run]
  exact wpAny_pure ⟨rfl, .ref (s.heap.objs.size + 1), _, I2, rfl, q⟩
end
/-- an __init__ that stores its arguments under the names fs -/
def spIni (C : Addr) (fs : List Str) : Sp := fun vs H Q _ => ∃ (x dx : Addr) (ws : List V), vs = .ref x :: ws ∧ ws.length = fs.length ∧ H x = some (.ins C dx []) ∧ ∀ H', (∀ b, b ≠ x → H' b = H b) → H' x = some (.ins C dx (fs.zip ws)) → Q .non H'
section
variable {P : Program} {w : World} {K : PySem.W.Frag} {mg : Str → Option Value} {base : Heap} {c f : Nat → Addr}
theorem ok_i1 {h : Addr} {fd : FuncData} (F : Fun K "__init__" "Float.__init__" sFloat___init__ h fd) (U : Cl6 K mg c f) : FnOk P w K mg base CX0 1 h fd ["self", "mantissa", "exponent"] (spIni (c 1) (fl 1)) := by
  refine F.ok scFloat___init__ (fun vs H Q E h => ?_) (fun cdv A outer s H vs Q E hr h => ?_)
  · obtain ⟨x, dx, ws, rfl, hl, _⟩ := h
    rw [List.length_cons, hl]
    rfl
  · obtain ⟨x, dx, ws, rfl, hl, hx, k⟩ := h
    match ws, hl with
    | [m, e], _ =>
    refine ⟨_, (pss_cons (ps_fld (pv 0) (pv 1) rfl)
      (pss_one (ps_fld (pv 0) (pv 2) rfl))), ?_⟩
    refine ⟨_, rfl, _, rfl, x, c 1, dx, _, rfl, hx, U.cls 1 (by decide), U.no 1 (by decide) _ (.head _), by decide, ?_⟩
    exact ⟨_, rfl, _, rfl, x, c 1, dx, _, rfl, upd_same, U.cls 1 (by decide), U.no 1 (by decide) _ (.tail _ (.head _)), (by show 1 < 1000; decide), k _ (fun b hb => by rw [upd_ne hb, upd_ne hb]) upd_same⟩
theorem ok_i2 {h : Addr} {fd : FuncData} (F : Fun K "__init__" "Imaginary.__init__" sImaginary___init__ h fd) (U : Cl6 K mg c f) : FnOk P w K mg base CX0 1 h fd ["self", "number"] (spIni (c 2) (fl 2)) := by
  refine F.ok scImaginary___init__ (fun vs H Q E h => ?_) (fun cdv A outer s H vs Q E hr h => ?_)
  · obtain ⟨x, dx, ws, rfl, hl, _⟩ := h
    rw [List.length_cons, hl]
    rfl
  · obtain ⟨x, dx, ws, rfl, hl, hx, k⟩ := h
    match ws, hl with
    | [m], _ =>
    refine ⟨_, (pss_one (ps_fld (pv 0) (pv 1) rfl)), ?_⟩
    exact ⟨_, rfl, _, rfl, x, c 2, dx, _, rfl, hx, U.cls 2 (by decide), U.no 2 (by decide) _ (.head _), by decide, k _ (fun b hb => by rw [upd_ne hb]) upd_same⟩
theorem ok_i3 {h : Addr} {fd : FuncData} (F : Fun K "__init__" "Octets.__init__" sOctets___init__ h fd) (U : Cl6 K mg c f) : FnOk P w K mg base CX0 1 h fd ["self", "numbers"] (spIni (c 3) (fl 3)) := by
  refine F.ok scOctets___init__ (fun vs H Q E h => ?_) (fun cdv A outer s H vs Q E hr h => ?_)
  · obtain ⟨x, dx, ws, rfl, hl, _⟩ := h
    rw [List.length_cons, hl]
    rfl
  · obtain ⟨x, dx, ws, rfl, hl, hx, k⟩ := h
    match ws, hl with
    | [m], _ =>
    refine ⟨_, (pss_one (ps_fld (pv 0) (pv 1) rfl)), ?_⟩
    exact ⟨_, rfl, _, rfl, x, c 3, dx, _, rfl, hx, U.cls 3 (by decide), U.no 3 (by decide) _ (.head _), by decide, k _ (fun b hb => by rw [upd_ne hb]) upd_same⟩
end
/-- C(a, ..) of the class k -/
def tOb (c : Nat → Addr) (k : Nat) (t : TA) : TE := fun σ H Q => t σ H fun vs H1 => vs.length = (fl k).length ∧ ∀ x dx H', H1 x = none → Same H1 H' → H' x = some (.ins (c k) dx ((fl k).zip vs)) → Q (.ref x) H'
section
variable {X : Cx} {c f : Nat → Addr} {p pos : Pos} {e : Expr} {es : List Expr} {t : TA} {j k : Nat} {nm : Str} {qual : Str} {st : Stmt} {ps : List Str}
theorem pe_ob {h : Addr} {fd : FuncData} (M : Mk X.K (c k) h) (hgm : X.mg nm = some (.ref (c k))) (F : Fun X.K "__init__" qual st h fd) (G : FnOk X.prog X.w X.K X.mg X.base CX0 1 h fd ps (spIni (c k) (fl k))) (hb : Binds X.K fd ps [])
    (hr : Room j X.A) (ha : PA X (e :: es) t) (hj : 2 ≤ j := by omega) (hg : Gl X nm := by rfl) (hx : Passes CX0 X (fun _ _ _ => False) := by exact pass0) (hdb : (nm == ("__debug__" : Str)) = false := by decide)
    (he : starEach (e :: es) X.env = (false, eval e X.env) :: starEach es X.env := by rfl) (hpl : (backTo pos (starEach es X.env)).any (·.1) = false := by rfl) :
    PE X (.Call (.Name nm p) (e :: es) [] pos) (tOb c k t) := by
  refine ⟨fun pins s σ H Q I q => ?_⟩
  refine wpAny_Call_Name_kw (ld_glob I hg hgm ?_ hdb)
  refine PySem.W.callWith_K (h₀ := X.base) I.ok.mod.kin M.kp (thn (ha.run pos pins s σ H _ I q) fun us s1 hh => ?_) he hpl
  obtain ⟨vs, H1, I1, r, hl, q1⟩ := hh
  refine ⟨I1.kIn, run_make (dvs := []) M G (hr.mono hj) hb .nil hx I1 r fun x dx hx hdx hne => ?_⟩
  refine ⟨x, dx, vs ++ [], rfl, by rw [List.append_nil]; exact hl, upd_same, fun H' h1 h2 => ⟨rfl, q1 x dx H' hx (fun b o e => ?_) (by rw [List.append_nil] at h2; exact h2)⟩⟩
  have n1 : b ≠ x := fun z => by rw [z, hx] at e; cases e
  have n2 : b ≠ dx := fun z => by rw [z, hdx] at e; cases e
  rw [h1 b n1, upd_ne n1, upd_ne n2]
  exact e
end
end K06

set_option pp.maxSteps 1500

namespace K06
open PySem L2 Tq
section
variable {c f : Nat → Addr} {H : Hp}
theorem ORs.snoc : ∀ {vs : List V} {ms : List MT} {v : V} {m : MT}, ORs c fl H vs ms → OR c fl H v m → ORs c fl H (vs ++ [v]) (ms ++ [m])
  | _, _, _, _, .nil, h => .cons h .nil
  | _, _, _, _, .cons a t, h => .cons a (ORs.snoc t h)
/-- one more item in a list that is being made -/
theorem acc_step {H1 H2 : Hp} {D : Addr} {us : List V} {ms : List MT} {u : V} {m : MT} (hD : H D = none) (hDv : H1 D = some (.lst us)) (ho : ORs c fl (nw (upd H D (.lst [])) H1) us ms) (kp : ∀ b o, b ≠ D → H b = some o → H1 b = some o)
    (s2 : Same H1 H2) (hu : OR c fl (nw H1 H2) u m) : ORs c fl (nw (upd H D (.lst [])) (upd H2 D (.lst (us ++ [u])))) (us ++ [u]) (ms ++ [m]) ∧ (∀ b o, b ≠ D → H b = some o → (upd H2 D (.lst (us ++ [u]))) b = some o) := by
  have bD : ∀ b, (upd H D (.lst [])) b = none → b ≠ D := fun b hb z => by rw [z, upd_same] at hb; cases hb
  refine ⟨ORs.snoc (ho.same (nw_lift (fun _ h => h) fun b o h e => ?_)) (hu.same (nw_lift (fun b h => ?_) fun b o h e => ?_)), fun b o n e => ?_⟩
  · rw [upd_ne (bD b h)]
    exact s2 _ _ e
  · cases q : (upd H D (.lst [])) b with
    | none => rfl
    | some o =>
      by_cases z : b = D
      · rw [z, hDv] at h; cases h
      · rw [upd_ne z] at q
        rw [kp b o z q] at h
        cases h
  · have z : b ≠ D := fun y => by rw [y, hDv] at h; cases h
    rw [upd_ne z]
    exact e
  · rw [upd_ne n]
    exact s2 _ _ (kp b o n e)
end
/-- which type a model's value has -/
def tyM : MT → String
  | .at .non => "NoneType"
  | .at (.int _) => "int"
  | .at _ => "str"
  | .lst _ => "list"
  | .tup _ => "tuple"
  | .obj _ _ => "dict"
theorem mr_ty {K : PySem.W.Frag} {H : Hp} {v : V} {m : MT} (h : MR H v m) : TyX K H v (.type (tyM m)) := by
  cases h with
  | «at» h =>
    cases v <;> cases h
    · exact .base .non
    · exact .base (.int _)
    · exact .base (.str _)
  | lst h _ _ => exact .base (.lst h)
  | tup h _ _ => exact .base (.tup h)
  | obj h _ _ _ _ => exact .base (.dK h)
theorem kit_m {K : PySem.W.Frag} {H : Hp} {v : V} {m : MT} (h : MR H v m) (T : String) (hT : T = "dict" ∨ T = "list" ∨ T = "tuple") : PySem.W.kitOne K (.type (tyM m)) (.type T) = some (decide (tyM m = T)) := by
  have key : ∀ S ∈ ["NoneType", "int", "str", "list", "tuple", "dict"], ∀ T ∈ ["dict", "list", "tuple"], kitB S T = some (decide (S = T)) := by decide +kernel
  have hS : tyM m ∈ ["NoneType", "int", "str", "list", "tuple", "dict"] := by
    cases h with
    | «at» h => cases v <;> cases h <;> simp [tyM]
    | lst _ _ _ => simp [tyM]
    | tup _ _ _ => simp [tyM]
    | obj _ _ _ _ _ => simp [tyM]
  exact kit_ty (key _ hS T (by simp only [List.mem_cons, List.not_mem_nil, or_false]; exact hT))
def spMade (c : Nat → Addr) (n : Nat) : Sp := fun vs H Q _ => ∃ (v : V) (m : MT), vs = [v] ∧ MR H v m ∧ dep m < n ∧ ∀ u H', OR c fl (nw H H') u m → Same H H' → Q u H'
section
variable {P : Program} {w : World} {K : PySem.W.Frag} {mg : Str → Option Value} {base : Heap} {c f : Nat → Addr}
theorem ok_made {g : Addr} {fd : FuncData} (F : Fun K "_law_made" "_law_made" s_law_made g fd) (T : Txt mg) (U : Cl6 K mg c f) (n : Nat) (D_law_made : Df P w K mg base CX0 (n + 2) "_law_made" (spMade c n)) : FnG P w K mg base CX0 (n + 3) g fd ["_law_model"] (spMade c (n + 1)) := by
  obtain ⟨h1, fd1, fi1, fn1, F1⟩ := U.i1
  obtain ⟨h2, fd2, fi2, fn2, F2⟩ := U.i2
  obtain ⟨h3, fd3, fi3, fn3, F3⟩ := U.i3
  have M1 : Mk K (c 1) h1 := ⟨U.mks 1 (by decide), fi1, fn1, U.kp 1 (by decide)⟩
  have M2 : Mk K (c 2) h2 := ⟨U.mks 2 (by decide), fi2, fn2, U.kp 2 (by decide)⟩
  have M3 : Mk K (c 3) h3 := ⟨U.mks 3 (by decide), fi3, fn3, U.kp 3 (by decide)⟩
  have G1 := ok_i1 (P := P) (w := w) (base := base) F1 U
  have G2 := ok_i2 (P := P) (w := w) (base := base) F2 U
  have G3 := ok_i3 (P := P) (w := w) (base := base) F3 U
  have B1 := F1.binds (ps := ["self", "mantissa", "exponent"]) fun _ _ _ _ _ _ us hl => match us, hl with | [_, _, _], _ => rfl
  have B2 := F2.binds (ps := ["self", "number"]) fun _ _ _ _ _ _ us hl => match us, hl with | [_, _], _ => rfl
  have B3 := F3.binds (ps := ["self", "numbers"]) fun _ _ _ _ _ _ us hl => match us, hl with | [_, _], _ => rfl
  refine okG0 F sc_law_made (fun vs H Q E h => ?_) (fun cdv A outer s H vs Q E hq hr h => ?_)
  · obtain ⟨v, m, rfl, _⟩ := h
    rfl
  · obtain ⟨v, m, rfl, hm, hd, k⟩ := h
    refine ⟨_, (pss_cons (ps_if (pt_val (pe_callB call_isi (by rfl) T.b_isinstance (by decide +kernel) (pa_cons (pv 0) (pa_cons (pe_bltn (v := .ty "dict") rfl T.b_dict (by decide +kernel) rfl) pa_nil))))
      (pss_cons (ps_setLc (i := 1) (own := [("_law_part", 3)]) (by rfl) sc_law_made.nd rfl rfl (sw_true rfl rfl rfl (by decide +kernel)) (pi_list (pe_dget (hu_of hr) (pv 0) pe_str (fun _ _ => rfl))) (blkOk_by (own := [("_law_part", 3)]) (N := N_law_made) (sc := defScope s_law_made) (by decide +kernel)) (fun _ _ _ _ _ => (pg_name (i := 3) sc_law_made.nd rfl (Or.inl rfl))) (fun _ _ _ _ _ => pts_nil) (fun _ _ _ _ _ => (pe_df D_law_made hq hr pass0 (pa_cons (pv 3) pa_nil))))
      (pss_cons (ps_if (pt_cmpR op_eq (pe_dget (hu_of hr) (pv 0) pe_str (fun _ _ => rfl)) pe_str (nomark _))
      (pss_one (ps_ret (pe_bare rfl U.g0 (U.mks 0 (by decide)) U.i0 (U.hm 0 (by decide)) (U.kp 0 (by decide)))))
      pss_nil)
      (pss_cons (ps_if (pt_cmpR op_eq (pe_dget (hu_of hr) (pv 0) pe_str (fun _ _ => rfl)) pe_str (nomark _))
      (pss_one (ps_ret (pe_ob (c := c) (k := 1) M1 U.g1 F1 G1 B1 hr (pa_cons (pe_ix ix_list (pv 1) pe_int (fun _ _ => rfl)) (pa_cons (pe_ix ix_list (pv 1) pe_int (fun _ _ => rfl)) pa_nil)))))
      pss_nil)
      (pss_one (ps_ret (pe_ifExp (pt_cmpR op_eq (pe_dget (hu_of hr) (pv 0) pe_str (fun _ _ => rfl)) pe_str (nomark _)) (pe_ob (c := c) (k := 2) M2 U.g2 F2 G2 B2 hr (pa_cons (pe_ix ix_list (pv 1) pe_int (fun _ _ => rfl)) pa_nil)) (pe_ob (c := c) (k := 3) M3 U.g3 F3 G3 B3 hr (pa_cons (pe_ix ix_list (pv 1) pe_int (fun _ _ => rfl)) pa_nil))))))))
      pss_nil)
      (pss_cons (ps_if (pt_val (pe_callB call_isiT (by rfl) T.b_isinstance (by decide +kernel) (pa_cons (pv 0) (pa_cons (pe_tup (pa_cons (pe_bltn (v := .ty "list") rfl T.b_list (by decide +kernel) rfl) (pa_cons (pe_bltn (v := .ty "tuple") rfl T.b_tuple (by decide +kernel) rfl) pa_nil))) pa_nil))))
      (pss_cons (ps_setLc (i := 2) (own := [("_law_part", 3)]) (by rfl) sc_law_made.nd rfl rfl (sw_true rfl rfl rfl (by decide +kernel)) (pi_lt (pv 0)) (blkOk_by (own := [("_law_part", 3)]) (N := N_law_made) (sc := defScope s_law_made) (by decide +kernel)) (fun _ _ _ _ _ => (pg_name (i := 3) sc_law_made.nd rfl (Or.inl rfl))) (fun _ _ _ _ _ => pts_nil) (fun _ _ _ _ _ => (pe_df D_law_made hq hr pass0 (pa_cons (pv 3) pa_nil))))
      (pss_one (ps_ret (pe_ifExp (pt_val (pe_callB call_isi (by rfl) T.b_isinstance (by decide +kernel) (pa_cons (pv 0) (pa_cons (pe_bltn (v := .ty "list") rfl T.b_list (by decide +kernel) rfl) pa_nil)))) (pv 2) (pe_callTy call_tuple_of (by rfl) T.b_tuple (by decide +kernel) (pa_cons (pv 2) pa_nil))))))
      pss_nil)
      (pss_one (ps_ret (pv 0))))), ?_⟩
    have turn : ∀ {G : Hp} {ms : List MT} {vs : List V} {D : Addr}, MRs G vs ms → vs.length ≤ 1000 → depL ms < n → G D = none → ∀ (i : Nat) (x : V) (H'' : Hp), vs[i]? = some x → (∃ us, H'' D = some (.lst us) ∧ us.length = i ∧ ORs c fl (nw (upd G D (.lst [])) H'') us (ms.take i) ∧ (∀ b o, b ≠ D → G b = some o → H'' b = some o)) →
        spMade c n [x] H'' (fun y H4 => ∃ acc, H4 D = some (.lst acc) ∧ acc.length < sizeLine ∧ (∃ us, (upd H4 D (.lst (acc ++ [y]))) D = some (.lst us) ∧ us.length = i + 1 ∧ ORs c fl (nw (upd G D (.lst [])) (upd H4 D (.lst (acc ++ [y])))) us (ms.take (i + 1)) ∧ (∀ b o, b ≠ D → G b = some o → (upd H4 D (.lst (acc ++ [y]))) b = some o))) E0 := by
      intro G ms vs D hms hvl hdm hD i x H'' hi pv
      obtain ⟨us, hDv, hul, ho, kp⟩ := pv
      obtain ⟨mi, hmi, hx⟩ := hms.get hi
      have sm : Same G H'' := fun b o e => kp b o (fun z => by rw [z, hD] at e; cases e) e
      refine ⟨x, mi, rfl, hx.same sm, Nat.lt_of_le_of_lt (depL_le hmi) hdm, fun u H4 hu s4 => ?_⟩
      obtain ⟨a1, a2⟩ := acc_step hD hDv ho kp s4 hu
      have hlt : i < vs.length := (List.getElem?_eq_some_iff.mp hi).1
      refine ⟨us, s4 _ _ hDv, ?_, us ++ [u], upd_same, by rw [List.length_append, hul]; rfl, ?_, a2⟩
      · rw [hul]
        exact Nat.lt_of_lt_of_le (show i < 1001 by omega) (by decide)
      · rw [List.take_succ, hmi]
        exact a1
    have start : ∀ {G : Hp} {D : Addr} {ms : List MT}, G D = none → (∃ us, (upd G D (.lst [])) D = some (.lst us) ∧ us.length = 0 ∧ ORs c fl (nw (upd G D (.lst [])) (upd G D (.lst []))) us (ms.take 0) ∧ (∀ b o, b ≠ D → G b = some o → (upd G D (.lst [])) b = some o)) :=
      fun {G D ms} hD => ⟨[], upd_same, rfl, .nil, fun b o n e => by rw [upd_ne n]; exact e⟩
    have done : ∀ {G : Hp} {D : Addr} {ms : List MT} {vs : List V} {H'' : Hp}, MRs G vs ms → G D = none → (∃ us, H'' D = some (.lst us) ∧ us.length = vs.length ∧ ORs c fl (nw (upd G D (.lst [])) H'') us (ms.take vs.length) ∧ (∀ b o, b ≠ D → G b = some o → H'' b = some o)) →
        ∃ us, H'' D = some (.lst us) ∧ us.length = ms.length ∧ ORs c fl (nw G H'') us ms ∧ Same G H'' := by
      intro G D ms vs H'' hms hD pv
      obtain ⟨us, hDv, hul, ho, kp⟩ := pv
      rw [hms.length, List.take_length] at ho
      refine ⟨us, hDv, by rw [hul, hms.length], ho.same (nw_lift (fun b hb => ?_) fun _ _ _ e => e), fun b o e => kp b o (fun z => by rw [z, hD] at e; cases e) e⟩
      have n1 : b ≠ D := fun z => by rw [z, upd_same] at hb; cases hb
      rwa [upd_ne n1] at hb
    refine ⟨_, rfl, _, _, _, _, _, rfl, .ty "dict", mr_ty hm, kit_m hm "dict" (Or.inl rfl), _, rfl, ?_⟩
    cases hm with
    | «at» ha =>
      have e1 : decide (tyM (.at v) = "dict") = false := by cases v <;> cases ha <;> simp [tyM]
      have e2 : decide (tyM (.at v) = "list") = false := by cases v <;> cases ha <;> simp [tyM]
      have e3 : decide (tyM (.at v) = "tuple") = false := by cases v <;> cases ha <;> simp [tyM]
      have kl := kit_m (K := K) (H := H) (MR.at ha) "list" (Or.inr (Or.inl rfl))
      have kt := kit_m (K := K) (H := H) (MR.at ha) "tuple" (Or.inr (Or.inr rfl))
      rw [e2] at kl
      rw [e3] at kt
      refine if0 e1 ⟨_, rfl, (by show 2 ≤ sizeLine; decide), fun tp htp => ⟨_, tp, _, _, _, false, rfl, upd_same, .cons (.ty "list") (.cons (.ty "tuple") .nil), mr_ty (MR.at ha), kitAny_cons kl (fun _ => kitAny_cons kt (fun _ => kitAny_nil) (fun h => nomatch h)) (fun h => nomatch h), _, rfl, if0 rfl ⟨_, rfl, k _ _ (.at ha) (same_new htp)⟩⟩⟩
    | @lst p vs ms h z t =>
      have hv : MR H (.ref p) (.lst ms) := .lst h z t
      have kl : PySem.W.kitOne K (.type "list") (.type "list") = some true := kit_m hv "list" (Or.inr (Or.inl rfl))
      have hd' : depL ms < n := by simp only [dep] at hd; omega
      refine if0 rfl ⟨_, rfl, (by show 2 ≤ sizeLine; decide), fun tp htp => ⟨_, tp, _, _, _, true, rfl, upd_same, .cons (.ty "list") (.cons (.ty "tuple") .nil), mr_ty (hv.same (same_new htp)), kitAny_cons kl (fun h => nomatch h) (fun _ => rfl), _, rfl, if1 rfl ?_⟩⟩
      have sm := same_new (o := .tup [V.ty "list", V.ty "tuple"]) htp
      generalize upd H tp (.tup [V.ty "list", V.ty "tuple"]) = G at sm ⊢
      have tG := t.same sm
      refine ⟨_, rfl, p, rfl, .inl ⟨⟨_, SqL.of (sm _ _ h)⟩, fun D hD => ?_⟩⟩
      refine lc_list (xs := vs) (fun i H'' => ∃ us, H'' D = some (.lst us) ∧ us.length = i ∧ ORs c fl (nw (upd G D (.lst [])) H'') us (ms.take i) ∧ (∀ b o, b ≠ D → G b = some o → H'' b = some o)) (start hD)
        (fun i H'' _ pv => SqL.of (pv.choose_spec.2.2.2 p _ (fun q => by rw [q] at h; rw [sm _ _ h] at hD; cases hD) (sm _ _ h))) (fun i x H'' hi pv => nm ⟨rfl, yes ⟨_, rfl, turn tG z hd' hD i x H'' hi pv⟩⟩) (fun H'' pv => nm ?_)
      obtain ⟨us, hDv, hul, ho, s2⟩ := done tG hD pv
      have s02 := sm.trans s2
      have ho' : ORs c fl (nw H H'') us ms := ho.same (nw_lift (fun b hb => same_none sm hb) fun _ _ _ e => e)
      refine ⟨_, rfl, _, _, _, _, _, rfl, .ty "list", mr_ty (hv.same s02), kl, _, rfl, if1 rfl ⟨_, rfl, k _ _ (.lst (nw_of (same_none sm hD) hDv) ho') s02⟩⟩
    | @tup p vs ms h z t =>
      have hv : MR H (.ref p) (.tup ms) := .tup h z t
      have kl : PySem.W.kitOne K (.type "tuple") (.type "list") = some false := kit_m hv "list" (Or.inr (Or.inl rfl))
      have kt : PySem.W.kitOne K (.type "tuple") (.type "tuple") = some true := kit_m hv "tuple" (Or.inr (Or.inr rfl))
      have hd' : depL ms < n := by simp only [dep] at hd; omega
      refine if0 rfl ⟨_, rfl, (by show 2 ≤ sizeLine; decide), fun tp htp => ⟨_, tp, _, _, _, true, rfl, upd_same, .cons (.ty "list") (.cons (.ty "tuple") .nil), mr_ty (hv.same (same_new htp)), kitAny_cons kl (fun _ => kitAny_cons kt (fun h => nomatch h) (fun _ => rfl)) (fun h => nomatch h), _, rfl, if1 rfl ?_⟩⟩
      have sm := same_new (o := .tup [V.ty "list", V.ty "tuple"]) htp
      generalize upd H tp (.tup [V.ty "list", V.ty "tuple"]) = G at sm ⊢
      have tG := t.same sm
      refine ⟨_, rfl, p, rfl, .inr ⟨⟨_, .inl (.inl (sm _ _ h))⟩, fun D hD => ?_⟩⟩
      refine lc_tup (xs := vs) (fun i H'' => ∃ us, H'' D = some (.lst us) ∧ us.length = i ∧ ORs c fl (nw (upd G D (.lst [])) H'') us (ms.take i) ∧ (∀ b o, b ≠ D → G b = some o → H'' b = some o)) (start hD)
        (fun i H'' _ pv => .inl (.inl (pv.choose_spec.2.2.2 p _ (fun q => by rw [q] at h; rw [sm _ _ h] at hD; cases hD) (sm _ _ h)))) (fun i x H'' hi pv => nm ⟨rfl, yes ⟨_, rfl, turn tG z hd' hD i x H'' hi pv⟩⟩) (fun H'' pv => nm ?_)
      obtain ⟨us, hDv, hul, ho, s2⟩ := done tG hD pv
      have s02 := sm.trans s2
      have ho' : ORs c fl (nw H H'') us ms := ho.same (nw_lift (fun b hb => same_none sm hb) fun _ _ _ e => e)
      refine ⟨_, rfl, _, _, _, _, _, rfl, .ty "list", mr_ty (hv.same s02), kl, _, rfl, if0 rfl ⟨_, rfl, D, _, rfl, .inl ⟨SqL.of hDv, fun t2 ht2 => k _ _ (.tup (nw_of (same_none s02 ht2) upd_same) (ho'.same (nw_lift (fun _ h => h) fun b o _ e => same_new ht2 b o e))) (s02.trans (same_new ht2))⟩⟩⟩
    | @obj p q j vs ms h g hj l t =>
      have hd' : depL ms < n := by simp only [dep] at hd; omega
      have hvl : vs.length ≤ 1000 := by
        rw [l]
        match j, hj with
        | 0, _ => decide
        | 1, _ => decide
        | 2, _ => decide
        | 3, _ => decide
      refine if1 rfl ?_
      have gW : valV ([(Sum.inr "word", V.str (wd j)), (Sum.inr "parts", V.ref q)] : List (Key × V)) (Sum.inr "word") = some (.str (wd j)) := rfl
      have gP : valV ([(Sum.inr "word", V.str (wd j)), (Sum.inr "parts", V.ref q)] : List (Key × V)) (Sum.inr "parts") = some (.ref q) := rfl
      refine ⟨_, rfl, p, _, rfl, gP ▸ DGet.k (k := Sum.inr "parts") h, q, rfl, ⟨_, SqL.of g⟩, fun D hD => ?_⟩
      refine lc_list (xs := vs) (fun i H'' => ∃ us, H'' D = some (.lst us) ∧ us.length = i ∧ ORs c fl (nw (upd H D (.lst [])) H'') us (ms.take i) ∧ (∀ b o, b ≠ D → H b = some o → H'' b = some o)) (start hD)
        (fun i H'' _ pv => SqL.of (pv.choose_spec.2.2.2 q _ (fun z => by rw [z] at g; rw [g] at hD; cases hD) g)) (fun i x H'' hi pv => nm ⟨rfl, yes ⟨_, rfl, turn t hvl hd' hD i x H'' hi pv⟩⟩) (fun H'' pv => nm ?_)
      obtain ⟨us, hDv, hul, ho, s2⟩ := done t hD pv
      have h2 := s2 _ _ h
      have hml : us.length = (fl j).length := by rw [hul, ← t.length, l]
      have out : ∀ {x dx : Addr} {H3 : Hp}, H'' x = none → Same H'' H3 → H3 x = some (.ins (c j) dx ((fl j).zip us)) → Q (.ref x) H3 := fun {x dx H3} hx s3 h3 =>
        k _ _ (.obj (nw_of (same_none s2 hx) h3) hj hml (ho.same (nw_lift (fun _ h => h) fun b o _ e => s3 b o e))) (s2.trans s3)
      refine ⟨_, rfl, p, _, rfl, gW ▸ DGet.k (k := Sum.inr "word") h2, rfl, _, rfl, ?_⟩
      have nwd : ∀ {a b : Str}, a ≠ b → decide (V.str a = V.str b) = false := fun h => decide_eq_false (fun z => h (by injection z))
      match j, hj with
      | 0, _ =>
        have hu0 : us = [] := List.eq_nil_of_length_eq_zero hml
        subst hu0
        refine if1 rfl fun x dx hx hdx hne => out hx (fun b o e => ?_) (dx := dx) upd_same
        have n1 : b ≠ x := fun z => by rw [z, hx] at e; cases e
        have n2 : b ≠ dx := fun z => by rw [z, hdx] at e; cases e
        rw [upd_ne n1, upd_ne n2]
        exact e
      | 1, _ =>
        match us, hml with
        | [u0, u1], _ =>
        refine if0 (nwd (by decide +kernel)) ⟨_, rfl, p, _, rfl, gW ▸ DGet.k (k := Sum.inr "word") h2, rfl, _, rfl, if1 rfl ?_⟩
        exact ⟨_, rfl, D, _, 0, u0, rfl, rfl, SqL.of hDv, rfl, _, rfl, D, _, 1, u1, rfl, rfl, SqL.of hDv, rfl, rfl, fun x dx H3 hx s3 h3 => out hx s3 h3⟩
      | 2, _ =>
        match us, hml with
        | [u0], _ =>
        refine if0 (nwd (by decide +kernel)) ⟨_, rfl, p, _, rfl, gW ▸ DGet.k (k := Sum.inr "word") h2, rfl, _, rfl, if0 (nwd (by decide +kernel)) ?_⟩
        refine ⟨_, rfl, p, _, rfl, gW ▸ DGet.k (k := Sum.inr "word") h2, rfl, _, rfl, if1 rfl ?_⟩
        exact ⟨_, rfl, D, _, 0, u0, rfl, rfl, SqL.of hDv, rfl, rfl, fun x dx H3 hx s3 h3 => out hx s3 h3⟩
      | 3, _ =>
        match us, hml with
        | [u0], _ =>
        refine if0 (nwd (by decide +kernel)) ⟨_, rfl, p, _, rfl, gW ▸ DGet.k (k := Sum.inr "word") h2, rfl, _, rfl, if0 (nwd (by decide +kernel)) ?_⟩
        refine ⟨_, rfl, p, _, rfl, gW ▸ DGet.k (k := Sum.inr "word") h2, rfl, _, rfl, if0 (nwd (by decide +kernel)) ?_⟩
        exact ⟨_, rfl, D, _, 0, u0, rfl, rfl, SqL.of hDv, rfl, rfl, fun x dx H3 hx s3 h3 => out hx s3 h3⟩
end
end K06

set_option pp.maxSteps 1500

namespace K06
open PySem L2 Tq PyProof.Rows RZ
theorem castPG {X : Cx} {K : PySem.W.Frag} {tg : PySem.Expr} {r : PySem.W.Frag → TG} (i : PG X tg (r X.K)) (h : X.K = K := by rfl) : PG X tg (r K) := h ▸ i
theorem walk_zipT {K : PySem.W.Frag} {a b : Addr} {xs ys : List V} {n : Nat} (hn : n = min xs.length ys.length) : Walk (ItzT K a b) n (fun H => SqT K H a xs ∧ SqT K H b ys) (YPair (fun i => xs[i]?) (fun i => ys[i]?)) := by
  subst hn
  refine ⟨fun i _ hi q => ?_, fun _ q => ⟨xs, ys, q.1, q.2, by omega⟩, fun i H v H' _ q y => ?_⟩
  · have l1 : i < xs.length := by omega
    have l2 : i < ys.length := by omega
    exact ⟨xs, ys, xs[i], ys[i], q.1, q.2, by simp [l1], by simp [l2]⟩
  · obtain ⟨T, x, z, k1, k2, k3, k4, k5⟩ := y
    exact ⟨T, x, z, k1, k2, k3, k4 xs q.1, k5 ys q.2⟩
theorem kAny {K : PySem.W.Frag} {H : Hp} {v : V} {m : MT} (h : MR H v m) : PySem.W.kitAny K (.type (tyM m)) [.type "list", .type "tuple"] = some (decide (tyM m = "list") || decide (tyM m = "tuple")) := by
  have kl := kit_m (K := K) h "list" (Or.inr (Or.inl rfl))
  have kt := kit_m (K := K) h "tuple" (Or.inr (Or.inr rfl))
  refine kitAny_cons kl (fun e => ?_) (fun e => by rw [e]; rfl)
  rw [e, Bool.false_or]
  exact kitAny_cons kt (fun e => by rw [e]; exact kitAny_nil) (fun e => e)
theorem eq_ty {H : Hp} {v u : V} {m1 m2 : MT} (h1 : MR H v m1) (h2 : MR H u m2) (hne : tyM m1 ≠ tyM m2) : Tq.eqM m1 m2 = false := by
  cases h1 with
  | «at» a1 =>
    cases h2 with
    | «at» a2 =>
      rw [Tq.eqM]
      cases v <;> cases a1 <;> cases u <;> cases a2 <;> first | rfl | exact absurd rfl hne
    | lst _ _ _ => rw [Tq.eqM] <;> simp
    | tup _ _ _ => rw [Tq.eqM] <;> simp
    | obj _ _ _ _ _ => rw [Tq.eqM] <;> simp
  | lst _ _ _ =>
    cases h2 with
    | «at» _ => rw [Tq.eqM] <;> simp
    | lst _ _ _ => exact absurd rfl hne
    | tup _ _ _ => rw [Tq.eqM] <;> simp
    | obj _ _ _ _ _ => rw [Tq.eqM] <;> simp
  | tup _ _ _ =>
    cases h2 with
    | «at» _ => rw [Tq.eqM] <;> simp
    | tup _ _ _ => exact absurd rfl hne
    | lst _ _ _ => rw [Tq.eqM] <;> simp
    | obj _ _ _ _ _ => rw [Tq.eqM] <;> simp
  | obj _ _ _ _ _ =>
    cases h2 with
    | «at» _ => rw [Tq.eqM] <;> simp
    | tup _ _ _ => rw [Tq.eqM] <;> simp
    | lst _ _ _ => rw [Tq.eqM] <;> simp
    | obj _ _ _ _ _ => exact absurd rfl hne
theorem mr_obj {H : Hp} {v : V} {m : MT} (h : MR H v m) (e : tyM m = "dict") : ∃ p q k vs ms, v = .ref p ∧ m = .obj k ms ∧ H p = some (.dK [(Sum.inr "word", .str (wd k)), (Sum.inr "parts", .ref q)]) ∧ H q = some (.lst vs) ∧ k < 4 ∧ vs.length = (fl k).length ∧ MRs H vs ms := by
  cases h with
  | «at» a => cases v <;> cases a <;> simp [tyM] at e
  | lst _ _ _ => simp [tyM] at e
  | tup _ _ _ => simp [tyM] at e
  | obj h g k l t => exact ⟨_, _, _, _, _, rfl, rfl, h, g, k, l, t⟩
theorem mr_lst {H : Hp} {v : V} {m : MT} (h : MR H v m) (e : tyM m = "list") : ∃ p vs ms, v = .ref p ∧ m = .lst ms ∧ H p = some (.lst vs) ∧ vs.length ≤ 1000 ∧ MRs H vs ms := by
  cases h with
  | «at» a => cases v <;> cases a <;> simp [tyM] at e
  | lst h z t => exact ⟨_, _, _, rfl, rfl, h, z, t⟩
  | tup _ _ _ => simp [tyM] at e
  | obj _ _ _ _ _ => simp [tyM] at e
theorem mr_tup {H : Hp} {v : V} {m : MT} (h : MR H v m) (e : tyM m = "tuple") : ∃ p vs ms, v = .ref p ∧ m = .tup ms ∧ H p = some (.tup vs) ∧ vs.length ≤ 1000 ∧ MRs H vs ms := by
  cases h with
  | «at» a => cases v <;> cases a <;> simp [tyM] at e
  | tup h z t => exact ⟨_, _, _, rfl, rfl, h, z, t⟩
  | lst _ _ _ => simp [tyM] at e
  | obj _ _ _ _ _ => simp [tyM] at e
theorem mr_at {H : Hp} {v : V} {m : MT} (h : MR H v m) (e1 : tyM m ≠ "dict") (e2 : tyM m ≠ "list") (e3 : tyM m ≠ "tuple") : isAt v = true ∧ m = .at v := by
  cases h with
  | «at» a => exact ⟨a, rfl⟩
  | tup _ _ _ => exact absurd rfl e3
  | lst _ _ _ => exact absurd rfl e2
  | obj _ _ _ _ _ => exact absurd rfl e1
theorem wd_inj {j k : Nat} (hj : j < 4) (hk : k < 4) (h : wd j = wd k) : j = k := by
  have key : ∀ j, j < 4 → ∀ k, k < 4 → wd j = wd k → j = k := by decide +kernel
  exact key j hj k hk h
def spAlike (n : Nat) : Sp := fun vs H Q _ => ∃ (v u : V) (m1 m2 : MT), vs = [v, u] ∧ MR H v m1 ∧ MR H u m2 ∧ dep m1 < n ∧ ∀ H', Same H H' → Q (.bl (Tq.eqM m1 m2)) H'
theorem all_bs (ms1 ms2 : List MT) (h : ms1.length = ms2.length) : (((List.range ms1.length).map (bsOf ms1 ms2)).all id) = eqL ms1 ms2 := by
  rw [eqL_bs _ _ h]
  unfold TqE.allF
  rw [List.all_map, List.range_eq_range', Nat.sub_zero]
  rfl
theorem lc_pair {K : PySem.W.Frag} {n : Nat} {J : It} {G : Hp → Prop} {xs ys : List V} {ms1 ms2 : List MT} {H1 : Hp} {D : Addr} {v u : V} {Qd : Hp → Prop} (hD : H1 D = none)
    (w : Walk J xs.length G (YPair (fun i => xs[i]?) (fun i => ys[i]?))) (t1 : MRs H1 xs ms1) (t2 : MRs H1 ys ms2) (hz : xs.length ≤ 1000) (hd : depL ms1 < n)
    (hG : ∀ H', (∀ b o, b ≠ D → H1 b = some o → H' b = some o) → G H')
    (hk : ∀ H', Same H1 H' → H' D = some (.lst (((List.range xs.length).map (bsOf ms1 ms2)).map V.bl)) → Qd H') :
    ∃ W : Nat → Nat → Hp → Prop, (∃ m, W 0 m (upd H1 D (.lst []))) ∧ ∀ i m H, W i m H →
      (J.stop i H ∧ Qd H) ∨ (J.go i H ∧ ∃ Nx : Hp → Prop, (∀ H', Nx H' → ∃ m', m' < m ∧ W (i + 1) m' H') ∧ ∀ x H', J.yld i H x H' → gTup K 2 (gCons (gName 2) (gCons (gName 3) gNil)) x (wipe [some v, some u, none, none] [2, 3]) H' fun σ2 H2 => wipe σ2 [2, 3] = wipe [some v, some u, none, none] [2, 3] ∧ tYes σ2 H2 fun b H3 =>
        if b = true then tDf (spAlike n) E0 (tCons (tVar 2) (tCons (tVar 3) tNil)) σ2 H3 fun y H4 => ∃ acc, H4 D = some (.lst acc) ∧ acc.length < sizeLine ∧ Nx (upd H4 D (.lst (acc ++ [y]))) else Nx H3) := by
  refine lc_it w (fun i H' => H' D = some (.lst (((List.range i).map (bsOf ms1 ms2)).map V.bl)) ∧ ∀ b o, b ≠ D → H1 b = some o → H' b = some o) ⟨upd_same, fun b o n e => by rw [upd_ne n]; exact e⟩
    (fun i H' _ pv => hG H' pv.2) (fun i x H' H'' hi pv y => ?_) (fun H' pv => hk H' (fun b o e => pv.2 b o (fun z => by rw [z, hD] at e; cases e) e) pv.1)
  obtain ⟨T, x1, x2, rfl, hT, rfl, e1, e2⟩ := y
  obtain ⟨m1, q1, r1⟩ := t1.get e1
  obtain ⟨m2, q2, r2⟩ := t2.get e2
  have sm : Same H1 H' := fun b o e => pv.2 b o (fun z => by rw [z, hD] at e; cases e) e
  have st := sm.trans (same_new (o := .tup [x1, x2]) hT)
  refine ⟨T, _, rfl, SqT.of upd_same, rfl, x1, _, rfl, x2, _, rfl, rfl, ⟨rfl, yes ⟨_, rfl, _, rfl, x1, x2, m1, m2, rfl, r1.same st, r2.same st, Nat.lt_of_le_of_lt (depL_le q1) hd, fun H4 s4 => ?_⟩⟩⟩
  have nT : D ≠ T := fun z => by rw [← z, pv.1] at hT; cases hT
  have eb : bsOf ms1 ms2 i = Tq.eqM m1 m2 := by unfold bsOf; rw [q1, q2]
  have h4 := s4 D _ (by rw [upd_ne nT]; exact pv.1)
  refine ⟨_, h4, ?_, ?_, fun b o nb e => ?_⟩
  · rw [List.length_map, List.length_map, List.length_range]
    exact Nat.lt_of_lt_of_le (show i < 1001 by omega) (by decide)
  · rw [upd_same, List.range_succ, List.map_append, List.map_append, ← eb]
    rfl
  · rw [upd_ne nb]
    have nbT : b ≠ T := fun z => by rw [← z, pv.2 b o nb e] at hT; cases hT
    exact s4 b o (by rw [upd_ne nbT]; exact pv.2 b o nb e)
section
variable {P : Program} {w : World} {K : PySem.W.Frag} {mg : Str → Option Value} {base : Heap} {c f : Nat → Addr}
theorem ok_alike {g : Addr} {fd : FuncData} (F : Fun K "_law_alike" "_law_alike" s_law_alike g fd) (T : Txt mg) (n : Nat) (D_law_alike : Df P w K mg base CX0 n "_law_alike" (spAlike n)) : FnG P w K mg base CX0 (n + 1) g fd ["_law_one", "_law_other"] (spAlike (n + 1)) := by
  refine okG0 F sc_law_alike (fun vs H Q E h => ?_) (fun cdv A outer s H vs Q E hq hr h => ?_)
  · obtain ⟨v, u, m1, m2, rfl, _⟩ := h
    rfl
  · obtain ⟨v, u, m1, m2, rfl, h1, h2, hd, k⟩ := h
    refine ⟨_, (pss_cons (ps_if (PW.pt (pw_or (pt_val (pe_callB call_isi (by rfl) T.b_isinstance (by decide +kernel) (pa_cons (pv 0) (pa_cons (pe_bltn (v := .ty "dict") rfl T.b_dict (by decide +kernel) rfl) pa_nil)))) (pw_or1 (pt_val (pe_callB call_isi (by rfl) T.b_isinstance (by decide +kernel) (pa_cons (pv 1) (pa_cons (pe_bltn (v := .ty "dict") rfl T.b_dict (by decide +kernel) rfl) pa_nil)))))))
      (pss_cons (ps_if (PW.pt (pw_or (pt_not (pt_val (pe_callB call_isi (by rfl) T.b_isinstance (by decide +kernel) (pa_cons (pv 0) (pa_cons (pe_bltn (v := .ty "dict") rfl T.b_dict (by decide +kernel) rfl) pa_nil))))) (pw_or (pt_not (pt_val (pe_callB call_isi (by rfl) T.b_isinstance (by decide +kernel) (pa_cons (pv 1) (pa_cons (pe_bltn (v := .ty "dict") rfl T.b_dict (by decide +kernel) rfl) pa_nil))))) (pw_or1 (pt_cmpR op_ne (pe_dget (hu_of hr) (pv 0) pe_str (fun _ _ => rfl)) (pe_dget (hu_of hr) (pv 1) pe_str (fun _ _ => rfl)) (nomark _))))))
      (pss_one (ps_ret pe_bl))
      pss_nil)
      (pss_one (ps_ret (pe_callB (cr_all rfl) (by rfl) T.b_all (by decide +kernel) (pa_cons (pe_lc (own := [("_law_first", 2), ("_law_second", 3)]) (by rfl) sc_law_alike.nd (pi_zipA (by rfl) T.b_zip (pa_cons (pe_dget (hu_of hr) (pv 0) pe_str (fun _ _ => rfl)) (pa_cons (pe_dget (hu_of hr) (pv 1) pe_str (fun _ _ => rfl)) pa_nil))) (blkOk_by (own := [("_law_first", 2), ("_law_second", 3)]) (N := N_law_alike) (sc := defScope s_law_alike) (by decide +kernel)) (fun _ _ _ _ _ => (castPG (K := K) (r := fun K => gTup K 2 _) (pg_tup (by rfl) (pgs_cons (pg_name (i := 2) sc_law_alike.nd rfl (Or.inl rfl)) (pgs_cons (pg_name (i := 3) sc_law_alike.nd rfl (Or.inl rfl)) pgs_nil))))) (fun _ _ _ _ _ => pts_nil) (fun _ _ _ _ _ => (pe_df D_law_alike hq hr pass0 (pa_cons (pv 2) (pa_cons (pv 3) pa_nil))))) pa_nil)))))
      pss_nil)
      (pss_cons (ps_if (PW.pt (pw_or (pt_val (pe_callB call_isiT (by rfl) T.b_isinstance (by decide +kernel) (pa_cons (pv 0) (pa_cons (pe_tup (pa_cons (pe_bltn (v := .ty "list") rfl T.b_list (by decide +kernel) rfl) (pa_cons (pe_bltn (v := .ty "tuple") rfl T.b_tuple (by decide +kernel) rfl) pa_nil))) pa_nil)))) (pw_or1 (pt_val (pe_callB call_isiT (by rfl) T.b_isinstance (by decide +kernel) (pa_cons (pv 1) (pa_cons (pe_tup (pa_cons (pe_bltn (v := .ty "list") rfl T.b_list (by decide +kernel) rfl) (pa_cons (pe_bltn (v := .ty "tuple") rfl T.b_tuple (by decide +kernel) rfl) pa_nil))) pa_nil)))))))
      (pss_cons (ps_if (PW.pt (pw_or (pt_cmpR op_ne (pe_callB call_isi (by rfl) T.b_isinstance (by decide +kernel) (pa_cons (pv 0) (pa_cons (pe_bltn (v := .ty "list") rfl T.b_list (by decide +kernel) rfl) pa_nil))) (pe_callB call_isi (by rfl) T.b_isinstance (by decide +kernel) (pa_cons (pv 1) (pa_cons (pe_bltn (v := .ty "list") rfl T.b_list (by decide +kernel) rfl) pa_nil))) (nomark _)) (pw_or1 (pt_cmpR op_ne (pe_callB call_isi (by rfl) T.b_isinstance (by decide +kernel) (pa_cons (pv 0) (pa_cons (pe_bltn (v := .ty "tuple") rfl T.b_tuple (by decide +kernel) rfl) pa_nil))) (pe_callB call_isi (by rfl) T.b_isinstance (by decide +kernel) (pa_cons (pv 1) (pa_cons (pe_bltn (v := .ty "tuple") rfl T.b_tuple (by decide +kernel) rfl) pa_nil))) (nomark _)))))
      (pss_one (ps_ret pe_bl))
      pss_nil)
      (pss_one (ps_ret (pe_and (pe_cmpR op_eq (pe_callB call_len_seq (by rfl) T.b_len (by decide +kernel) (pa_cons (pv 0) pa_nil)) (pe_callB call_len_seq (by rfl) T.b_len (by decide +kernel) (pa_cons (pv 1) pa_nil)) (nomark _)) (pe_one (pe_callB (cr_all rfl) (by rfl) T.b_all (by decide +kernel) (pa_cons (pe_lc (own := [("_law_first", 2), ("_law_second", 3)]) (by rfl) sc_law_alike.nd (pi_zipA (by rfl) T.b_zip (pa_cons (pv 0) (pa_cons (pv 1) pa_nil))) (blkOk_by (own := [("_law_first", 2), ("_law_second", 3)]) (N := N_law_alike) (sc := defScope s_law_alike) (by decide +kernel)) (fun _ _ _ _ _ => (castPG (K := K) (r := fun K => gTup K 2 _) (pg_tup (by rfl) (pgs_cons (pg_name (i := 2) sc_law_alike.nd rfl (Or.inl rfl)) (pgs_cons (pg_name (i := 3) sc_law_alike.nd rfl (Or.inl rfl)) pgs_nil))))) (fun _ _ _ _ _ => pts_nil) (fun _ _ _ _ _ => (pe_df D_law_alike hq hr pass0 (pa_cons (pv 2) (pa_cons (pv 3) pa_nil))))) pa_nil)))))))
      pss_nil)
      (pss_one (ps_ret (pe_cmpR op_eq (pv 0) (pv 1) (nomark _)))))), ?_⟩
    have kd1 := kit_m (K := K) h1 "dict" (Or.inl rfl)
    have kd2 := kit_m (K := K) h2 "dict" (Or.inl rfl)
    refine ⟨_, rfl, _, _, _, _, _, rfl, .ty "dict", mr_ty h1, kd1, _, rfl, ?_⟩
    have kl1 := kit_m (K := K) h1 "list" (Or.inr (Or.inl rfl))
    have kl2 := kit_m (K := K) h2 "list" (Or.inr (Or.inl rfl))
    have kt1 := kit_m (K := K) h1 "tuple" (Or.inr (Or.inr rfl))
    have kt2 := kit_m (K := K) h2 "tuple" (Or.inr (Or.inr rfl))
    have ka1 := kAny (K := K) h1
    have ka2 := kAny (K := K) h2
    by_cases d1 : tyM m1 = "dict"
    · refine if1 (decide_eq_true d1) (if1 rfl ⟨_, rfl, _, _, _, _, _, rfl, .ty "dict", mr_ty h1, kd1, _, rfl, if0 (by rw [decide_eq_true d1]; rfl) ⟨_, rfl, _, _, _, _, _, rfl, .ty "dict", mr_ty h2, kd2, _, rfl, ?_⟩⟩)
      by_cases d2 : tyM m2 = "dict"
      · refine if0 (by rw [decide_eq_true d2]; rfl) ?_
        obtain ⟨p1, r1, k1, vs1, ms1, rfl, rfl, a1, b1, c1, e1, t1⟩ := mr_obj h1 d1
        obtain ⟨p2, r2, k2, vs2, ms2, rfl, rfl, a2, b2, c2, e2, t2⟩ := mr_obj h2 d2
        have gW1 : DGet H p1 (.str "word") (some (.str (wd k1))) := DGet.k (k := Sum.inr "word") a1
        have gW2 : DGet H p2 (.str "word") (some (.str (wd k2))) := DGet.k (k := Sum.inr "word") a2
        have gP1 : DGet H p1 (.str "parts") (some (.ref r1)) := DGet.k (k := Sum.inr "parts") a1
        have gP2 : DGet H p2 (.str "parts") (some (.ref r2)) := DGet.k (k := Sum.inr "parts") a2
        refine ⟨_, rfl, p1, _, rfl, gW1, _, rfl, p2, _, rfl, gW2, rfl, _, rfl, ?_⟩
        by_cases ek : k1 = k2
        · subst ek
          have hfl : (fl k1).length ≤ 1000 := (show ∀ k, k < 4 → (fl k).length ≤ 1000 by decide) k1 c1
          have hdd : depL ms1 < n := by simp only [dep] at hd; omega
          refine if0 (by rw [decide_eq_true rfl]; rfl) ⟨_, rfl, p1, _, rfl, gP1, _, rfl, p2, _, rfl, gP2, r1, r2, vs1, vs2, rfl, .inl ⟨SqL.of b1, SqL.of b2, fun D hD => ?_⟩⟩
          refine lc_pair hD (walk_zip (by rw [e2, e1, Nat.min_self])) t1 t2 (by rw [e1]; exact hfl) hdd (fun H' kp => ⟨SqL.of (kp r1 _ (fun z => by rw [← z, b1] at hD; cases hD) b1), SqL.of (kp r2 _ (fun z => by rw [← z, b2] at hD; cases hD) b2)⟩) (fun H' s4 hD => ?_)
          refine ⟨D, _, rfl, SqL.of hD, ?_⟩
          have hl : ms1.length = ms2.length := by rw [← t1.length, ← t2.length, e1, e2]
          have kk := k H' s4
          rw [Tq.eqM, decide_eq_true rfl, Bool.true_and, ← all_bs _ _ hl, ← t1.length] at kk
          exact kk
        · have nw : wd k1 ≠ wd k2 := fun z => ek (wd_inj c1 c2 z)
          refine if1 (by rw [decide_eq_false (fun z => nw (by injection z))]; rfl) ?_
          have kk := k H (Same.refl _)
          rw [Tq.eqM, decide_eq_false ek, Bool.false_and] at kk
          exact kk
      · refine if1 (by rw [decide_eq_false d2]; rfl) (if1 rfl ?_)
        rw [eq_ty h1 h2 (by rw [d1]; exact fun z => d2 z.symm)] at k
        exact k _ (Same.refl _)
    · refine if0 (decide_eq_false d1) ⟨_, rfl, _, _, _, _, _, rfl, .ty "dict", mr_ty h2, kd2, _, rfl, ?_⟩
      by_cases d2 : tyM m2 = "dict"
      · refine if1 (decide_eq_true d2) ⟨_, rfl, _, _, _, _, _, rfl, .ty "dict", mr_ty h1, kd1, _, rfl, if1 (by rw [decide_eq_false d1]; rfl) (if1 rfl ?_)⟩
        rw [eq_ty h1 h2 (by rw [d2]; exact d1)] at k
        exact k _ (Same.refl _)
      refine if0 (decide_eq_false d2) ⟨_, rfl, (by show 2 ≤ sizeLine; decide), fun tp htp => ⟨_, tp, _, _, _, _, rfl, upd_same, .cons (.ty "list") (.cons (.ty "tuple") .nil), mr_ty (h1.same (same_new htp)), ka1, _, rfl, ?_⟩⟩
      have sm := same_new (o := .tup [V.ty "list", V.ty "tuple"]) htp
      generalize upd H tp (.tup [V.ty "list", V.ty "tuple"]) = G at sm ⊢
      by_cases l1 : tyM m1 = "list"
      · refine if1 (by rw [decide_eq_true l1]; rfl) (if1 rfl ?_)
        refine ⟨_, rfl, _, _, _, _, _, rfl, .ty "list", mr_ty (h1.same sm), kl1, _, rfl, _, _, _, _, _, rfl, .ty "list", mr_ty (h2.same sm), kl2, rfl, _, rfl, ?_⟩
        by_cases l2 : tyM m2 = "list"
        · obtain ⟨p1, vs1, ms1, rfl, rfl, a1, z1, t1⟩ := mr_lst h1 l1
          obtain ⟨p2, vs2, ms2, rfl, rfl, a2, z2, t2⟩ := mr_lst h2 l2
          have a1' := sm _ _ a1
          have a2' := sm _ _ a2
          have hdd : depL ms1 < n := by simp only [dep] at hd; omega
          refine if0 rfl ⟨_, rfl, _, _, _, _, _, rfl, .ty "tuple", mr_ty (h1.same sm), kt1, _, rfl, _, _, _, _, _, rfl, .ty "tuple", mr_ty (h2.same sm), kt2, rfl, _, rfl, if0 rfl ?_⟩
          refine ⟨_, rfl, p1, vs1, rfl, .inl (SqL.of a1'), _, rfl, p2, vs2, rfl, .inl (SqL.of a2'), rfl, _, rfl, ?_⟩
          by_cases hl : vs1.length = vs2.length
          · refine if1 (by rw [hl]; exact decide_eq_true rfl) ⟨_, rfl, _, rfl, p1, p2, vs1, vs2, rfl, .inl ⟨SqL.of a1', SqL.of a2', fun D hD => ?_⟩⟩
            refine lc_pair hD (walk_zip (by rw [hl, Nat.min_self])) (t1.same sm) (t2.same sm) z1 hdd (fun H' kp => ⟨SqL.of (kp p1 _ (fun z => by rw [← z, a1'] at hD; cases hD) a1'), SqL.of (kp p2 _ (fun z => by rw [← z, a2'] at hD; cases hD) a2')⟩) (fun H' s4 hD => ?_)
            refine ⟨D, _, rfl, SqL.of hD, ?_⟩
            have hl' : ms1.length = ms2.length := by rw [← t1.length, ← t2.length, hl]
            have kk := k H' (sm.trans s4)
            rw [Tq.eqM, ← all_bs _ _ hl', ← t1.length] at kk
            exact kk
          · refine if0 (decide_eq_false fun z => hl (by injection z with z; exact Int.ofNat.inj z)) ?_
            have kk := k G sm
            rw [Tq.eqM, eqL_len _ _ (by rw [← t1.length, ← t2.length]; exact hl)] at kk
            exact kk
        · refine if1 (by rw [decide_eq_true l1, decide_eq_false l2]; rfl) (if1 rfl ?_)
          rw [eq_ty h1 h2 (by rw [l1]; exact fun z => l2 z.symm)] at k
          exact k _ sm
      by_cases u1 : tyM m1 = "tuple"
      · refine if1 (by rw [decide_eq_true u1]; exact Bool.or_true _) (if1 rfl ?_)
        refine ⟨_, rfl, _, _, _, _, _, rfl, .ty "list", mr_ty (h1.same sm), kl1, _, rfl, _, _, _, _, _, rfl, .ty "list", mr_ty (h2.same sm), kl2, rfl, _, rfl, ?_⟩
        by_cases l2 : tyM m2 = "list"
        · refine if1 (by rw [decide_eq_false l1, decide_eq_true l2]; rfl) (if1 rfl ?_)
          rw [eq_ty h1 h2 (by rw [l2]; exact l1)] at k
          exact k _ sm
        refine if0 (by rw [decide_eq_false l1, decide_eq_false l2]; rfl) ⟨_, rfl, _, _, _, _, _, rfl, .ty "tuple", mr_ty (h1.same sm), kt1, _, rfl, _, _, _, _, _, rfl, .ty "tuple", mr_ty (h2.same sm), kt2, rfl, _, rfl, ?_⟩
        by_cases u2 : tyM m2 = "tuple"
        · obtain ⟨p1, vs1, ms1, rfl, rfl, a1, z1, t1⟩ := mr_tup h1 u1
          obtain ⟨p2, vs2, ms2, rfl, rfl, a2, z2, t2⟩ := mr_tup h2 u2
          have a1' := sm _ _ a1
          have a2' := sm _ _ a2
          have hdd : depL ms1 < n := by simp only [dep] at hd; omega
          refine if0 rfl ?_
          refine ⟨_, rfl, p1, vs1, rfl, .inr (SqT.of a1'), _, rfl, p2, vs2, rfl, .inr (SqT.of a2'), rfl, _, rfl, ?_⟩
          by_cases hl : vs1.length = vs2.length
          · refine if1 (by rw [hl]; exact decide_eq_true rfl) ⟨_, rfl, _, rfl, p1, p2, vs1, vs2, rfl, .inr ⟨SqT.of a1', SqT.of a2', fun D hD => ?_⟩⟩
            refine lc_pair hD (walk_zipT (by rw [hl, Nat.min_self])) (t1.same sm) (t2.same sm) z1 hdd (fun H' kp => ⟨SqT.of (kp p1 _ (fun z => by rw [← z, a1'] at hD; cases hD) a1'), SqT.of (kp p2 _ (fun z => by rw [← z, a2'] at hD; cases hD) a2')⟩) (fun H' s4 hD => ?_)
            refine ⟨D, _, rfl, SqL.of hD, ?_⟩
            have hl' : ms1.length = ms2.length := by rw [← t1.length, ← t2.length, hl]
            have kk := k H' (sm.trans s4)
            rw [Tq.eqM, ← all_bs _ _ hl', ← t1.length] at kk
            exact kk
          · refine if0 (decide_eq_false fun z => hl (by injection z with z; exact Int.ofNat.inj z)) ?_
            have kk := k G sm
            rw [Tq.eqM, eqL_len _ _ (by rw [← t1.length, ← t2.length]; exact hl)] at kk
            exact kk
        · refine if1 (by rw [decide_eq_true u1, decide_eq_false u2]; rfl) ?_
          rw [eq_ty h1 h2 (by rw [u1]; exact fun z => u2 z.symm)] at k
          exact k _ sm
      refine if0 (by rw [decide_eq_false l1, decide_eq_false u1]; rfl) ⟨_, rfl, (by show 2 ≤ sizeLine; decide), fun tq htq => ⟨_, tq, _, _, _, _, rfl, upd_same, .cons (.ty "list") (.cons (.ty "tuple") .nil), mr_ty (h2.same (sm.trans (same_new htq))), ka2, _, rfl, ?_⟩⟩
      have sm := sm.trans (same_new (o := .tup [V.ty "list", V.ty "tuple"]) htq)
      generalize upd G tq (.tup [V.ty "list", V.ty "tuple"]) = G at sm ⊢
      by_cases l2 : tyM m2 = "list"
      · refine if1 (by rw [decide_eq_true l2]; rfl) ?_
        refine ⟨_, rfl, _, _, _, _, _, rfl, .ty "list", mr_ty (h1.same sm), kl1, _, rfl, _, _, _, _, _, rfl, .ty "list", mr_ty (h2.same sm), kl2, rfl, _, rfl, ?_⟩
        refine if1 (by rw [decide_eq_false l1, decide_eq_true l2]; rfl) (if1 rfl ?_)
        rw [eq_ty h1 h2 (by rw [l2]; exact l1)] at k
        exact k _ sm
      by_cases u2 : tyM m2 = "tuple"
      · refine if1 (by rw [decide_eq_true u2]; exact Bool.or_true _) ?_
        refine ⟨_, rfl, _, _, _, _, _, rfl, .ty "list", mr_ty (h1.same sm), kl1, _, rfl, _, _, _, _, _, rfl, .ty "list", mr_ty (h2.same sm), kl2, rfl, _, rfl, ?_⟩
        refine if0 (by rw [decide_eq_false l1, decide_eq_false l2]; rfl) ⟨_, rfl, _, _, _, _, _, rfl, .ty "tuple", mr_ty (h1.same sm), kt1, _, rfl, _, _, _, _, _, rfl, .ty "tuple", mr_ty (h2.same sm), kt2, rfl, _, rfl, ?_⟩
        refine if1 (by rw [decide_eq_false u1, decide_eq_true u2]; rfl) ?_
        rw [eq_ty h1 h2 (by rw [u2]; exact u1)] at k
        exact k _ sm
      refine if0 (by rw [decide_eq_false l2, decide_eq_false u2]; rfl) ?_
      obtain ⟨v1, rfl⟩ := mr_at h1 d1 l1 u1
      obtain ⟨v2, rfl⟩ := mr_at h2 d2 l2 u2
      have kk := k G sm
      rw [Tq.eqM] at kk
      refine ⟨_, rfl, _, rfl, ?_, ?_⟩
      · cases v <;> cases v1 <;> cases u <;> cases v2 <;> rfl
      · rw [show decide (v = u) = eqV v u from ?_]
        · exact kk
        · cases v <;> cases v1 <;> cases u <;> cases v2 <;> first | rfl | (rw [Bool.eq_iff_iff]; simp [eqV])
end
end K06

set_option pp.maxSteps 2500

namespace K06
open PySem L2 Tq PyProof.Rows RZ
/-- a list != [] -/
def rNeNil (K : PySem.W.Frag) : R2 := fun x y H Q => ∃ a b xs, x = .ref a ∧ y = .ref b ∧ SqL K H a xs ∧ SqL K H b [] ∧ Q (.bl (!xs.isEmpty)) H
theorem op_neNil {X : Cx} (hu : X.A.units < cLine) : OpR X (compareOp .NotEq) (rNeNil X.K) := by
  intro pins s σ H x y v u Q I rx ry h
  obtain ⟨a, b, xs, rfl, rfl, h1, h2, q⟩ := h
  obtain rfl : v = Value.ref a := rx
  obtain rfl : u = Value.ref b := ry
  obtain ⟨its, rv, p, _⟩ := I.list h1
  obtain ⟨its2, rv2, p2, _⟩ := I.list h2
  have l1 := rv.length
  have l2 := rv2.length
  cases its2 with
  | cons _ _ => simp at l2
  | nil =>
    cases its with
    | nil =>
      have e : xs = [] := by cases xs with | nil => rfl | cons _ _ => simp at l1
      subst e
      exact SeqAt.RcNeAt.lists (e := fun _ => true) p.isList p2.isList rfl hu (fun j h1 _ => by simp at h1) _ _ _ _ ⟨.bl false, H, I, rfl, q⟩
    | cons y ys =>
      have e : (!xs.isEmpty) = true := by cases xs with | nil => simp at l1 | cons _ _ => rfl
      rw [e] at q
      exact SeqAt.RcNeAt.lists_lengths p.isList p2.isList (by simp) hu _ _ _ _ ⟨.bl true, H, I, rfl, q⟩
def pl (G H H' : Hp) : Hp := fun b => match G b with
  | some o => some o
  | none => nw H H' b
theorem pl_l {G H H' : Hp} : Same G (pl G H H') := fun b o e => by
  unfold pl
  rw [e]
theorem pl_r {G H H' : Hp} (h : Same G H) : Same (nw H H') (pl G H H') := fun b o e => by
  unfold pl
  cases q : G b with
  | none => exact e
  | some z =>
    have := (of_nw e).1
    rw [h b z q] at this
    cases this
theorem pl_of {G H H' : Hp} {b : Addr} {o : HO} (h : pl G H H' b = some o) : G b = some o ∨ (H b = none ∧ H' b = some o) := by
  unfold pl at h
  cases q : G b with
  | some z => rw [q] at h; exact .inl h
  | none => rw [q] at h; exact .inr (of_nw h)
theorem MRs.set {G : Hp} : ∀ {vs : List V} {ms : List MT} {u : V} {m : MT} (i : Nat), MRs G vs ms → MR G u m → MRs G (vs.set i u) (ms.set i m)
  | _, _, _, _, _, .nil, _ => .nil
  | _, _, _, _, 0, .cons _ t, h => .cons h t
  | _, _, _, _, i + 1, .cons x t, h => .cons x (MRs.set i t h)
theorem depL_set : ∀ (ms : List MT) (i : Nat) (m : MT), depL (ms.set i m) ≤ max (depL ms) (dep m)
  | [], _, _ => by simp [depL]
  | x :: ms, 0, m => by simp only [List.set_cons_zero, depL]; omega
  | x :: ms, i + 1, m => by
    have := depL_set ms i m
    simp only [List.set_cons_succ, depL]
    omega
def spChanged (n : Nat) : Sp := fun vs H Q _ => ∃ (a l : Addr) (v : V) (m : MT) (c : Nat) (G : Hp), vs = [.ref a, v] ∧ MR G v m ∧ dep m < n ∧ Same G (off a l H) ∧ c + 4 * n + 10 < 1000000 ∧ Strm H a l c ∧
  ∀ u m' H', MR (pl G H H') u m' → dep m' ≤ dep m + 2 → Strm H' a l (c + 4 * n + 10) → Nx a l H H' → Q u H'
theorem pl_nx {G H H1 H2 : Hp} {a l : Addr} {c : Nat} (S : Strm H a l c) (hG : Same G H) (nx : Nx a l H1 H2) : Same (pl G H H1) (pl G H H2) := fun b o e => by
  rcases pl_of e with e | ⟨e1, e2⟩
  · exact pl_l b o e
  · exact pl_r hG b o (nw_of e1 (nx.get e2 (fun z => S.dom.1 (z ▸ e1)) (fun z => S.dom.2 (z ▸ e1))))
theorem rec_core {n c c3 : Nat} {a l p : Addr} {H H3 G : Hp} {vs1 : List V} {ms1 : List MT} {r : Int} {Q : VK} (S0 : Strm H a l c) (nx3 : Nx a l H H3) (S3 : Strm H3 a l c3) (hG : Same G (off a l H)) (t : MRs G vs1 ms1) (hd : depL ms1 < n)
    (hc : c3 + 4 * n + 10 < 1000000) (r0 : 0 ≤ r) (r1 : r < vs1.length) (hp : H3 p = none)
    (hR : ∀ u m' H5, H5 p = some (.lst vs1) → ixN vs1.length r = some r.toNat → MRs (pl G H (upd H5 p (.lst (vs1.set r.toNat u)))) (vs1.set r.toNat u) (ms1.set r.toNat m') → depL (ms1.set r.toNat m') ≤ depL ms1 + 2 →
      Strm (upd H5 p (.lst (vs1.set r.toNat u))) a l (c3 + 4 * n + 10) → Nx a l H (upd H5 p (.lst (vs1.set r.toNat u))) → Q u H5) :
    ∀ x, atI vs1 r = some x → spChanged n [.ref a, x] (upd H3 p (.lst vs1)) Q E0 := by
  intro x hx0
  obtain ⟨j, rfl⟩ := Int.eq_ofNat_of_zero_le r0
  rw [Int.toNat_natCast] at hR
  have hj : j < vs1.length := by omega
  have hx : vs1[j]? = some vs1[j] := List.getElem?_eq_getElem hj
  obtain ⟨mi, hmi, hmr⟩ := t.get hx
  have hdi := depL_le hmi
  have hG0 : Same G H := hG.trans off_sub
  have nx4 := nx3.trans (Nx.new (o := .lst vs1) hp)
  have S4 := S3.new (o := .lst vs1) hp
  have e4 : (upd H3 p (.lst vs1)) p = some (.lst vs1) := upd_same
  have pa : p ≠ a := fun z => S3.dom.1 (z ▸ hp)
  have pll : p ≠ l := fun z => S3.dom.2 (z ▸ hp)
  have h0p : H p = none := nx3.free S3 hp
  generalize upd H3 p (.lst vs1) = H4 at nx4 S4 e4 ⊢
  obtain rfl : x = vs1[j] := by
    rw [atI_nat hx] at hx0
    cases hx0
    rfl
  refine ⟨a, l, _, mi, c3, G, rfl, hmr, by omega, hG.trans nx4, hc, S4, fun u m' H5 hm' hd' S5 nx5 => ?_⟩
  have nx6 : Nx a l H (upd H5 p (.lst (vs1.set j u))) := fun b o e => by
    obtain ⟨n1, n2, n3⟩ := off_ne e
    have n4 : b ≠ p := fun z => by rw [z, h0p] at n3; cases n3
    exact off_of (by rw [upd_ne n4]; exact (nx4.trans nx5).get n3 n1 n2) n1 n2
  refine hR u m' H5 (nx5.get e4 pa pll) (by unfold ixN; rw [if_pos (by omega), if_pos (by omega)]; simp) (MRs.set j (t.same pl_l) (hm'.same fun b o e => ?_)) ?_ (S5.keep (upd_ne pa.symm) (upd_ne pll.symm)) nx6
  · rcases pl_of e with e | ⟨e1, e2⟩
    · exact pl_l b o e
    · have n4 : b ≠ p := fun z => by rw [z, e4] at e1; cases e1
      exact pl_r hG0 b o (nw_of (nx4.free S4 e1) (by rw [upd_ne n4]; exact e2))
  · have := depL_set ms1 j m'
    omega
section
variable {P : Program} {w : World} {K : PySem.W.Frag} {mg : Str → Option Value} {base : Heap} {c f : Nat → Addr}
theorem ok_changed {g : Addr} {fd : FuncData} (F : Fun K "_law_changed" "_law_changed" s_law_changed g fd) (T : Txt mg) (n : Nat) (D_law_draw : Df P w K mg base CX0 1 "_law_draw" spDraw) (D_law_thing : Df P w K mg base CX0 7 "_law_thing" (spThing 2))
    (D_law_changed : Df P w K mg base CX0 (n + 7) "_law_changed" (spChanged n)) : FnG P w K mg base CX0 (n + 8) g fd ["_law_stream", "_law_model"] (spChanged (n + 1)) := by
  refine okG0 F sc_law_changed (fun vs H Q E h => ?_) (fun cdv A outer s H vs Q E hq hr h => ?_)
  · obtain ⟨a, l, v, m, c, G, rfl, _⟩ := h
    rfl
  · obtain ⟨a, l, v, m, c, G, rfl, hm, hd, hG, hc, S0, k⟩ := h
    refine ⟨_, (pss_cons (ps_if (PW.pt (pw_and (pt_val (pe_callB call_isi (by rfl) T.b_isinstance (by decide +kernel) (pa_cons (pv 1) (pa_cons (pe_bltn (v := .ty "dict") rfl T.b_dict (by decide +kernel) rfl) pa_nil)))) (pw_and (pt_cmpR (op_neNil (Nat.lt_of_succ_lt (hu_of hr))) (pe_dget (hu_of hr) (pv 1) pe_str (fun _ _ => rfl)) (pe_lst pa_nil) (nomark _)) (pw_and1 (pt_cmpR op_gt (pe_df D_law_draw hq hr pass0 (pa_cons (pv 0) (pa_cons pe_int pa_nil))) pe_int (nomark _))))))
      (pss_cons (ps_set (i := 2) sc_law_changed.nd rfl (Or.inl rfl) (pe_df D_law_draw hq hr pass0 (pa_cons (pv 0) (pa_cons (pe_callB call_len_seq (by rfl) T.b_len (by decide +kernel) (pa_cons (pe_dget (hu_of hr) (pv 1) pe_str (fun _ _ => rfl)) pa_nil)) pa_nil))))
      (pss_cons (ps_set (i := 3) sc_law_changed.nd rfl (Or.inl rfl) (pe_callTy call_list_of (by rfl) T.b_list (by decide +kernel) (pa_cons (pe_dget (hu_of hr) (pv 1) pe_str (fun _ _ => rfl)) pa_nil)))
      (pss_cons (ps_asg (pe_df D_law_changed hq hr pass0 (pa_cons (pv 0) (pa_cons (pe_ix ix_list (pv 3) (pv 2) (fun _ _ => rfl)) pa_nil))) (pg_sub (pv 3) (pv 2) set_list))
      (pss_one (ps_ret (pe_disp (pps_cons pe_str (pe_dget (hu_of hr) (pv 1) pe_str (fun _ _ => rfl)) (pps_cons pe_str (pv 3) pps_nil)) rfl rfl (by decide) (by decide)))))))
      pss_nil)
      (pss_cons (ps_if (PW.pt (pw_and (pt_val (pe_callB call_isiT (by rfl) T.b_isinstance (by decide +kernel) (pa_cons (pv 1) (pa_cons (pe_tup (pa_cons (pe_bltn (v := .ty "list") rfl T.b_list (by decide +kernel) rfl) (pa_cons (pe_bltn (v := .ty "tuple") rfl T.b_tuple (by decide +kernel) rfl) pa_nil))) pa_nil)))) (pw_and (pt_cmpR op_gt (pe_callB call_len_seq (by rfl) T.b_len (by decide +kernel) (pa_cons (pv 1) pa_nil)) pe_int (nomark _)) (pw_and1 (pt_cmpR op_gt (pe_df D_law_draw hq hr pass0 (pa_cons (pv 0) (pa_cons pe_int pa_nil))) pe_int (nomark _))))))
      (pss_cons (ps_set (i := 2) sc_law_changed.nd rfl (Or.inl rfl) (pe_df D_law_draw hq hr pass0 (pa_cons (pv 0) (pa_cons (pe_callB call_len_seq (by rfl) T.b_len (by decide +kernel) (pa_cons (pv 1) pa_nil)) pa_nil))))
      (pss_cons (ps_set (i := 4) sc_law_changed.nd rfl (Or.inl rfl) (pe_callTy call_list_of (by rfl) T.b_list (by decide +kernel) (pa_cons (pv 1) pa_nil)))
      (pss_cons (ps_asg (pe_df D_law_changed hq hr pass0 (pa_cons (pv 0) (pa_cons (pe_ix ix_list (pv 4) (pv 2) (fun _ _ => rfl)) pa_nil))) (pg_sub (pv 4) (pv 2) set_list))
      (pss_one (ps_ret (pe_ix ix_list (pe_lst (pa_cons (pv 4) (pa_cons (pe_callTy call_tuple_of (by rfl) T.b_tuple (by decide +kernel) (pa_cons (pv 4) pa_nil)) pa_nil))) (pe_op op_mod (pe_op op_add (pe_callTy call_int1 (by rfl) T.b_int (by decide +kernel) (pa_cons (pe_callB call_isi (by rfl) T.b_isinstance (by decide +kernel) (pa_cons (pv 1) (pa_cons (pe_bltn (v := .ty "tuple") rfl T.b_tuple (by decide +kernel) rfl) pa_nil))) pa_nil)) (pe_callTy call_int1 (by rfl) T.b_int (by decide +kernel) (pa_cons (pe_cmpR op_eq (pe_df D_law_draw hq hr pass0 (pa_cons (pv 0) (pa_cons pe_int pa_nil))) pe_int (nomark _)) pa_nil))) pe_int) (fun _ _ => rfl)))))))
      pss_nil)
      (pss_one (ps_ret (pe_df D_law_thing hq hr pass0 (pa_cons (pv 0) (pa_cons pe_int pa_nil))))))), ?_⟩
    have gs : ∀ {Hx : Hp}, Nx a l H Hx → Same G Hx := fun nx => hG.trans (Same.trans nx off_sub)
    have hG0 : Same G H := gs Nx.refl
    have kd := kit_m (K := K) hm "dict" (Or.inl rfl)
    have kt := kit_m (K := K) hm "tuple" (Or.inr (Or.inr rfl))
    have ka := kAny (K := K) hm
    have etc : tc 2 = 6 := rfl
    refine seq_if (fun σ Hx => Nx a l H Hx ∧ Strm Hx a l (c + 1) ∧ σ = [some (.ref a), some v, none, none, none]) ?_ (fun fin => ?_)
    · rintro σ Hx ⟨nx, S, rfl⟩
      refine seq_if (fun σ Hy => Nx a l H Hy ∧ Strm Hy a l (c + 2) ∧ σ = [some (.ref a), some v, none, none, none]) ?_ (fun fin => ?_)
      · rintro σ Hy ⟨nx, S, rfl⟩
        refine ⟨_, rfl, a, l, 1, c + 2, rfl, by decide, by decide, by rw [etc]; omega, S, fun u m' H' hm' hd' S' nx' => k u m' H' (hm'.same ?_) (by omega) (S'.mono (by rw [etc]; omega)) (nx.trans nx')⟩
        exact (nw_lift (fun b hb => nx.free S hb) fun _ _ _ e => e).trans (pl_r hG0)
      · refine ⟨_, rfl, (by show 2 ≤ sizeLine; decide), fun tp htp => ⟨_, tp, _, _, _, _, rfl, upd_same, .cons (.ty "list") (.cons (.ty "tuple") .nil), mr_ty (hm.same ((gs nx).trans (same_new htp))), ka, _, rfl, ?_⟩⟩
        have nx1 := nx.trans (Nx.new (o := .tup [V.ty "list", V.ty "tuple"]) htp)
        have S1 := S.new (o := .tup [V.ty "list", V.ty "tuple"]) htp
        generalize upd Hx tp (.tup [V.ty "list", V.ty "tuple"]) = H1 at nx1 S1 ⊢
        have split : (decide (tyM m = "list") || decide (tyM m = "tuple")) = false ∨ ((decide (tyM m = "list") || decide (tyM m = "tuple")) = true ∧ ∃ p0 vs1 ms1, v = .ref p0 ∧ dep m = depL ms1 + 1 ∧ (G p0 = some (.lst vs1) ∨ G p0 = some (.tup vs1)) ∧ vs1.length ≤ 1000 ∧ MRs G vs1 ms1) := by
          by_cases l1 : tyM m = "list"
          · obtain ⟨p0, vs1, ms1, rfl, rfl, a1, z1, t1⟩ := mr_lst hm l1
            exact .inr ⟨rfl, p0, vs1, ms1, rfl, rfl, .inl a1, z1, t1⟩
          by_cases l2 : tyM m = "tuple"
          · obtain ⟨p0, vs1, ms1, rfl, rfl, a1, z1, t1⟩ := mr_tup hm l2
            exact .inr ⟨rfl, p0, vs1, ms1, rfl, rfl, .inr a1, z1, t1⟩
          · exact .inl (by rw [decide_eq_false l1, decide_eq_false l2]; rfl)
        rcases split with no | ⟨yes, p0, vs1, ms1, rfl, em, hsq, z1, t1⟩
        · exact if0 no (if0 rfl (fin _ _ ⟨nx1, S1.mono (by omega), rfl⟩))
        have lt : ∀ {Hx : Hp}, Nx a l H Hx → (SqL K Hx p0 vs1 ∨ SqT K Hx p0 vs1) := fun nx => hsq.imp (fun e => SqL.of (gs nx _ _ e)) (fun e => SqT.of (gs nx _ _ e))
        refine if1 yes ⟨_, rfl, p0, vs1, rfl, lt nx1, _, _, rfl, rfl, _, rfl, ?_⟩
        by_cases h0 : (0 : Int) < vs1.length
        · refine if1 (decide_eq_true h0) ⟨_, rfl, a, l, 3, c + 1, rfl, by decide, by decide, by omega, S1, fun r H2 r0 r1 S2 nx2 => ⟨_, _, rfl, rfl, _, rfl, ?_⟩⟩
          have nx2 := nx1.trans nx2
          by_cases hr0 : 0 < r
          · refine if1 (decide_eq_true hr0) ⟨_, rfl, _, rfl, p0, vs1, rfl, lt nx2, a, l, vs1.length, c + 2, rfl, h0, by omega, by omega, S2, fun j H3 j0 j1 S3 nx3 => nm ?_⟩
            have nx3 := nx2.trans nx3
            refine ⟨_, rfl, p0, vs1, rfl, lt nx3, fun p hp => nm ?_⟩
            have hp0 : H p = none := nx3.free S3 hp
            have pa : p ≠ a := fun z => S3.dom.1 (z ▸ hp)
            have pll : p ≠ l := fun z => S3.dom.2 (z ▸ hp)
            obtain ⟨x, hx, _⟩ := atI_mem j0 j1
            refine ⟨_, rfl, _, rfl, _, rfl, p, vs1, j, x, rfl, rfl, SqL.of upd_same, hx, rec_core (n := n) S0 nx3 S3 hG t1 (by omega) (by omega) j0 j1 hp (fun u m' H5 h5 hix hms hdd S6 nx6 => ?_) x hx⟩
            refine ⟨_, rfl, _, rfl, p, vs1, j, j.toNat, rfl, rfl, h5, hix, ?_⟩
            have e6 : (upd H5 p (.lst (vs1.set j.toNat u))) p = some (.lst (vs1.set j.toNat u)) := upd_same
            generalize upd H5 p (.lst (vs1.set j.toNat u)) = H6 at hms S6 nx6 e6 ⊢
            have hlen : (vs1.set j.toNat u).length ≤ 1000 := by rw [List.length_set]; exact z1
            generalize vs1.set j.toNat u = vs2 at hms e6 hlen ⊢
            generalize ms1.set j.toNat m' = ms2 at hms hdd
            refine ⟨_, rfl, _, rfl, p, vs2, rfl, .inl ⟨SqL.of e6, fun t ht => ⟨(by show 2 ≤ sizeLine; decide), fun e he => ?_⟩⟩⟩
            have nx7 := Nx.new (a := a) (l := l) (o := .tup vs2) ht
            have S7 := S6.new (o := .tup vs2) ht
            have e7 : (upd H6 t (.tup vs2)) t = some (.tup vs2) := upd_same
            have ht0 : H t = none := nx6.free S6 ht
            have ta : t ≠ a := fun z => S6.dom.1 (z ▸ ht)
            have tl : t ≠ l := fun z => S6.dom.2 (z ▸ ht)
            generalize upd H6 t (.tup vs2) = H7 at nx7 S7 e7 he ⊢
            have nx8 := nx7.trans (Nx.new (a := a) (l := l) (o := .lst [V.ref p, V.ref t]) he)
            have S8 := S7.new (o := .lst [V.ref p, V.ref t]) he
            have e8 : (upd H7 e (.lst [V.ref p, V.ref t])) e = some (.lst [V.ref p, V.ref t]) := upd_same
            have e8t : (upd H7 e (.lst [V.ref p, V.ref t])) t = some (.tup vs2) := same_new he _ _ e7
            have ea : e ≠ a := fun z => S7.dom.1 (z ▸ he)
            have el : e ≠ l := fun z => S7.dom.2 (z ▸ he)
            generalize upd H7 e (.lst [V.ref p, V.ref t]) = H8 at nx8 S8 e8 e8t ⊢
            refine ⟨_, rfl, _, _, _, _, _, rfl, .ty "tuple", mr_ty (hm.same (gs (nx6.trans nx8))), kt, .inr ⟨_, rfl, _, rfl, a, l, 6, c + 3 + 4 * n + 10, rfl, by decide, by decide, by omega, S8.mono (by omega), fun q H9 q0 q1 S9 nx9 => ⟨rfl, .inr ⟨_, rfl, _, _, rfl, rfl, _, _, rfl, rfl, (show (0 : Int) < 2 by decide), ?_⟩⟩⟩⟩
            obtain ⟨x, hx, hxm⟩ := atI_mem (xs := [V.ref p, V.ref t]) (r := ((if decide (tyM m = "tuple") = true then (1 : Int) else 0) + (if decide (V.int q = V.int 0) = true then (1 : Int) else 0)) % 2) (Int.emod_nonneg _ (by decide)) (Int.emod_lt_of_pos _ (by decide))
            refine ⟨e, _, _, x, rfl, rfl, SqL.of (nx9.get e8 ea el), hx, ?_⟩
            have nxF := nx6.trans (nx8.trans nx9)
            have hms9 := hms.same (pl_nx S0 hG0 (nx8.trans nx9))
            have mP : MR (pl G H H9) (.ref p) (.lst ms2) := .lst (pl_r hG0 _ _ (nw_of hp0 ((nx8.trans nx9).get e6 pa pll))) hlen hms9
            have mT : MR (pl G H H9) (.ref t) (.tup ms2) := .tup (pl_r hG0 _ _ (nw_of ht0 (nx9.get e8t ta tl))) hlen hms9
            have hx2 : x = .ref p ∨ x = .ref t := by simpa using hxm
            rcases hx2 with rfl | rfl
            · exact k _ _ H9 mP (by simp only [dep]; omega) (S9.mono (by omega)) nxF
            · exact k _ _ H9 mT (by simp only [dep]; omega) (S9.mono (by omega)) nxF
          · exact if0 (decide_eq_false hr0) (fin _ _ ⟨nx2, S2.mono (by omega), rfl⟩)
        · exact if0 (decide_eq_false h0) (if0 rfl (fin _ _ ⟨nx1, S1.mono (by omega), rfl⟩))
    · refine ⟨_, rfl, _, _, _, _, _, rfl, .ty "dict", mr_ty (hm.same hG0), kd, _, rfl, ?_⟩
      by_cases d : tyM m = "dict"
      · obtain ⟨p0, q0, k0, vs1, ms1, rfl, rfl, a1, b1, c1, e1, t1⟩ := mr_obj hm d
        have gP : ∀ {Hx : Hp}, Same G Hx → DGet Hx p0 (.str "parts") (some (.ref q0)) := fun s => DGet.k (k := Sum.inr "parts") (s _ _ a1)
        have gW : ∀ {Hx : Hp}, Same G Hx → DGet Hx p0 (.str "word") (some (.str (wd k0))) := fun s => DGet.k (k := Sum.inr "word") (s _ _ a1)
        refine if1 rfl ⟨_, rfl, p0, _, rfl, gP hG0, (by show 0 ≤ sizeLine; decide), fun e he => ⟨q0, e, vs1, rfl, rfl, SqL.of (same_new he _ _ (hG0 _ _ b1)), SqL.of upd_same, _, rfl, ?_⟩⟩
        have nx1 := Nx.new (a := a) (l := l) (o := .lst []) he
        have S1 := S0.new (o := .lst []) he
        generalize upd H e (.lst []) = H1 at nx1 S1 ⊢
        cases hE : vs1.isEmpty with
        | true => exact if0 rfl (if0 rfl (fin _ _ ⟨nx1, S1.mono (by omega), rfl⟩))
        | false =>
          have h0 : (0 : Int) < vs1.length := by cases vs1 with | nil => simp at hE | cons _ _ => rw [List.length_cons]; omega
          have z1 : vs1.length ≤ 1000 := by
            rw [e1]
            exact (show ∀ k, k < 4 → (fl k).length ≤ 1000 by decide) k0 c1
          refine if1 rfl ⟨_, rfl, a, l, 4, c, rfl, by decide, by decide, by omega, S1, fun r H2 r0 r1 S2 nx2 => ⟨_, _, rfl, rfl, _, rfl, ?_⟩⟩
          have nx2 := nx1.trans nx2
          by_cases hr0 : 0 < r
          · refine if1 (decide_eq_true hr0) ⟨_, rfl, _, rfl, p0, _, rfl, gP (gs nx2), q0, vs1, rfl, .inl (SqL.of (gs nx2 _ _ b1)), a, l, vs1.length, c + 1, rfl, h0, by omega, by omega, S2, fun j H3 j0 j1 S3 nx3 => nm ?_⟩
            have nx3 := nx2.trans nx3
            refine ⟨_, rfl, p0, _, rfl, gP (gs nx3), q0, vs1, rfl, .inl (SqL.of (gs nx3 _ _ b1)), fun p hp => nm ?_⟩
            have hp0 : H p = none := nx3.free S3 hp
            have hdd : depL ms1 < n := by simp only [dep] at hd; omega
            obtain ⟨x, hx, _⟩ := atI_mem j0 j1
            refine ⟨_, rfl, _, rfl, _, rfl, p, vs1, j, x, rfl, rfl, SqL.of upd_same, hx, rec_core (n := n) S0 nx3 S3 hG t1 hdd (by omega) j0 j1 hp (fun u m' H5 h5 hix hms hdd S6 nx6 => ?_) x hx⟩
            refine ⟨_, rfl, _, rfl, p, vs1, j, j.toNat, rfl, rfl, h5, hix, ?_⟩
            have e6 : (upd H5 p (.lst (vs1.set j.toNat u))) p = some (.lst (vs1.set j.toNat u)) := upd_same
            generalize upd H5 p (.lst (vs1.set j.toNat u)) = H6 at hms S6 nx6 e6 ⊢
            have hlen : (vs1.set j.toNat u).length = (fl k0).length := by rw [List.length_set]; exact e1
            generalize vs1.set j.toNat u = vs2 at hms e6 hlen ⊢
            generalize ms1.set j.toNat m' = ms2 at hms hdd
            intro D hD
            have nx7 := Nx.new (a := a) (l := l) (o := .dK []) hD
            refine ⟨_, rfl, p0, _, rfl, gW (gs (nx6.trans nx7)), _, rfl, upd_same, [(Sum.inr "word", .str (wd k0)), (Sum.inr "parts", .ref p)], rfl, (by show 2 ≤ 15; decide), ?_⟩
            have s8 : Same H6 (upd (upd H6 D (.dK [])) D (.dK (mergeK [] [(Sum.inr "word", V.str (wd k0)), (Sum.inr "parts", V.ref p)]))) := fun b o e => by
              have n : b ≠ D := fun z => by rw [z, hD] at e; cases e
              rw [upd_ne n, upd_ne n]
              exact e
            have e8 : (upd (upd H6 D (.dK [])) D (.dK (mergeK [] [(Sum.inr "word", V.str (wd k0)), (Sum.inr "parts", V.ref p)]))) D = some (.dK [(Sum.inr "word", .str (wd k0)), (Sum.inr "parts", .ref p)]) := upd_same
            have S8 := strm_same S6 s8
            generalize upd (upd H6 D (.dK [])) D (.dK (mergeK [] [(Sum.inr "word", V.str (wd k0)), (Sum.inr "parts", V.ref p)])) = H8 at s8 e8 S8 ⊢
            have nx8 := Nx.of_same (a := a) (l := l) s8
            exact k _ (.obj k0 ms2) H8 (.obj (pl_r hG0 _ _ (nw_of (nx6.free S6 hD) e8)) (pl_r hG0 _ _ (nw_of hp0 (s8 _ _ e6))) c1 hlen (hms.same (pl_nx S0 hG0 nx8))) (by simp only [dep]; omega) (S8.mono (by omega)) (nx6.trans nx8)
          · exact if0 (decide_eq_false hr0) (fin _ _ ⟨nx2, S2.mono (by omega), rfl⟩)
      · exact if0 (decide_eq_false d) (if0 rfl (fin _ _ ⟨Nx.refl, S0.mono (by omega), rfl⟩))
end
end K06

open PySem L2 Tq
namespace K06
theorem eqV_symm (v u : V) : eqV v u = eqV u v := by
  cases v <;> cases u <;> simp [eqV, Bool.beq_comm, eq_comm]
mutual
theorem eqM_symm : ∀ (m1 m2 : MT), Tq.eqM m1 m2 = Tq.eqM m2 m1
  | .at v, .at u => by unfold Tq.eqM; exact eqV_symm v u
  | .lst xs, .lst ys => by unfold Tq.eqM; exact eqL_symm xs ys
  | .tup xs, .tup ys => by unfold Tq.eqM; exact eqL_symm xs ys
  | .obj k xs, .obj j ys => by
    unfold Tq.eqM
    rw [eqL_symm xs ys]
    congr 1
    by_cases h : k = j
    · subst h; rfl
    · rw [decide_eq_false h, decide_eq_false fun z => h z.symm]
  | .at _, .lst _ => by unfold Tq.eqM; rfl
  | .at _, .tup _ => by unfold Tq.eqM; rfl
  | .at _, .obj _ _ => by unfold Tq.eqM; rfl
  | .lst _, .at _ => by unfold Tq.eqM; rfl
  | .lst _, .tup _ => by unfold Tq.eqM; rfl
  | .lst _, .obj _ _ => by unfold Tq.eqM; rfl
  | .tup _, .at _ => by unfold Tq.eqM; rfl
  | .tup _, .lst _ => by unfold Tq.eqM; rfl
  | .tup _, .obj _ _ => by unfold Tq.eqM; rfl
  | .obj _ _, .at _ => by unfold Tq.eqM; rfl
  | .obj _ _, .lst _ => by unfold Tq.eqM; rfl
  | .obj _ _, .tup _ => by unfold Tq.eqM; rfl
theorem eqL_symm : ∀ (xs ys : List MT), eqL xs ys = eqL ys xs
  | [], [] => rfl
  | [], _ :: _ => by unfold eqL; rfl
  | _ :: _, [] => by unfold eqL; rfl
  | x :: xs, y :: ys => by unfold eqL; rw [eqM_symm x y, eqL_symm xs ys]
end
end K06

set_option pp.maxSteps 600

namespace K06
open PySem L2 Tq PyProof.Rows RZ
def spFields (c : Nat → Addr) : Sp := fun vs H Q _ => ∃ (p dx : Addr) (k : Nat) (us : List V), vs = [.ref p] ∧ H p = some (.ins (c k) dx ((fl k).zip us)) ∧ k < 4 ∧ us.length = (fl k).length ∧ ∀ L, H L = none → Q (.ref L) (upd H L (.lst (.str (wd k) :: us)))
def spLaw (K : PySem.W.Frag) : Sp := fun vs H Q _ => ∃ (a : Addr) (ns : List Int), vs = [.ref a] ∧ SqL K H a (ns.map V.int) ∧ ns.length ≤ 63 ∧ ∀ H', Q (.bl true) H'
section
variable {P : Program} {w : World} {K : PySem.W.Frag} {mg : Str → Option Value} {base : Heap} {c f : Nat → Addr}
theorem ok_fields {g : Addr} {fd : FuncData} (F : Fun K "_law_fields" "_law_fields" s_law_fields g fd) (T : Txt mg) (U : Cl6 K mg c f) : FnG P w K mg base CX0 1 g fd ["_law_made_here"] (spFields c) := by
  refine okG0 F sc_law_fields (fun vs H Q E h => ?_) (fun cdv A outer s H vs Q E hq hr h => ?_)
  · obtain ⟨p, dx, k, us, rfl, _⟩ := h
    rfl
  · obtain ⟨p, dx, k, us, rfl, hp, hk, hl, q⟩ := h
    refine ⟨_, (pss_cons (ps_if (pt_val (pe_callB call_isi (by rfl) T.b_isinstance (by decide +kernel) (pa_cons (pv 0) (pa_cons (pe_glob (v := .ref (c 1)) rfl U.g1 rfl) pa_nil))))
      (pss_one (ps_ret (pe_lst (pa_cons pe_str (pa_cons (pe_fld (pv 0) rfl) (pa_cons (pe_fld (pv 0) rfl) pa_nil))))))
      pss_nil)
      (pss_cons (ps_if (pt_val (pe_callB call_isi (by rfl) T.b_isinstance (by decide +kernel) (pa_cons (pv 0) (pa_cons (pe_glob (v := .ref (c 2)) rfl U.g2 rfl) pa_nil))))
      (pss_one (ps_ret (pe_lst (pa_cons pe_str (pa_cons (pe_fld (pv 0) rfl) pa_nil)))))
      pss_nil)
      (pss_cons (ps_if (pt_val (pe_callB call_isi (by rfl) T.b_isinstance (by decide +kernel) (pa_cons (pv 0) (pa_cons (pe_glob (v := .ref (c 3)) rfl U.g3 rfl) pa_nil))))
      (pss_one (ps_ret (pe_lst (pa_cons pe_str (pa_cons (pe_fld (pv 0) rfl) pa_nil)))))
      pss_nil)
      (pss_one (ps_ret (pe_ifExp (pt_val (pe_callB call_isi (by rfl) T.b_isinstance (by decide +kernel) (pa_cons (pv 0) (pa_cons (pe_glob (v := .ref (c 0)) rfl U.g0 rfl) pa_nil)))) (pe_lst (pa_cons pe_str pa_nil)) (pe_lst (pa_cons pe_str pa_nil)))))))), ?_⟩
    have ty : TyX K H (.ref p) (.ref (c k)) := .base (.ins hp (U.cls _ hk) (U.ha _ hk) U.hn U.htk (U.hm _ hk))
    have cl := U.cls k hk
    have k1 := kit_own U hk (k := 1) (by decide)
    have k2 := kit_own U hk (k := 2) (by decide)
    have k3 := kit_own U hk (k := 3) (by decide)
    have k0 := kit_own U hk (k := 0) (by decide)
    have no := U.no k hk
    refine ⟨_, rfl, _, _, _, _, _, rfl, .own _, ty, k1, _, rfl, ?_⟩
    have hk4 : k = 0 ∨ k = 1 ∨ k = 2 ∨ k = 3 := by omega
    rcases hk4 with rfl | rfl | rfl | rfl
    · obtain rfl : us = [] := List.length_eq_zero_iff.mp hl
      exact if0 rfl ⟨_, rfl, _, _, _, _, _, rfl, .own _, ty, k2, _, rfl, if0 rfl ⟨_, rfl, _, _, _, _, _, rfl, .own _, ty, k3, _, rfl, if0 rfl ⟨_, rfl, _, _, _, _, _, rfl, .own _, ty, k0, _, rfl, if1 rfl ⟨(by show 1 ≤ sizeLine; decide), q⟩⟩⟩⟩
    · obtain ⟨v0, v1, rfl⟩ : ∃ v0 v1, us = [v0, v1] := by
        match us, hl with
        | [v0, v1], _ => exact ⟨v0, v1, rfl⟩
      exact if1 rfl ⟨_, rfl, p, c 1, dx, _, v0, rfl, hp, cl, no _ (.head _), rfl, _, rfl, p, c 1, dx, _, v1, rfl, hp, cl, no _ (.tail _ (.head _)), rfl, (by show 3 ≤ sizeLine; decide), q⟩
    · obtain ⟨v0, rfl⟩ : ∃ v0, us = [v0] := by
        match us, hl with
        | [v0], _ => exact ⟨v0, rfl⟩
      exact if0 rfl ⟨_, rfl, _, _, _, _, _, rfl, .own _, ty, k2, _, rfl, if1 rfl ⟨_, rfl, p, c 2, dx, _, v0, rfl, hp, cl, no _ (.head _), rfl, (by show 2 ≤ sizeLine; decide), q⟩⟩
    · obtain ⟨v0, rfl⟩ : ∃ v0, us = [v0] := by
        match us, hl with
        | [v0], _ => exact ⟨v0, rfl⟩
      exact if0 rfl ⟨_, rfl, _, _, _, _, _, rfl, .own _, ty, k2, _, rfl, if0 rfl ⟨_, rfl, _, _, _, _, _, rfl, .own _, ty, k3, _, rfl, if1 rfl ⟨_, rfl, p, c 3, dx, _, v0, rfl, hp, cl, no _ (.head _), rfl, (by show 2 ≤ sizeLine; decide), q⟩⟩⟩
theorem ok_law {g : Addr} {fd : FuncData} (F : Fun K "law" "law" slaw g fd) (T : Txt mg) (U : Cl6 K mg c f) (RC : AllRc P w K mg base c 7) (EF : EqF P w K mg base c f fl 6) (D_law_draw : Df P w K mg base CX0 1 "_law_draw" spDraw)
    (D4 : Df P w K mg base CX0 12 "_law_object" (spObject 4)) (D3 : Df P w K mg base CX0 10 "_law_object" (spObject 3)) (D_law_changed : Df P w K mg base CX0 13 "_law_changed" (spChanged 6)) (D_law_alike : Df P w K mg base CX0 6 "_law_alike" (spAlike 6))
    (D_law_made : Df P w K mg base CX0 10 "_law_made" (spMade c 8)) (D_law_fields : Df P w K mg base CX0 1 "_law_fields" (spFields c)) : FnG P w K mg base CX0 14 g fd ["_law_script"] (spLaw K) := by
  refine okG0 F sclaw (fun vs H Q E h => ?_) (fun cdv A outer s H vs Q E hq hr h => ?_)
  · obtain ⟨a, ns, rfl, _⟩ := h
    rfl
  · obtain ⟨sa, ns, rfl, hs, hn, k⟩ := h
    have hr7 := hr.mono (j := 7) (by decide)
    have hr8 := hr.mono (j := 8) (by decide)
    have tc4 : tc 4 = 30 := rfl
    have tc3 : tc 3 = 14 := rfl
    refine ⟨_, (pss_cons (ps_set (i := 1) sclaw.nd rfl (Or.inl rfl) (pe_lst (pa_cons (pe_callTy call_list_of (by rfl) T.b_list (by decide +kernel) (pa_cons (pv 0) pa_nil)) (pa_cons pe_int (pa_cons pe_int (pa_cons pe_int pa_nil))))))
      (pss_cons (ps_for PassesOwn.never rfl (pi_range1 rfl T.range (pa_cons pe_int pa_nil)) (pg_name (i := 2) sclaw.nd rfl (Or.inl rfl))
      (pss_cons (ps_set (i := 3) sclaw.nd rfl (Or.inl rfl) (pe_df D4 hq hr pass0 (pa_cons (pv 1) (pa_cons pe_int pa_nil))))
      (pss_cons (ps_set (i := 4) sclaw.nd rfl (Or.inl rfl) (pe_ix ix_list (pe_lst (pa_cons (pe_df D_law_changed hq hr pass0 (pa_cons (pv 1) (pa_cons (pv 3) pa_nil))) (pa_cons (pv 3) (pa_cons (pe_df D3 hq hr pass0 (pa_cons (pv 1) (pa_cons pe_int pa_nil))) pa_nil)))) (pe_df D_law_draw hq hr pass0 (pa_cons (pv 1) (pa_cons pe_int pa_nil))) (fun _ _ => rfl)))
      (pss_cons (ps_set (i := 5) sclaw.nd rfl (Or.inl rfl) (pe_df D_law_alike hq hr pass0 (pa_cons (pv 3) (pa_cons (pv 4) pa_nil))))
      (pss_cons (ps_par (i := 6) (j := 7) (by rfl) sclaw.nd rfl rfl (by decide) rfl rfl (pa_cons (pe_df D_law_made hq hr pass0 (pa_cons (pv 3) pa_nil)) (pa_cons (pe_df D_law_made hq hr pass0 (pa_cons (pv 4) pa_nil)) pa_nil)) (by rfl))
      (pss_cons (ps_for PassesOwn.never rfl (pi_tup (pe_tup (pa_cons (pe_tup (pa_cons (pv 6) (pa_cons (pv 7) pa_nil))) (pa_cons (pe_tup (pa_cons (pv 7) (pa_cons (pv 6) pa_nil))) pa_nil)))) (pg_tup (by rfl) (pgs_cons (pg_name (i := 8) sclaw.nd rfl (Or.inl rfl)) (pgs_cons (pg_name (i := 9) sclaw.nd rfl (Or.inl rfl)) pgs_nil)))
      (pss_one (ps_if (PW.pt (pw_or (pt_cmpR op_ne (pe_cmpR (op_eqM (RC _ rfl rfl rfl rfl rfl) hr7) (pv 8) (pv 9) (nomark _)) (pv 5) (nomark _)) (pw_or1 (pt_cmpR op_eq (pe_cmpR (op_neA U.toEqC EF hr8) (pv 8) (pv 9) (nomark _)) (pv 5) (nomark _)))))
      (pss_one (ps_ret pe_bl))
      pss_nil)))
      (pss_cons (ps_set (i := 10) sclaw.nd rfl (Or.inr rfl) (pe_df D_law_fields hq hr pass0 (pa_cons (pv 6) pa_nil)))
      (pss_cons (ps_if (PW.pt (pw_or (pt_cmpR op_ne (pe_ix ix_list (pv 10) pe_int (fun _ _ => rfl)) (pe_dget (hu_of hr) (pv 3) pe_str (fun _ _ => rfl)) (nomark _)) (pw_or1 (pt_cmpR op_ne (pe_callB call_len_seq (by rfl) T.b_len (by decide +kernel) (pa_cons (pv 10) pa_nil)) (pe_op op_add pe_int (pe_callB call_len_seq (by rfl) T.b_len (by decide +kernel) (pa_cons (pe_dget (hu_of hr) (pv 3) pe_str (fun _ _ => rfl)) pa_nil))) (nomark _)))))
      (pss_one (ps_ret pe_bl))
      pss_nil)
      (pss_cons (ps_set (i := 11) sclaw.nd rfl (Or.inr rfl) (pe_lc (own := [("_law_part", 13)]) (by rfl) sclaw.nd (pi_list (pe_dget (hu_of hr) (pv 3) pe_str (fun _ _ => rfl))) (blkOk_by (own := [("_law_part", 13)]) (N := Nlaw) (sc := defScope slaw) (by decide +kernel)) (fun _ _ _ _ _ => (pg_name (i := 13) sclaw.nd rfl (Or.inl rfl))) (fun _ _ _ _ _ => pts_nil) (fun _ _ _ _ _ => (pe_df D_law_made hq hr pass0 (pa_cons (pv 13) pa_nil)))))
      (pss_cons (ps_if (PW.pt (pw_or (pt_not (pt_val (pe_callB (cr_all rfl) (by rfl) T.b_all (by decide +kernel) (pa_cons (pe_lc (own := [("_law_k", 14)]) (by rfl) sclaw.nd (pi_range1 rfl T.range (pa_cons (pe_callB call_len_seq (by rfl) T.b_len (by decide +kernel) (pa_cons (pv 11) pa_nil)) pa_nil)) (blkOk_by (own := [("_law_k", 14)]) (N := Nlaw) (sc := defScope slaw) (by decide +kernel)) (fun _ _ _ _ _ => (pg_name (i := 14) sclaw.nd rfl (Or.inl rfl))) (fun _ _ _ _ _ => pts_nil) (fun _ _ _ _ _ => (pe_cmpR (op_eqM (RC _ rfl rfl rfl rfl rfl) hr7) (pe_ix (castIx (K := K) (r := rIxL) ix_list) (pv 10) (pe_op op_add pe_int (pv 14)) (fun _ _ => rfl)) (pe_ix (castIx (K := K) (r := rIxL) ix_list) (pv 11) (pv 14) (fun _ _ => rfl)) (nomark _)))) pa_nil)))) (pw_or1 (pt_not (pt_cmpR (op_eqM (RC _ rfl rfl rfl rfl rfl) hr7) (pv 6) (pv 6) (nomark _))))))
      (pss_one (ps_ret pe_bl))
      pss_nil)
      (pss_one (ps_for PassesOwn.never rfl (pi_tup (pe_tup (pa_cons pe_int (pa_cons pe_int (pa_cons pe_str (pa_cons pe_non (pa_cons (pe_lst pa_nil) (pa_cons (pe_tup pa_nil) (pa_cons (pe_slice sl_list (pv 10) (po_some pe_int) po_none) (pa_cons (pe_callTy call_tuple_of (by rfl) T.b_tuple (by decide +kernel) (pa_cons (pe_slice sl_list (pv 10) (po_some pe_int) po_none) pa_nil)) (pa_cons pe_str pa_nil))))))))))) (pg_name (i := 12) sclaw.nd rfl (Or.inl rfl))
      (pss_one (ps_if (PW.pt (pw_or (pt_cmpR (op_eqM (RC _ rfl rfl rfl rfl rfl) hr7) (pv 6) (pv 12) (nomark _)) (pw_or (pt_cmpR (op_eqM (RC _ rfl rfl rfl rfl rfl) hr7) (pv 12) (pv 6) (nomark _)) (pw_or1 (pt_not (pt_cmpR (op_neA U.toEqC EF hr8) (pv 6) (pv 12) (nomark _)))))))
      (pss_one (ps_ret pe_bl))
      pss_nil))))))))))))))
      (pss_one (ps_ret pe_bl)))), ?_⟩
    refine ⟨_, rfl, sa, _, rfl, .inl hs, fun l hl => ⟨(by show 4 ≤ sizeLine; decide), fun a ha => nm ?_⟩⟩
    dsimp only
    have hal : l ≠ a := ne_of_none upd_same ha
    have S1 : Strm (upd (upd H l (.lst (ns.map V.int))) a (.lst [.ref l, .int 0, .int 0, .int 0])) a l 0 := by
      refine ⟨ns, 0, 0, 0, upd_same, ?_, by decide, by decide, by decide, by decide, by decide⟩
      rw [upd_ne hal, upd_same]
    generalize upd (upd H l (.lst (ns.map V.int))) a (.lst [.ref l, .int 0, .int 0, .int 0]) = H1 at S1 ⊢
    refine ⟨8, rfl, by decide, by decide, ?_⟩
    refine for_range (lo := 0) (n := 8) (fun i σ' H' => (∃ s2 s3 s4 s5 s6 s7 s8 s9 s10 s11 s12 s13 s14, σ' = [some (.ref sa), some (.ref a), s2, s3, s4, s5, s6, s7, s8, s9, s10, s11, s12, s13, s14]) ∧ Strm H' a l (130 * i)) ⟨⟨none, none, none, none, none, none, none, none, none, none, none, none, none, rfl⟩, S1⟩
      (fun i σ' H0 hi pv => ?_) (fun σ' H2 pv => k H2)
    obtain ⟨⟨s2, s3, s4, s5, s6, s7, s8, s9, s10, s11, s12, s13, s14, rfl⟩, S0⟩ := pv
    refine nm ?_
    refine ⟨_, rfl, a, l, 3, 130 * i, rfl, by decide, by decide, by rw [tc4]; omega, S0, fun v1 j ms Ha hm1 hd1 Sa nxa => nm ?_⟩
    have up : ∀ {Hx Hy : Hp}, Nx a l Ha Hx → Nx a l Hx Hy → Same (nw H0 Ha) (off a l Hy) := fun {Hx Hy} n1 n2 b o e => by
      obtain ⟨e1, e2⟩ := of_nw e
      have na : b ≠ a := fun z => S0.dom.1 (z ▸ e1)
      have nl : b ≠ l := fun z => S0.dom.2 (z ▸ e1)
      exact off_of ((n1.trans n2).get e2 na nl) na nl
    refine ⟨_, rfl, _, rfl, a, l, v1, .obj j ms, _, nw H0 Ha, rfl, hm1, by omega, up Nx.refl Nx.refl, by rw [tc4]; omega, Sa, fun v2 m2 Hb hm2 hd2 Sb nxb => ?_⟩
    refine ⟨_, rfl, _, rfl, a, l, 2, _, rfl, by decide, by decide, by rw [tc4, tc3]; omega, Sb, fun v3 j3 ms3 Hc hm3 hd3 Sc nxc => ⟨(by show 3 ≤ sizeLine; decide), fun e he => ?_⟩⟩
    have ea : e ≠ a := fun z => Sc.dom.1 (z ▸ he)
    have el : e ≠ l := fun z => Sc.dom.2 (z ▸ he)
    refine ⟨_, rfl, a, l, 3, _, rfl, by decide, by decide, by rw [tc4, tc3]; omega, Sc.new he, fun r Hd r0 r1 Sd nxd => ?_⟩
    obtain ⟨x, hx, hxm⟩ := atI_mem (xs := [v2, v1, v3]) r0 r1
    refine ⟨e, _, r, x, rfl, rfl, SqL.of (nxd.get upd_same ea el), hx, nm ?_⟩
    have nxcd : Nx a l Hc Hd := (Nx.new he).trans nxd
    have g1 : MR Hd v1 (.obj j ms) := hm1.same ((up nxb (nxc.trans nxcd)).trans off_sub)
    have hgo : ∃ mo, MR Hd x mo ∧ dep mo ≤ 7 := by
      have hx3 : x = v2 ∨ x = v1 ∨ x = v3 := by simpa using hxm
      rcases hx3 with rfl | rfl | rfl
      · refine ⟨m2, hm2.same fun b o eb => ?_, by omega⟩
        rcases pl_of eb with eb | ⟨e1, e2⟩
        · exact (up nxb (nxc.trans nxcd)).trans off_sub b o eb
        · exact (nxc.trans nxcd).get e2 (fun z => Sa.dom.1 (z ▸ e1)) (fun z => Sa.dom.2 (z ▸ e1))
      · exact ⟨_, g1, by omega⟩
      · refine ⟨_, hm3.same fun b o eb => ?_, by omega⟩
        obtain ⟨e1, e2⟩ := of_nw eb
        exact nxcd.get e2 (fun z => Sb.dom.1 (z ▸ e1)) (fun z => Sb.dom.2 (z ▸ e1))
    obtain ⟨mo, gmo, hdo⟩ := hgo
    have SF := Sd.mono (d := 130 * (i + 1)) (by rw [tc4, tc3]; omega)
    clear hm1 hm2 hm3 hd2 hd3 Sa Sb Sc Sd nxa nxb nxc nxd nxcd hx hxm up he ea el r0 r1 S0 S1 hal ha hl
    obtain ⟨p0, q0, k0, vs1, ms1, rfl, em, a1, b1, c1, e1, t1⟩ := mr_obj g1 rfl
    injection em with ej es
    subst ej
    subst es
    refine ⟨_, rfl, _, rfl, .ref p0, x, .obj j ms, mo, rfl, g1, gmo, by omega, fun He sme => nm ?_⟩
    refine ⟨_, rfl, .ref p0, .obj j ms, rfl, g1.same sme, by omega, fun u1 Hf ou1 smf => ⟨_, rfl, x, mo, rfl, gmo.same (sme.trans smf), by omega, fun u2 Hg ou2 smg => ⟨u1, u2, rfl, ?_⟩⟩⟩
    have o1 : OR c fl Hg u1 (.obj j ms) := ou1.same (nw_sub.trans smg)
    have o2 : OR c fl Hg u2 mo := ou2.same nw_sub
    have smG := sme.trans (smf.trans smg)
    clear ou1 ou2
    have SG := strm_same SF smG
    have a1 := smG _ _ a1
    have b1 := smG _ _ b1
    have t1 := t1.same smG
    clear smf smg sme smG g1 gmo SF
    have hb1 : ∀ b : Bool, (!decide (V.bl b = V.bl b)) = false := fun b => by simp
    have hb2 : ∀ b : Bool, decide (V.bl (!b) = V.bl b) = false := fun b => by cases b <;> rfl
    dsimp only
    have d1 : dep (.obj j ms) ≤ 7 := by omega
    refine seq_for (fun σ Hx => Same Hg Hx ∧ ∃ s8 s9, σ = [some (.ref sa), some (.ref a), some (.int (0 + i)), some (.ref p0), some x, some (.bl (Tq.eqM (.obj j ms) mo)), some u1, some u2, s8, s9, s10, s11, s12, s13, s14]) ?_ (fun fin => ?_)
    rotate_left
    · refine ⟨_, rfl, _, rfl, (by show 2 ≤ sizeLine; decide), fun x1 hx1 => ⟨_, rfl, _, rfl, (by show 2 ≤ sizeLine; decide), fun x2 hx2 => ⟨(by show 2 ≤ sizeLine; decide), fun x3 hx3 => ⟨x3, rfl, ⟨_, SqT.of upd_same⟩, ?_⟩⟩⟩⟩
      have sm1 := same_new (o := .tup [u1, u2]) hx1
      have f1 : (upd Hg x1 (.tup [u1, u2])) x1 = some (.tup [u1, u2]) := upd_same
      generalize upd Hg x1 (.tup [u1, u2]) = G1 at sm1 f1 hx2 hx3 ⊢
      have sm2 := same_new (o := .tup [u2, u1]) hx2
      have f2 : (upd G1 x2 (.tup [u2, u1])) x2 = some (.tup [u2, u1]) := upd_same
      generalize upd G1 x2 (.tup [u2, u1]) = G2 at sm2 f2 hx3 ⊢
      have sm3 := same_new (o := .tup [V.ref x1, V.ref x2]) hx3
      have f3 : (upd G2 x3 (.tup [V.ref x1, V.ref x2])) x3 = some (.tup [V.ref x1, V.ref x2]) := upd_same
      generalize upd G2 x3 (.tup [V.ref x1, V.ref x2]) = G3 at sm3 f3 ⊢
      have f1 := sm3 _ _ (sm2 _ _ f1)
      have f2 := sm3 _ _ f2
      have smA := sm1.trans (sm2.trans sm3)
      have o1' := o1.same smA
      have o2' := o2.same smA
      refine for_tup (xs := [V.ref x1, V.ref x2]) (fun n σ Hx => Hx = G3 ∧ ∃ s8 s9, σ = [some (.ref sa), some (.ref a), some (.int (0 + i)), some (.ref p0), some x, some (.bl (Tq.eqM (.obj j ms) mo)), some u1, some u2, s8, s9, s10, s11, s12, s13, s14]) ⟨rfl, s8, s9, rfl⟩
        (fun n σ Hx _ pv => by obtain ⟨rfl, _⟩ := pv; exact SqT.of f3) (fun n y σ Hx hy pv => ?_) (fun σ Hx pv => fin _ _ ⟨by rw [pv.1]; exact smA, pv.2⟩)
      obtain ⟨rfl, s8, s9, rfl⟩ := pv
      match n, hy with
      | 0, hy =>
        cases hy
        refine ⟨x1, _, rfl, SqT.of f1, rfl, u1, _, rfl, u2, _, rfl, rfl, _, rfl, _, rfl, .obj j ms, mo, o1', o2', d1, hdo, _, rfl, rfl, _, rfl, if0 (hb1 _) ?_⟩
        exact ⟨_, rfl, _, rfl, .obj j ms, mo, o1', o2', .inl rfl, d1, hdo, _, rfl, rfl, _, rfl, if0 (hb2 _) ⟨rfl, _, _, rfl⟩⟩
      | 1, hy =>
        cases hy
        refine ⟨x2, _, rfl, SqT.of f2, rfl, u2, _, rfl, u1, _, rfl, rfl, _, rfl, _, rfl, mo, .obj j ms, o2', o1', hdo, d1, _, rfl, rfl, _, rfl, if0 (by rw [eqM_symm mo]; exact hb1 _) ?_⟩
        exact ⟨_, rfl, _, rfl, mo, .obj j ms, o2', o1', .inr rfl, hdo, d1, _, rfl, rfl, _, rfl, if0 (by rw [eqM_symm mo]; exact hb2 _) ⟨rfl, _, _, rfl⟩⟩
      | n + 2, hy => cases hy
    rintro σ Hh ⟨smh, s8, s9, rfl⟩
    have o1 := o1.same smh
    have SG := strm_same SG smh
    have a1 := smh _ _ a1
    have b1 := smh _ _ b1
    have t1 := t1.same smh
    clear smh
    have gW : ∀ {Hx : Hp}, Same Hh Hx → DGet Hx p0 (.str "word") (some (.str (wd j))) := fun s => DGet.k (k := Sum.inr "word") (s _ _ a1)
    have gP : ∀ {Hx : Hp}, Same Hh Hx → DGet Hx p0 (.str "parts") (some (.ref q0)) := fun s => DGet.k (k := Sum.inr "parts") (s _ _ a1)
    obtain ⟨pu, rfl⟩ := or_ref o1
    obtain ⟨dx, us, hpu, hk, hl1, tu⟩ := or_obj o1
    refine ⟨_, rfl, pu, dx, j, us, rfl, hpu, hk, hl1, fun L hL => nm ?_⟩
    dsimp only
    have smL := same_new (o := .lst (.str (wd j) :: us)) hL
    have fL : (upd Hh L (.lst (.str (wd j) :: us))) L = some (.lst (.str (wd j) :: us)) := upd_same
    generalize upd Hh L (.lst (.str (wd j) :: us)) = Hi at smL fL ⊢
    refine ⟨_, rfl, L, _, 0, _, rfl, rfl, SqL.of fL, (atI_nat (j := 0) rfl), _, rfl, p0, _, rfl, gW smL, rfl, _, rfl, if0 (by simp) ?_⟩
    refine ⟨_, rfl, L, _, rfl, .inl (SqL.of fL), _, rfl, p0, _, rfl, gP smL, q0, vs1, rfl, .inl (SqL.of (smL _ _ b1)), _, _, rfl, rfl, rfl, _, rfl, if0 ?_ ?_⟩
    · rw [List.length_cons, hl1, ← e1, decide_eq_true (by congr 1; omega)]
      rfl
    have o1 := o1.same smL
    have SG := strm_same SG smL
    have a1 := smL _ _ a1
    have b1 := smL _ _ b1
    have t1 := t1.same smL
    have tu := tu.same smL
    clear gW gP smL hpu
    have gP : DGet Hi p0 (.str "parts") (some (.ref q0)) := DGet.k (k := Sum.inr "parts") a1
    have hfl : (fl j).length ≤ 1000 := (show ∀ k, k < 4 → (fl k).length ≤ 1000 by decide) j c1
    have hdl : depL ms < 7 := by simp only [dep] at d1; omega
    refine ⟨_, rfl, p0, _, rfl, gP, q0, rfl, ⟨_, SqL.of b1⟩, fun D hD => ?_⟩
    refine lc_list (xs := vs1) (fun i H'' => ∃ us, H'' D = some (.lst us) ∧ us.length = i ∧ ORs c fl (nw (upd Hi D (.lst [])) H'') us (ms.take i) ∧ (∀ b o, b ≠ D → Hi b = some o → H'' b = some o)) ⟨[], upd_same, rfl, .nil, fun b o n e => by rw [upd_ne n]; exact e⟩
      (fun i H'' _ pv => SqL.of (pv.choose_spec.2.2.2 q0 _ (fun q => by rw [q, hD] at b1; cases b1) b1)) (fun i y H'' hi pv => nm ⟨rfl, yes ⟨_, rfl, ?_⟩⟩) (fun Hj pv => nm ?_)
    · obtain ⟨us2, hDv, hul, ho, kp⟩ := pv
      obtain ⟨mi, hmi, hy⟩ := t1.get hi
      have sm : Same Hi H'' := fun b o e => kp b o (fun z => by rw [z, hD] at e; cases e) e
      refine ⟨y, mi, rfl, hy.same sm, Nat.lt_of_le_of_lt (depL_le hmi) (by omega), fun u H4 hu s4 => ?_⟩
      obtain ⟨z1, z2⟩ := acc_step hD hDv ho kp s4 hu
      have hlt : i < vs1.length := (List.getElem?_eq_some_iff.mp hi).1
      refine ⟨us2, s4 _ _ hDv, ?_, us2 ++ [u], upd_same, by rw [List.length_append, hul]; rfl, ?_, z2⟩
      · rw [hul]
        exact Nat.lt_of_lt_of_le (show i < 1001 by omega) (by decide)
      · rw [List.take_succ, hmi]
        exact z1
    obtain ⟨us2, hDv, hul, ho, kp⟩ := pv
    rw [t1.length, List.take_length] at ho
    have smJ : Same Hi Hj := fun b o e => kp b o (fun z => by rw [z, hD] at e; cases e) e
    have ho : ORs c fl Hj us2 ms := ho.same nw_sub
    have o1 := o1.same smJ
    have SG := strm_same SG smJ
    have tu := tu.same smJ
    have fL := smJ _ _ fL
    have lu := tu.length
    have lu2 := ho.length
    clear kp smJ a1 b1 t1 gP hD
    dsimp only
    refine seq_if (fun σ Hx => Same Hj Hx ∧ σ = [some (.ref sa), some (.ref a), some (.int (0 + i)), some (.ref p0), some x, some (.bl (Tq.eqM (.obj j ms) mo)), some (.ref pu), some u2, s8, s9, some (.ref L), some (.ref D), s12, s13, s14]) ?_ (fun fin => ?_)
    rotate_left
    · refine ⟨_, rfl, D, us2, rfl, .inl (SqL.of hDv), (us2.length : Int), rfl, by omega, by omega, fun D2 hD2 => ?_⟩
      rw [Int.toNat_natCast]
      refine lc_range (lo := 0) (n := us2.length) (fun i H'' => H'' D2 = some (.lst ((List.replicate i true).map V.bl)) ∧ ∀ b o, b ≠ D2 → Hj b = some o → H'' b = some o) ⟨upd_same, fun b o n e => by rw [upd_ne n]; exact e⟩ (fun i H'' hi pv => nm ⟨rfl, yes ?_⟩) (fun Hk pv => ?_)
      · obtain ⟨hv, kp⟩ := pv
        have sm : Same Hj H'' := fun b o e => kp b o (fun z => by rw [z, hD2] at e; cases e) e
        have i1 : i < us.length := by omega
        have x1 : us[i]? = some us[i] := List.getElem?_eq_getElem i1
        have x2 : us2[i]? = some us2[i] := List.getElem?_eq_getElem hi
        obtain ⟨mi, hmi, oi⟩ := tu.get x1
        obtain ⟨mj, hmj, oj⟩ := ho.get x2
        obtain rfl : mi = mj := by
          rw [hmi] at hmj
          cases hmj
          rfl
        have hdm := depL_le hmi
        have hat : atI (V.str (wd j) :: us) (1 + (0 + (i : Int))) = some us[i] := by
          rw [show (1 + (0 + (i : Int))) = ((i + 1 : Nat) : Int) by omega]
          exact atI_nat (by rw [List.getElem?_cons_succ]; exact x1)
        have hat2 : atI us2 (0 + (i : Int)) = some us2[i] := by
          rw [show (0 + (i : Int)) = ((i : Nat) : Int) by omega]
          exact atI_nat x2
        refine ⟨_, rfl, _, rfl, _, _, rfl, rfl, L, _, _, us[i], rfl, rfl, SqL.of (sm _ _ fL), hat, _, rfl, _, rfl, D, us2, _, us2[i], rfl, rfl, SqL.of (sm _ _ hDv), hat2, mi, mi, oi.same sm, oj.same sm, by omega, by omega, _, hv, ?_, ?_, fun b o nb e => by rw [upd_ne nb]; exact kp b o nb e⟩
        · rw [List.length_map, List.length_replicate]
          exact Nat.lt_of_lt_of_le (show i < 1001 by omega) (by decide)
        · rw [upd_same, oi.refl, List.replicate_succ', List.map_append]
          rfl
      · obtain ⟨hv, kp⟩ := pv
        have sm : Same Hj Hk := fun b o e => kp b o (fun z => by rw [z, hD2] at e; cases e) e
        refine ⟨D2, List.replicate us2.length true, rfl, SqL.of hv, _, rfl, ?_⟩
        refine if0 (by simp) ⟨_, rfl, _, rfl, .obj j ms, .obj j ms, o1.same sm, o1.same sm, d1, d1, _, rfl, if0 (by rw [o1.refl]; rfl) (fin _ _ ⟨sm, rfl⟩)⟩
    rintro σ Hk ⟨smk, rfl⟩
    have o1 := o1.same smk
    have SG := strm_same SG smk
    have tu := tu.same smk
    have fL := smk _ _ fL
    clear smk ho hDv
    have hcut : ∀ z : V, cutV (z :: us) (some 1) none = us := fun z => by
      unfold cutV
      have e1 : HT.sIx (z :: us).length 0 (some 1) = 1 := by simp [HT.sIx]
      have e2 : HT.sIx (z :: us).length (z :: us).length none = us.length + 1 := by simp [HT.sIx]
      rw [e1, e2]
      simp
    have sz : ∀ {n : Nat}, n ≤ 9 → n ≤ sizeLine := fun h => Nat.le_trans h (by decide)
    refine ⟨sz (by decide), fun z1 hz1 => ⟨sz (by decide), fun z2 hz2 => ?_⟩⟩
    have sm1 := same_new (o := .lst []) hz1
    have w1 : (upd Hk z1 (.lst [])) z1 = some (.lst []) := upd_same
    generalize upd Hk z1 (.lst []) = G1 at sm1 w1 hz2 ⊢
    have sm2 := sm1.trans (same_new (o := .tup []) hz2)
    have w1 := same_new (o := .tup []) hz2 _ _ w1
    have w2 : (upd G1 z2 (.tup [])) z2 = some (.tup []) := upd_same
    generalize upd G1 z2 (.tup []) = G2 at sm2 w1 w2 ⊢
    refine ⟨_, rfl, 1, rfl, L, _, rfl, SqL.of (sm2 _ _ fL), fun z3 hz3 => ?_⟩
    rw [hcut]
    have sm3 := sm2.trans (same_new (o := .lst us) hz3)
    have w1 := same_new (o := .lst us) hz3 _ _ w1
    have w2 := same_new (o := .lst us) hz3 _ _ w2
    have w3 : (upd G2 z3 (.lst us)) z3 = some (.lst us) := upd_same
    generalize upd G2 z3 (.lst us) = G3 at sm3 w1 w2 w3 ⊢
    refine ⟨_, rfl, 1, rfl, L, _, rfl, SqL.of (sm3 _ _ fL), fun z4 hz4 => ?_⟩
    rw [hcut]
    have sm4 := sm3.trans (same_new (o := .lst us) hz4)
    have w1 := same_new (o := .lst us) hz4 _ _ w1
    have w2 := same_new (o := .lst us) hz4 _ _ w2
    have w3 := same_new (o := .lst us) hz4 _ _ w3
    have w4 : (upd G3 z4 (.lst us)) z4 = some (.lst us) := upd_same
    generalize upd G3 z4 (.lst us) = G4 at sm4 w1 w2 w3 w4 ⊢
    refine ⟨z4, us, rfl, .inl ⟨SqL.of w4, fun z5 hz5 => ⟨sz (Nat.le_refl 9), fun z6 hz6 => ⟨z6, rfl, ⟨_, SqT.of upd_same⟩, ?_⟩⟩⟩⟩
    have sm5 := sm4.trans (same_new (o := .tup us) hz5)
    have w1 := same_new (o := .tup us) hz5 _ _ w1
    have w2 := same_new (o := .tup us) hz5 _ _ w2
    have w3 := same_new (o := .tup us) hz5 _ _ w3
    have w5 : (upd G4 z5 (.tup us)) z5 = some (.tup us) := upd_same
    generalize upd G4 z5 (.tup us) = G5 at sm5 w1 w2 w3 w5 hz6 ⊢
    have sm6 := same_new (o := .tup [V.int 0, V.int 1, V.str "", V.non, V.ref z1, V.ref z2, V.ref z3, V.ref z5, V.str "..."]) hz6
    have w6 : (upd G5 z6 (.tup [V.int 0, V.int 1, V.str "", V.non, V.ref z1, V.ref z2, V.ref z3, V.ref z5, V.str "..."])) z6 = some (.tup [V.int 0, V.int 1, V.str "", V.non, V.ref z1, V.ref z2, V.ref z3, V.ref z5, V.str "..."]) := upd_same
    have smF := sm5.trans sm6
    generalize upd G5 z6 (.tup [V.int 0, V.int 1, V.str "", V.non, V.ref z1, V.ref z2, V.ref z3, V.ref z5, V.str "..."]) = G6 at smF sm6 w6 ⊢
    have w1 := sm6 _ _ w1
    have w2 := sm6 _ _ w2
    have w3 := sm6 _ _ w3
    have w5 := sm6 _ _ w5
    have o1 := o1.same smF
    have SG := strm_same SG smF
    have tu := tu.same smF
    have odd : ∀ y ∈ [V.int 0, V.int 1, V.str "", V.non, V.ref z1, V.ref z2, V.ref z3, V.ref z5, V.str "..."], ∃ m, OR c fl G6 y m ∧ isObM m = false ∧ dep m ≤ 7 := by
      intro y hy
      simp only [List.mem_cons, List.not_mem_nil, or_false] at hy
      rcases hy with rfl | rfl | rfl | rfl | rfl | rfl | rfl | rfl | rfl
      · exact ⟨_, .at rfl, rfl, by simp [dep]⟩
      · exact ⟨_, .at rfl, rfl, by simp [dep]⟩
      · exact ⟨_, .at rfl, rfl, by simp [dep]⟩
      · exact ⟨_, .at rfl, rfl, by simp [dep]⟩
      · exact ⟨_, .lst w1 .nil, rfl, by simp [dep, depL]⟩
      · exact ⟨_, .tup w2 .nil, rfl, by simp [dep, depL]⟩
      · exact ⟨_, .lst w3 tu, rfl, by simp only [dep]; omega⟩
      · exact ⟨_, .tup w5 tu, rfl, by simp only [dep]; omega⟩
      · exact ⟨_, .at rfl, rfl, by simp [dep]⟩
    refine for_tup (xs := [V.int 0, V.int 1, V.str "", V.non, V.ref z1, V.ref z2, V.ref z3, V.ref z5, V.str "..."]) (fun n σ Hx => Hx = G6 ∧ ∃ s12, σ = [some (.ref sa), some (.ref a), some (.int (0 + i)), some (.ref p0), some x, some (.bl (Tq.eqM (.obj j ms) mo)), some (.ref pu), some u2, s8, s9, some (.ref L), some (.ref D), s12, s13, s14]) ⟨rfl, s12, rfl⟩
      (fun n σ Hx _ pv => by obtain ⟨rfl, _⟩ := pv; exact SqT.of w6) (fun n y σ Hx hy pv => ?_) (fun σ Hx pv => ?_)
    · obtain ⟨rfl, s12, rfl⟩ := pv
      obtain ⟨m, om, hob, hdm⟩ := odd y (List.mem_of_getElem? hy)
      have ne1 : Tq.eqM (.obj j ms) m = false := by
        cases m with
        | obj _ _ => cases hob
        | «at» _ => unfold Tq.eqM; rfl
        | lst _ => unfold Tq.eqM; rfl
        | tup _ => unfold Tq.eqM; rfl
      have ne2 : Tq.eqM m (.obj j ms) = false := by rw [eqM_symm]; exact ne1
      refine nm ⟨_, rfl, _, rfl, .obj j ms, m, o1, om, d1, hdm, _, rfl, if0 ne1 ⟨_, rfl, _, rfl, m, .obj j ms, om, o1, hdm, d1, _, rfl, if0 ne2 ⟨_, rfl, _, rfl, .obj j ms, m, o1, om, .inl rfl, d1, hdm, _, rfl, if0 (by rw [ne1]; rfl) ⟨rfl, _, rfl⟩⟩⟩⟩
    · obtain ⟨rfl, s12, rfl⟩ := pv
      exact ⟨⟨_, _, _, _, _, _, _, _, _, _, _, _, _, rfl⟩, SG⟩
end
end K06

namespace K06
open PySem L2 Tq
def sel (a b c d : Addr) : Nat → Addr
  | 0 => a
  | 1 => b
  | 2 => c
  | _ => d
theorem all4 {p : Nat → Prop} (h0 : p 0) (h1 : p 1) (h2 : p 2) (h3 : p 3) : ∀ k, k < 4 → p k := by
  intro k hk
  have : k = 0 ∨ k = 1 ∨ k = 2 ∨ k = 3 := by omega
  rcases this with rfl | rfl | rfl | rfl
  · exact h0
  · exact h1
  · exact h2
  · exact h3
theorem ty5 {p : String → Prop} (h0 : p "list") (h1 : p "tuple") (h2 : p "int") (h3 : p "str") (h4 : p "NoneType") : ∀ T ∈ tyNames, p T := by
  intro T h
  simp only [tyNames, List.mem_cons, List.not_mem_nil, or_false] at h
  rcases h with rfl | rfl | rfl | rfl | rfl <;> assumption
theorem never {P : Program} {w : World} {K : PySem.W.Frag} {mg : Str → Option Value} {base : Heap} {CX : CXT} {k : Nat} {f : Addr} {fd : FuncData} {ps : List Str} {sp : Sp} (h : ∀ vs H Q E, ¬ sp vs H Q E) : FnG P w K mg base CX k f fd ps sp :=
  ⟨fun vs H Q E z => absurd z (h vs H Q E), fun _ _ _ H _ _ vs Q E _ _ _ _ _ z => absurd z (h vs H Q E)⟩
/-- what a class shows of itself -/
structure One (K : PySem.W.Frag) (mg : Str → Option Value) (x : Str) (C f : Addr) (fs : List Str) (st : Stmt) : Prop where
  g : mg x = some (.ref C)
  cls : Cls K C
  eq : PySem.W.findIn K (.ref C) "__eq__" = some (some (.ref f))
  fn : PySem.W.isFn K (.ref f) = true
  ne : PySem.W.findIn K (.ref C) "__ne__" = some (some (.builtin "object.__ne__"))
  hm : PySem.W.mroIn K C (.type "object") = some true
  subB : ∀ T ∈ tyNames, PySem.W.subIn K (.ref C) (.type T) = some false
  ha : PySem.W.findIn K (.ref C) "__class__" = some (some (.builtin "object.__class__"))
  kc : (PySem.W.clsIn K C).isSome = true
  ty : PySem.W.typeIn K (.ref C) = some (.type "type")
  kp : PySem.W.keepIn K (.ref C) = true
  mks : PySem.W.makesIn K C = true
  e : ∃ fd, Fun K "__eq__" (x ++ ".__eq__") st f fd
theorem one_mk {K : PySem.W.Frag} {h : Heap} {mg : Str → Option Value} {x : Str} {C f : Addr} {fs : List Str} {st : Stmt} {oc : Value} {od an : Option Addr} {osl : Array (Option Value)} {kV doc pm cdv ct : Value} (X : K.In h) (G : h.Ns mainGlobals mg)
    (a : PySem.W.nsIn K mainGlobals x = some (some (.ref C))) (c1 : PySem.W.plainGet K C Str.empty = true) (c2 : PySem.W.hasDictIn K C = true) (c3 : PySem.W.plainOver K C = true) (c4 : PySem.W.findIn K (.ref C) "__setattr__" = some (some (.builtin "object.__setattr__")))
    (eq : PySem.W.findIn K (.ref C) "__eq__" = some (some (.ref f))) (fn : PySem.W.isFn K (.ref f) = true) (ne : PySem.W.findIn K (.ref C) "__ne__" = some (some (.builtin "object.__ne__"))) (hm : PySem.W.mroIn K C (.type "object") = some true)
    (b0 : PySem.W.subIn K (.ref C) (.type "list") = some false) (b1 : PySem.W.subIn K (.ref C) (.type "tuple") = some false) (b2 : PySem.W.subIn K (.ref C) (.type "int") = some false) (b3 : PySem.W.subIn K (.ref C) (.type "str") = some false) (b4 : PySem.W.subIn K (.ref C) (.type "NoneType") = some false)
    (ha : PySem.W.findIn K (.ref C) "__class__" = some (some (.builtin "object.__class__"))) (ty : PySem.W.typeIn K (.ref C) = some (.type "type")) (kp : PySem.W.keepIn K (.ref C) = true) (mks : PySem.W.makesIn K C = true)
    (l : K.lookup f = some ⟨oc, od, .func (PySem.W.fnOf "__eq__" (x ++ ".__eq__") (defArgs st) (defBody st) (defScope st) .none kV doc pm an cdv ct), osl⟩) (c : PySem.W.codeIn K cdv (x ++ ".__eq__") = true) (k : PySem.W.keepIn K (.ref f) = true) : One K mg x C f fs st :=
  ⟨PySem.W.mg_of X G a, ⟨c1, c2, c3, c4⟩, eq, fn, ne, hm, ty5 b0 b1 b2 b3 b4, ha, by obtain ⟨cd, a, _⟩ := Option.bind_eq_some_iff.mp hm; rw [a]; rfl, ty, kp, mks, ⟨_, fun_mk l c k⟩⟩
def Ini (K : PySem.W.Frag) (C : Addr) (x : Str) (st : Stmt) : Prop := ∃ (h : Addr) (fd : FuncData), PySem.W.findIn K (.ref C) "__init__" = some (some (.ref h)) ∧ PySem.W.isFn K (.ref h) = true ∧ Fun K "__init__" x st h fd
theorem ini_mk {K : PySem.W.Frag} {C f : Addr} {x : Str} {st : Stmt} {oc : Value} {od an : Option Addr} {osl : Array (Option Value)} {kV doc pm cdv ct : Value} (a : PySem.W.findIn K (.ref C) "__init__" = some (some (.ref f))) (fn : PySem.W.isFn K (.ref f) = true)
    (l : K.lookup f = some ⟨oc, od, .func (PySem.W.fnOf "__init__" x (defArgs st) (defBody st) (defScope st) .none kV doc pm an cdv ct), osl⟩) (c : PySem.W.codeIn K cdv x = true) (k : PySem.W.keepIn K (.ref f) = true) : Ini K C x st :=
  ⟨f, _, a, fn, fun_mk l c k⟩

theorem all06 {l : PySem.W.OpenLaw} {w : World} {K : PySem.W.Frag} {h : Heap} {mg : Str → Option Value} {fa C0 C1 C2 C3 f0 f1 f2 f3 : Addr} (X : K.In h) (G : h.Ns mainGlobals mg) (hfa : mg "law" = some (.ref fa))
    (n_int : PySem.W.nsIn K mainGlobals "int" = some none)
    (n_len : PySem.W.nsIn K mainGlobals "len" = some none)
    (n_list : PySem.W.nsIn K mainGlobals "list" = some none)
    (n_tuple : PySem.W.nsIn K mainGlobals "tuple" = some none)
    (n_all : PySem.W.nsIn K mainGlobals "all" = some none)
    (n_zip : PySem.W.nsIn K mainGlobals "zip" = some none)
    (n_dict : PySem.W.nsIn K mainGlobals "dict" = some none)
    (n_range : PySem.W.nsIn K mainGlobals "range" = some none)
    (n_isinstance : PySem.W.nsIn K mainGlobals "isinstance" = some none)
    (O0 : One K mg "Dots" C0 f0 [] sDots___eq__)
    (O1 : One K mg "Float" C1 f1 ["mantissa", "exponent"] sFloat___eq__)
    (O2 : One K mg "Imaginary" C2 f2 ["number"] sImaginary___eq__)
    (O3 : One K mg "Octets" C3 f3 ["numbers"] sOctets___eq__)
    (hn : PySem.W.specialIn K (.builtin "object.__class__") "__get__" = some (some (.builtin "getset_descriptor.__get__"))) (htk : PySem.W.takesIn K (.builtin "object.__class__") = some true)
    (i0 : PySem.W.findIn K (.ref C0) "__init__" = some (some (.builtin "object.__init__")))
    (i1 : Ini K C1 "Float.__init__" sFloat___init__)
    (i2 : Ini K C2 "Imaginary.__init__" sImaginary___init__)
    (i3 : Ini K C3 "Octets.__init__" sOctets___init__)
    (no1_mantissa : PySem.W.findIn K (.ref C1) "mantissa" = some none)
    (no1_exponent : PySem.W.findIn K (.ref C1) "exponent" = some none)
    (no2_number : PySem.W.findIn K (.ref C2) "number" = some none)
    (no3_numbers : PySem.W.findIn K (.ref C3) "numbers" = some none)
    (sub01 : PySem.W.subIn K (.ref C0) (.ref C1) = some false)
    (sub02 : PySem.W.subIn K (.ref C0) (.ref C2) = some false)
    (sub03 : PySem.W.subIn K (.ref C0) (.ref C3) = some false)
    (sub10 : PySem.W.subIn K (.ref C1) (.ref C0) = some false)
    (sub12 : PySem.W.subIn K (.ref C1) (.ref C2) = some false)
    (sub13 : PySem.W.subIn K (.ref C1) (.ref C3) = some false)
    (sub20 : PySem.W.subIn K (.ref C2) (.ref C0) = some false)
    (sub21 : PySem.W.subIn K (.ref C2) (.ref C1) = some false)
    (sub23 : PySem.W.subIn K (.ref C2) (.ref C3) = some false)
    (sub30 : PySem.W.subIn K (.ref C3) (.ref C0) = some false)
    (sub31 : PySem.W.subIn K (.ref C3) (.ref C1) = some false)
    (sub32 : PySem.W.subIn K (.ref C3) (.ref C2) = some false)
    (ne01 : C0 ≠ C1)
    (ne02 : C0 ≠ C2)
    (ne03 : C0 ≠ C3)
    (ne12 : C1 ≠ C2)
    (ne13 : C1 ≠ C3)
    (ne23 : C2 ≠ C3)
    (f_law_draw : Fn1 K mg "_law_draw" s_law_draw)
    (f_law_pick : Fn1 K mg "_law_pick" s_law_pick)
    (f_law_thing : Fn1 K mg "_law_thing" s_law_thing)
    (f_law_object : Fn1 K mg "_law_object" s_law_object)
    (f_law_made : Fn1 K mg "_law_made" s_law_made)
    (f_law_changed : Fn1 K mg "_law_changed" s_law_changed)
    (f_law_fields : Fn1 K mg "_law_fields" s_law_fields)
    (f_law_alike : Fn1 K mg "_law_alike" s_law_alike)
    (flaw : Fn1 K mg "law" slaw)
    : ∃ fd : FuncData, (∀ (s : Shared) (u : Value), BindsTo s fd ⟨[u], []⟩ [("_law_script", u)]) ∧ ∀ base : Heap, K.In base → base.Ns mainGlobals mg → FnG l.prog w K mg base CX0 14 fa fd ["_law_script"] (spLaw K) := by
  have tx : Txt mg := ⟨PySem.W.mg_none_of X G n_int, PySem.W.mg_none_of X G n_len, PySem.W.mg_none_of X G n_list, PySem.W.mg_none_of X G n_tuple, PySem.W.mg_none_of X G n_all, PySem.W.mg_none_of X G n_zip, PySem.W.mg_none_of X G n_dict, PySem.W.mg_none_of X G n_range, PySem.W.mg_none_of X G n_isinstance⟩
  have hno : ∀ k, k < 4 → ∀ x ∈ fl k, NoAttr K (sel C0 C1 C2 C3 k) x := by
    refine all4 ?_ ?_ ?_ ?_
    · intro x hx; cases hx
    · intro x hx
      simp only [fl, List.mem_cons, List.not_mem_nil, or_false] at hx
      rcases hx with rfl | rfl
      · exact no1_mantissa
      · exact no1_exponent
    · intro x hx
      simp only [fl, List.mem_cons, List.not_mem_nil, or_false] at hx
      subst hx
      exact no2_number
    · intro x hx
      simp only [fl, List.mem_cons, List.not_mem_nil, or_false] at hx
      subst hx
      exact no3_numbers
  have hsub : ∀ j k, j < 4 → k < 4 → j ≠ k → PySem.W.subIn K (.ref (sel C0 C1 C2 C3 j)) (.ref (sel C0 C1 C2 C3 k)) = some false := by
    intro j k hj hk hne
    have h1 : j = 0 ∨ j = 1 ∨ j = 2 ∨ j = 3 := by omega
    have h2 : k = 0 ∨ k = 1 ∨ k = 2 ∨ k = 3 := by omega
    rcases h1 with rfl | rfl | rfl | rfl <;> rcases h2 with rfl | rfl | rfl | rfl <;> first | exact absurd rfl hne | assumption
  have hinj : ∀ j k, j < 4 → k < 4 → sel C0 C1 C2 C3 j = sel C0 C1 C2 C3 k → j = k := by
    intro j k hj hk he
    have h1 : j = 0 ∨ j = 1 ∨ j = 2 ∨ j = 3 := by omega
    have h2 : k = 0 ∨ k = 1 ∨ k = 2 ∨ k = 3 := by omega
    rcases h1 with rfl | rfl | rfl | rfl <;> rcases h2 with rfl | rfl | rfl | rfl <;> first | rfl | exact absurd he (by assumption) | exact absurd he.symm (by assumption)
  have U : Cl6 K mg (sel C0 C1 C2 C3) (sel f0 f1 f2 f3) := { cls := (all4 O0.cls O1.cls O2.cls O3.cls), eq := (all4 O0.eq O1.eq O2.eq O3.eq), fn := (all4 O0.fn O1.fn O2.fn O3.fn), ne := (all4 O0.ne O1.ne O2.ne O3.ne), hm := (all4 O0.hm O1.hm O2.hm O3.hm), sub := hsub, subB := (all4 O0.subB O1.subB O2.subB O3.subB), inj := hinj, g0 := O0.g, g1 := O1.g, g2 := O2.g, g3 := O3.g, ha := (all4 O0.ha O1.ha O2.ha O3.ha), hn := hn, htk := htk, kc := (all4 O0.kc O1.kc O2.kc O3.kc), ty := (all4 O0.ty O1.ty O2.ty O3.ty), no := hno, kp := (all4 O0.kp O1.kp O2.kp O3.kp), mks := (all4 O0.mks O1.mks O2.mks O3.mks), i0 := i0, i1 := i1, i2 := i2, i3 := i3, e0 := O0.e, e1 := O1.e, e2 := O2.e, e3 := O3.e }
  obtain ⟨f, fd, hm, F⟩ := flaw.ex
  have e := hfa.symm.trans hm
  cases e
  refine ⟨fd, fun s u => ?_, fun base _ _ => ?_⟩
  · obtain ⟨oc, od, kV, doc, pm, an, cdv, ct, osl, rfl, lk, hcd⟩ := F.ex
    exact .of_eq rfl
  · have RC := all_rc (P := l.prog) (w := w) (base := base) tx U
    have Ddr : Df l.prog w K mg base CX0 1 "_law_draw" spDraw := df_of (ps := ["_law_stream", "_law_many"]) f_law_draw (fun _ _ _ _ _ _ us hl => match us, hl with | [_, _], _ => rfl) fun f fd F => ok_draw F tx
    have Dpi : Df l.prog w K mg base CX0 2 "_law_pick" (spPick K) := df_of (ps := ["_law_stream", "_law_some"]) f_law_pick (fun _ _ _ _ _ _ us hl => match us, hl with | [_, _], _ => rfl) fun f fd F => ok_pick F tx Ddr
    have T0 : Df l.prog w K mg base CX0 3 "_law_thing" (spThing 0) := df_of (ps := ["_law_stream", "_law_deep"]) f_law_thing (fun _ _ _ _ _ _ us hl => match us, hl with | [_, _], _ => rfl) fun f fd F => never fun vs H Q E h => by obtain ⟨_, _, _, _, _, h1, h2, _⟩ := h; omega
    have B0 : Df l.prog w K mg base CX0 4 "_law_object" (spObject 0) := df_of (ps := ["_law_stream", "_law_deep"]) f_law_object (fun _ _ _ _ _ _ us hl => match us, hl with | [_, _], _ => rfl) fun f fd F => ok_object F tx 0 (by decide) Ddr T0
    have T1 : Df l.prog w K mg base CX0 5 "_law_thing" (spThing 1) := df_of (ps := ["_law_stream", "_law_deep"]) f_law_thing (fun _ _ _ _ _ _ us hl => match us, hl with | [_, _], _ => rfl) fun f fd F => ok_thing F tx 0 (by decide) Ddr Dpi T0 B0
    have B1 : Df l.prog w K mg base CX0 6 "_law_object" (spObject 1) := df_of (ps := ["_law_stream", "_law_deep"]) f_law_object (fun _ _ _ _ _ _ us hl => match us, hl with | [_, _], _ => rfl) fun f fd F => ok_object F tx 1 (by decide) Ddr T1
    have T2 : Df l.prog w K mg base CX0 7 "_law_thing" (spThing 2) := df_of (ps := ["_law_stream", "_law_deep"]) f_law_thing (fun _ _ _ _ _ _ us hl => match us, hl with | [_, _], _ => rfl) fun f fd F => ok_thing F tx 1 (by decide) Ddr Dpi T1 B1
    have B2 : Df l.prog w K mg base CX0 8 "_law_object" (spObject 2) := df_of (ps := ["_law_stream", "_law_deep"]) f_law_object (fun _ _ _ _ _ _ us hl => match us, hl with | [_, _], _ => rfl) fun f fd F => ok_object F tx 2 (by decide) Ddr T2
    have T3 : Df l.prog w K mg base CX0 9 "_law_thing" (spThing 3) := df_of (ps := ["_law_stream", "_law_deep"]) f_law_thing (fun _ _ _ _ _ _ us hl => match us, hl with | [_, _], _ => rfl) fun f fd F => ok_thing F tx 2 (by decide) Ddr Dpi T2 B2
    have B3 : Df l.prog w K mg base CX0 10 "_law_object" (spObject 3) := df_of (ps := ["_law_stream", "_law_deep"]) f_law_object (fun _ _ _ _ _ _ us hl => match us, hl with | [_, _], _ => rfl) fun f fd F => ok_object F tx 3 (by decide) Ddr T3
    have T4 : Df l.prog w K mg base CX0 11 "_law_thing" (spThing 4) := df_of (ps := ["_law_stream", "_law_deep"]) f_law_thing (fun _ _ _ _ _ _ us hl => match us, hl with | [_, _], _ => rfl) fun f fd F => ok_thing F tx 3 (by decide) Ddr Dpi T3 B3
    have B4 : Df l.prog w K mg base CX0 12 "_law_object" (spObject 4) := df_of (ps := ["_law_stream", "_law_deep"]) f_law_object (fun _ _ _ _ _ _ us hl => match us, hl with | [_, _], _ => rfl) fun f fd F => ok_object F tx 4 (by decide) Ddr T4
    have M0 : Df l.prog w K mg base CX0 2 "_law_made" (spMade (sel C0 C1 C2 C3) 0) := df_of (ps := ["_law_model"]) f_law_made (fun _ _ _ _ _ _ us hl => match us, hl with | [_], _ => rfl) fun f fd F => never fun vs H Q E h => by obtain ⟨_, _, _, _, h2, _⟩ := h; exact absurd h2 (Nat.not_lt_zero _)
    have M1 : Df l.prog w K mg base CX0 3 "_law_made" (spMade (sel C0 C1 C2 C3) 1) := df_of (ps := ["_law_model"]) f_law_made (fun _ _ _ _ _ _ us hl => match us, hl with | [_], _ => rfl) fun f fd F => ok_made F tx U 0 M0
    have M2 : Df l.prog w K mg base CX0 4 "_law_made" (spMade (sel C0 C1 C2 C3) 2) := df_of (ps := ["_law_model"]) f_law_made (fun _ _ _ _ _ _ us hl => match us, hl with | [_], _ => rfl) fun f fd F => ok_made F tx U 1 M1
    have M3 : Df l.prog w K mg base CX0 5 "_law_made" (spMade (sel C0 C1 C2 C3) 3) := df_of (ps := ["_law_model"]) f_law_made (fun _ _ _ _ _ _ us hl => match us, hl with | [_], _ => rfl) fun f fd F => ok_made F tx U 2 M2
    have M4 : Df l.prog w K mg base CX0 6 "_law_made" (spMade (sel C0 C1 C2 C3) 4) := df_of (ps := ["_law_model"]) f_law_made (fun _ _ _ _ _ _ us hl => match us, hl with | [_], _ => rfl) fun f fd F => ok_made F tx U 3 M3
    have M5 : Df l.prog w K mg base CX0 7 "_law_made" (spMade (sel C0 C1 C2 C3) 5) := df_of (ps := ["_law_model"]) f_law_made (fun _ _ _ _ _ _ us hl => match us, hl with | [_], _ => rfl) fun f fd F => ok_made F tx U 4 M4
    have M6 : Df l.prog w K mg base CX0 8 "_law_made" (spMade (sel C0 C1 C2 C3) 6) := df_of (ps := ["_law_model"]) f_law_made (fun _ _ _ _ _ _ us hl => match us, hl with | [_], _ => rfl) fun f fd F => ok_made F tx U 5 M5
    have M7 : Df l.prog w K mg base CX0 9 "_law_made" (spMade (sel C0 C1 C2 C3) 7) := df_of (ps := ["_law_model"]) f_law_made (fun _ _ _ _ _ _ us hl => match us, hl with | [_], _ => rfl) fun f fd F => ok_made F tx U 6 M6
    have M8 : Df l.prog w K mg base CX0 10 "_law_made" (spMade (sel C0 C1 C2 C3) 8) := df_of (ps := ["_law_model"]) f_law_made (fun _ _ _ _ _ _ us hl => match us, hl with | [_], _ => rfl) fun f fd F => ok_made F tx U 7 M7
    have G0 : Df l.prog w K mg base CX0 7 "_law_changed" (spChanged 0) := df_of (ps := ["_law_stream", "_law_model"]) f_law_changed (fun _ _ _ _ _ _ us hl => match us, hl with | [_, _], _ => rfl) fun f fd F => never fun vs H Q E h => by obtain ⟨_, _, _, _, _, _, _, _, h2, _⟩ := h; exact absurd h2 (Nat.not_lt_zero _)
    have G1 : Df l.prog w K mg base CX0 8 "_law_changed" (spChanged 1) := df_of (ps := ["_law_stream", "_law_model"]) f_law_changed (fun _ _ _ _ _ _ us hl => match us, hl with | [_, _], _ => rfl) fun f fd F => ok_changed F tx 0 Ddr T2 G0
    have G2 : Df l.prog w K mg base CX0 9 "_law_changed" (spChanged 2) := df_of (ps := ["_law_stream", "_law_model"]) f_law_changed (fun _ _ _ _ _ _ us hl => match us, hl with | [_, _], _ => rfl) fun f fd F => ok_changed F tx 1 Ddr T2 G1
    have G3 : Df l.prog w K mg base CX0 10 "_law_changed" (spChanged 3) := df_of (ps := ["_law_stream", "_law_model"]) f_law_changed (fun _ _ _ _ _ _ us hl => match us, hl with | [_, _], _ => rfl) fun f fd F => ok_changed F tx 2 Ddr T2 G2
    have G4 : Df l.prog w K mg base CX0 11 "_law_changed" (spChanged 4) := df_of (ps := ["_law_stream", "_law_model"]) f_law_changed (fun _ _ _ _ _ _ us hl => match us, hl with | [_, _], _ => rfl) fun f fd F => ok_changed F tx 3 Ddr T2 G3
    have G5 : Df l.prog w K mg base CX0 12 "_law_changed" (spChanged 5) := df_of (ps := ["_law_stream", "_law_model"]) f_law_changed (fun _ _ _ _ _ _ us hl => match us, hl with | [_, _], _ => rfl) fun f fd F => ok_changed F tx 4 Ddr T2 G4
    have G6 : Df l.prog w K mg base CX0 13 "_law_changed" (spChanged 6) := df_of (ps := ["_law_stream", "_law_model"]) f_law_changed (fun _ _ _ _ _ _ us hl => match us, hl with | [_, _], _ => rfl) fun f fd F => ok_changed F tx 5 Ddr T2 G5
    have A0 : Df l.prog w K mg base CX0 0 "_law_alike" (spAlike 0) := df_of (ps := ["_law_one", "_law_other"]) f_law_alike (fun _ _ _ _ _ _ us hl => match us, hl with | [_, _], _ => rfl) fun f fd F => never fun vs H Q E h => by obtain ⟨_, _, _, _, _, _, _, h2, _⟩ := h; exact absurd h2 (Nat.not_lt_zero _)
    have A1 : Df l.prog w K mg base CX0 1 "_law_alike" (spAlike 1) := df_of (ps := ["_law_one", "_law_other"]) f_law_alike (fun _ _ _ _ _ _ us hl => match us, hl with | [_, _], _ => rfl) fun f fd F => ok_alike F tx 0 A0
    have A2 : Df l.prog w K mg base CX0 2 "_law_alike" (spAlike 2) := df_of (ps := ["_law_one", "_law_other"]) f_law_alike (fun _ _ _ _ _ _ us hl => match us, hl with | [_, _], _ => rfl) fun f fd F => ok_alike F tx 1 A1
    have A3 : Df l.prog w K mg base CX0 3 "_law_alike" (spAlike 3) := df_of (ps := ["_law_one", "_law_other"]) f_law_alike (fun _ _ _ _ _ _ us hl => match us, hl with | [_, _], _ => rfl) fun f fd F => ok_alike F tx 2 A2
    have A4 : Df l.prog w K mg base CX0 4 "_law_alike" (spAlike 4) := df_of (ps := ["_law_one", "_law_other"]) f_law_alike (fun _ _ _ _ _ _ us hl => match us, hl with | [_, _], _ => rfl) fun f fd F => ok_alike F tx 3 A3
    have A5 : Df l.prog w K mg base CX0 5 "_law_alike" (spAlike 5) := df_of (ps := ["_law_one", "_law_other"]) f_law_alike (fun _ _ _ _ _ _ us hl => match us, hl with | [_, _], _ => rfl) fun f fd F => ok_alike F tx 4 A4
    have A6 : Df l.prog w K mg base CX0 6 "_law_alike" (spAlike 6) := df_of (ps := ["_law_one", "_law_other"]) f_law_alike (fun _ _ _ _ _ _ us hl => match us, hl with | [_, _], _ => rfl) fun f fd F => ok_alike F tx 5 A5
    have Dfi : Df l.prog w K mg base CX0 1 "_law_fields" (spFields (sel C0 C1 C2 C3)) := df_of (ps := ["_law_made_here"]) f_law_fields (fun _ _ _ _ _ _ us hl => match us, hl with | [_], _ => rfl) fun f fd F => ok_fields F tx U
    exact ok_law F tx U (RC 7) (eqf tx U (RC 6)) Ddr B4 B3 G6 A6 M8 Dfi
end K06


open PySem PySem.W PyProof.Rows
set_option pp.maxSteps 200
set_option pp.deepTerms false
set_option maxRecDepth 100000 in
set_option maxHeartbeats 0 in
theorem PySem.Challenge.cw_treequill_k06_values_compared_holds : PySem.Challenge.rw_treequill_k06_values_compared.Holds := by
  w_on; o_law; k_head; (case hw => w_witness2)
  k_fill
  refine Tq.walkG (l := PySem.Challenge.rw_treequill_k06_values_compared) (n := 63) (k := 14) (x := "_law_script") (CX := fun _ => L2.CX0) (sp := K06.spLaw) rfl (by decide) rfl ⟨rfl, by decide, by decide⟩ (fun w h Y => PySem.W.kIn_of Y) ?F
    (fun K H a ns hl _ hS => ⟨a, ns, rfl, hS, hl, fun _ => rfl⟩) (fun _ _ _ _ _ z => z)
  case F =>
    intro w mg fa h KX G hmg
    refine' K06.all06 KX G hmg ?n_int ?n_len ?n_list ?n_tuple ?n_all ?n_zip ?n_dict ?n_range ?n_isinstance (K06.one_mk KX G ?O0_a ?O0_c1 ?O0_c2 ?O0_c3 ?O0_c4 ?O0_eq_a ?O0_fn ?O0_ne ?O0_hm ?O0_b0 ?O0_b1 ?O0_b2 ?O0_b3 ?O0_b4 ?O0_ha ?O0_ty ?O0_kp ?O0_mks ?O0_l ?O0_c ?O0_k) (K06.one_mk KX G ?O1_a ?O1_c1 ?O1_c2 ?O1_c3 ?O1_c4 ?O1_eq_a ?O1_fn ?O1_ne ?O1_hm ?O1_b0 ?O1_b1 ?O1_b2 ?O1_b3 ?O1_b4 ?O1_ha ?O1_ty ?O1_kp ?O1_mks ?O1_l ?O1_c ?O1_k) (K06.one_mk KX G ?O2_a ?O2_c1 ?O2_c2 ?O2_c3 ?O2_c4 ?O2_eq_a ?O2_fn ?O2_ne ?O2_hm ?O2_b0 ?O2_b1 ?O2_b2 ?O2_b3 ?O2_b4 ?O2_ha ?O2_ty ?O2_kp ?O2_mks ?O2_l ?O2_c ?O2_k) (K06.one_mk KX G ?O3_a ?O3_c1 ?O3_c2 ?O3_c3 ?O3_c4 ?O3_eq_a ?O3_fn ?O3_ne ?O3_hm ?O3_b0 ?O3_b1 ?O3_b2 ?O3_b3 ?O3_b4 ?O3_ha ?O3_ty ?O3_kp ?O3_mks ?O3_l ?O3_c ?O3_k) ?hn ?htk ?i0 (K06.ini_mk ?i1_a ?i1_fn ?i1_l ?i1_c ?i1_k) (K06.ini_mk ?i2_a ?i2_fn ?i2_l ?i2_c ?i2_k) (K06.ini_mk ?i3_a ?i3_fn ?i3_l ?i3_c ?i3_k) ?no1_mantissa ?no1_exponent ?no2_number ?no3_numbers ?sub01 ?sub02 ?sub03 ?sub10 ?sub12 ?sub13 ?sub20 ?sub21 ?sub23 ?sub30 ?sub31 ?sub32 ?ne01 ?ne02 ?ne03 ?ne12 ?ne13 ?ne23 (Tq.fn1 KX G ?f_law_draw_a ?f_law_draw_l ?f_law_draw_c ?f_law_draw_k) (Tq.fn1 KX G ?f_law_pick_a ?f_law_pick_l ?f_law_pick_c ?f_law_pick_k) (Tq.fn1 KX G ?f_law_thing_a ?f_law_thing_l ?f_law_thing_c ?f_law_thing_k) (Tq.fn1 KX G ?f_law_object_a ?f_law_object_l ?f_law_object_c ?f_law_object_k) (Tq.fn1 KX G ?f_law_made_a ?f_law_made_l ?f_law_made_c ?f_law_made_k) (Tq.fn1 KX G ?f_law_changed_a ?f_law_changed_l ?f_law_changed_c ?f_law_changed_k) (Tq.fn1 KX G ?f_law_fields_a ?f_law_fields_l ?f_law_fields_c ?f_law_fields_k) (Tq.fn1 KX G ?f_law_alike_a ?f_law_alike_l ?f_law_alike_c ?f_law_alike_k) (Tq.fn1 KX G ?flaw_a ?flaw_l ?flaw_c ?flaw_k)
    (case O0_a => k_is)
    (case O1_a => k_is)
    (case O2_a => k_is)
    (case O3_a => k_is)
    (case O0_eq_a => k_is)
    (case O1_eq_a => k_is)
    (case O2_eq_a => k_is)
    (case O3_eq_a => k_is)
    (case i1_a => k_is)
    (case i2_a => k_is)
    (case i3_a => k_is)
    (case f_law_draw_a => k_is)
    (case f_law_pick_a => k_is)
    (case f_law_thing_a => k_is)
    (case f_law_object_a => k_is)
    (case f_law_made_a => k_is)
    (case f_law_changed_a => k_is)
    (case f_law_fields_a => k_is)
    (case f_law_alike_a => k_is)
    (case flaw_a => k_is)
    (case n_int => k_is)
    (case n_len => k_is)
    (case n_list => k_is)
    (case n_tuple => k_is)
    (case n_all => k_is)
    (case n_zip => k_is)
    (case n_dict => k_is)
    (case n_range => k_is)
    (case n_isinstance => k_is)
    (case O0_c1 => k_is)
    (case O0_c2 => k_is)
    (case O0_c3 => k_is)
    (case O0_c4 => k_is)
    (case O0_fn => k_is)
    (case O0_ne => k_is)
    (case O0_hm => k_is)
    (case O0_b0 => k_is)
    (case O0_b1 => k_is)
    (case O0_b2 => k_is)
    (case O0_b3 => k_is)
    (case O0_b4 => k_is)
    (case O0_ha => k_is)
    (case O0_ty => k_is)
    (case O0_kp => k_is)
    (case O0_mks => k_is)
    (case O0_l => k_is)
    (case O0_c => k_is)
    (case O0_k => k_is)
    (case O1_c1 => k_is)
    (case O1_c2 => k_is)
    (case O1_c3 => k_is)
    (case O1_c4 => k_is)
    (case O1_fn => k_is)
    (case O1_ne => k_is)
    (case O1_hm => k_is)
    (case O1_b0 => k_is)
    (case O1_b1 => k_is)
    (case O1_b2 => k_is)
    (case O1_b3 => k_is)
    (case O1_b4 => k_is)
    (case O1_ha => k_is)
    (case O1_ty => k_is)
    (case O1_kp => k_is)
    (case O1_mks => k_is)
    (case O1_l => k_is)
    (case O1_c => k_is)
    (case O1_k => k_is)
    (case O2_c1 => k_is)
    (case O2_c2 => k_is)
    (case O2_c3 => k_is)
    (case O2_c4 => k_is)
    (case O2_fn => k_is)
    (case O2_ne => k_is)
    (case O2_hm => k_is)
    (case O2_b0 => k_is)
    (case O2_b1 => k_is)
    (case O2_b2 => k_is)
    (case O2_b3 => k_is)
    (case O2_b4 => k_is)
    (case O2_ha => k_is)
    (case O2_ty => k_is)
    (case O2_kp => k_is)
    (case O2_mks => k_is)
    (case O2_l => k_is)
    (case O2_c => k_is)
    (case O2_k => k_is)
    (case O3_c1 => k_is)
    (case O3_c2 => k_is)
    (case O3_c3 => k_is)
    (case O3_c4 => k_is)
    (case O3_fn => k_is)
    (case O3_ne => k_is)
    (case O3_hm => k_is)
    (case O3_b0 => k_is)
    (case O3_b1 => k_is)
    (case O3_b2 => k_is)
    (case O3_b3 => k_is)
    (case O3_b4 => k_is)
    (case O3_ha => k_is)
    (case O3_ty => k_is)
    (case O3_kp => k_is)
    (case O3_mks => k_is)
    (case O3_l => k_is)
    (case O3_c => k_is)
    (case O3_k => k_is)
    (case hn => k_is)
    (case htk => k_is)
    (case i0 => k_is)
    (case i1_fn => k_is)
    (case i1_l => k_is)
    (case i1_c => k_is)
    (case i1_k => k_is)
    (case i2_fn => k_is)
    (case i2_l => k_is)
    (case i2_c => k_is)
    (case i2_k => k_is)
    (case i3_fn => k_is)
    (case i3_l => k_is)
    (case i3_c => k_is)
    (case i3_k => k_is)
    (case no1_mantissa => k_is)
    (case no1_exponent => k_is)
    (case no2_number => k_is)
    (case no3_numbers => k_is)
    (case sub01 => k_is)
    (case sub02 => k_is)
    (case sub03 => k_is)
    (case sub10 => k_is)
    (case sub12 => k_is)
    (case sub13 => k_is)
    (case sub20 => k_is)
    (case sub21 => k_is)
    (case sub23 => k_is)
    (case sub30 => k_is)
    (case sub31 => k_is)
    (case sub32 => k_is)
    (case f_law_draw_l => k_is)
    (case f_law_draw_c => k_is)
    (case f_law_draw_k => k_is)
    (case f_law_pick_l => k_is)
    (case f_law_pick_c => k_is)
    (case f_law_pick_k => k_is)
    (case f_law_thing_l => k_is)
    (case f_law_thing_c => k_is)
    (case f_law_thing_k => k_is)
    (case f_law_object_l => k_is)
    (case f_law_object_c => k_is)
    (case f_law_object_k => k_is)
    (case f_law_made_l => k_is)
    (case f_law_made_c => k_is)
    (case f_law_made_k => k_is)
    (case f_law_changed_l => k_is)
    (case f_law_changed_c => k_is)
    (case f_law_changed_k => k_is)
    (case f_law_fields_l => k_is)
    (case f_law_fields_c => k_is)
    (case f_law_fields_k => k_is)
    (case f_law_alike_l => k_is)
    (case f_law_alike_c => k_is)
    (case f_law_alike_k => k_is)
    (case flaw_l => k_is)
    (case flaw_c => k_is)
    (case flaw_k => k_is)
    (case ne01 => first | decide | (intro z; simp at z))
    (case ne02 => first | decide | (intro z; simp at z))
    (case ne03 => first | decide | (intro z; simp at z))
    (case ne12 => first | decide | (intro z; simp at z))
    (case ne13 => first | decide | (intro z; simp at z))
    (case ne23 => first | decide | (intro z; simp at z))
