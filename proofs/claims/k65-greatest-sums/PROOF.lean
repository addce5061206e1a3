import PyProof.Rows.All
import Wide.All
import OpenK.AllK
import Wide.FinOn
import HandS.ForMost
import HandS.ForExc
import HandS.Defaults
import HandS.HeadEnd
import PyProof.ReprRoads
import HandS.Wide
import HandS.TupAny
import HandS.Conv
import HandS.Zip
import HandS.IsInst
import HandS.SortRule
import HandS.SortInts
import HandS.TupSets
import HandS.Style
import HandS.TupMul
import HandS.Deep
import HandS.Text
import HandS.HeadHook1
import HandS.HeadHook2
import HandS.Head0
import HandS.Head1
import HandS.Head2
import HandS.ExcIs
import KE.SortData
import KE.KStateDown
import HandS.Small
import PyProof.ExcBaseAll.ValueError
import HandS.ExcOwn
import HandS.SetFor
import HandS.Strs
import HandS.HeadHook4
import PySem.Challenge.RW_countlaw_k65_greatest_sums
set_option linter.all false
set_option Elab.async false
set_option maxRecDepth 100000
set_option maxHeartbeats 2000000
/-! Guards, part 1: defs that run where nothing is being shown (so they may ask for repr). -/
namespace L2
open PySem PySem.Spec PyProof.Rows
namespace DL
/-- as FnOk, where no guard is up -/
structure FnG (P : Program) (w : World) (K : PySem.W.Frag) (mg : Str → Option Value) (base : Heap) (CX : CXT) (k : Nat) (f : Addr) (fd : FuncData) (ps : List Str) (sp : Sp) : Prop where
  size : ∀ vs H Q E, sp vs H Q E → vs.length = ps.length
  go : ∀ (A : Around) (outer : List Env) (s : Shared) (H : Hp) (args : Args) (us : List Value) (vs : List V) (Q : VK) (E : XK), A.guards = some [] → Room k A →
    Env0 P w K mg base A outer s H → BindsTo s fd args (ps.zip us) → Vals vs us → sp vs H Q E → codeAny (model P w) A (.call (.ref f) args) (CR CX outer P w H s Q E) s
section
variable {P : Program} {w : World} {K : PySem.W.Frag} {mg : Str → Option Value} {base : Heap} {CX : CXT} {j k : Nat} {f : Addr} {fd : FuncData} {ps : List Str} {sp : Sp}
theorem FnG.mono (F : FnG P w K mg base CX j f fd ps sp) (h : j ≤ k) : FnG P w K mg base CX k f fd ps sp :=
  ⟨F.size, fun A outer s H args us vs Q E g r => F.go A outer s H args us vs Q E g (r.mono h)⟩
theorem FnG.of (F : FnOk P w K mg base CX k f fd ps sp) : FnG P w K mg base CX k f fd ps sp :=
  ⟨F.len, fun A outer s H args us vs Q E _ => F.run A outer s H args us vs Q E⟩
end
section
variable {X : Cx} {CX : CXT} {k : Nat} {f : Addr} {fd : FuncData} {ps : List Str} {sp : Sp} {E : XK} {x : Str} {p pos : Pos} {e : Expr} {es : List Expr} {t : TA}
theorem FnG.runs (F : FnG X.prog X.w X.K X.mg X.base CX k f fd ps sp) (g : X.A.guards = some []) (hr : Room k X.A) (hb : Binds X.K fd ps []) (hx : Passes CX X E)
    {pins : List (Addr × Obj)} {σ : St} {H : Hp} {s : Shared} {Q : VK} {us : List Value} {vs : List V} (I : Inv X pins σ H s) (rv : Vals vs us) (h : sp vs H Q E) :
    wpAny (model X.prog X.w) X.A (call (.ref f) us) (EP X pins σ Q) X.xe s := by
  have size : us.length = ps.length := rv.length.symm.trans (F.size _ _ _ _ h)
  have bt := hb s us I.kIn (by rw [List.append_nil]; exact size)
  rw [List.append_nil] at bt
  refine wpAny_call (codeAny_mono (F.go X.A X.stack s H ⟨us, []⟩ us vs Q E g hr I.env0 bt rv h) fun r s' q => ?_)
  rcases r with e' | fl
  · exact hx pins σ H s _ s' I q
  · cases fl with
    | ret u => exact I.after q
    | next => exact q.elim
    | brk => exact q.elim
    | cont => exact q.elim
theorem pe_callG (F : FnG X.prog X.w X.K X.mg X.base CX k f fd ps sp) (g : X.A.guards = some []) (hr : Room k X.A) (hg : Gl X x) (hm : X.mg x = some (.ref f)) (hk : PySem.W.keepIn X.K (.ref f) = true) (hb : Binds X.K fd ps []) (hx : Passes CX X E)
    (ha : PA X (e :: es) t) (hdb : (x == ("__debug__" : Str)) = false) (he : starEach (e :: es) X.env = (false, eval e X.env) :: starEach es X.env) (hpl : (backTo pos (starEach es X.env)).any (·.1) = false) :
    PE X (.Call (.Name x p) (e :: es) [] pos) (tCall sp [] E t) := by
  constructor
  intro pins s σ H Q I h
  refine wpAny_Call_Name_kw (ld_glob I hg hm (PySem.W.callWith_K (h₀ := X.base) I.ok.mod.kin hk ?_ he hpl) hdb)
  refine thn (ha.run pos pins s σ H _ I h) fun us s1 ⟨vs, H1, I1, rv, q⟩ => ⟨I1.kIn, ?_⟩
  have q : sp (vs ++ []) H1 Q E := q
  rw [List.append_nil] at q
  exact F.runs g hr hb hx I1 rv q
theorem pe_call0G (F : FnG X.prog X.w X.K X.mg X.base CX k f fd ps sp) (g : X.A.guards = some []) (hr : Room k X.A) (hg : Gl X x) (hm : X.mg x = some (.ref f)) (hk : PySem.W.keepIn X.K (.ref f) = true) (hb : Binds X.K fd ps []) (hx : Passes CX X E)
    (hdb : (x == ("__debug__" : Str)) = false) : PE X (.Call (.Name x p) [] [] pos) (tCall sp [] E tNil) := by
  constructor
  intro pins s σ H Q I h
  exact wpAny_Call_Name_kw (ld_glob I hg hm (PySem.W.callWith_K0 I.kIn hk (F.runs (us := []) g hr hb hx I .nil h)) hdb)
end
section
variable {P : Program} {w : World} {K : PySem.W.Frag} {mg : Str → Option Value} {base : Heap} {x qual : Str} {params : Arguments} {body : List Stmt} {scope : Scope} {dvs : List V} {kws : List (Str × V)} {f : Addr} {fd : FuncData}
/-- the rule for a def, where no guard is up -/
theorem okG {CX : CXT} {N ps : List Str} {k : Nat} {sp : Sp} (F : FunD K x qual params body scope dvs kws f fd) (S : FnScope N ps scope) (len : ∀ vs H Q E, sp vs H Q E → vs.length = ps.length)
    (hbody : ∀ (cdv : Value) (A : Around) (outer : List Env) (s : Shared) (H : Hp) (vs : List V) (Q : VK) (E : XK), A.guards = some [] → Room k (A.deeper (envOfC qual scope s.heap.objs.size f cdv)) → sp vs H Q E →
      ∃ t, PSs (cxOf CX P w K mg base N qual scope f cdv A outer s H E) body t ∧ t { nx := fun _ H' => Q .non H', rt := Q } (start N vs) H) : FnG P w K mg base CX (k + 1) f fd ps sp := by
  obtain ⟨_, _, dV, kV, doc, pm, an, cdv, ct, _, rfl, lk, hcd, _⟩ := F.ex
  refine ⟨len, fun A outer s H args us vs Q E g room env binds rv hsp => ?_⟩
  have many : vs.length = ps.length := len vs H Q E hsp
  have old : ∀ b o, base.get? b = some o → s.heap.get? b = some o := fun b o q => (env.bs b o q).1
  have kin : K.In s.heap := PySem.W.Frag.In.keeps env.mod.kin old
  have par : ∀ y ∈ ps.zip us, scope.names.lookup y.1 = some .local ∨ (scope.names.lookup y.1 = some .cell ∧ ((cellsFrom (s.heap.objs.size + 1) scope.names []).lookup y.1).isSome = true) := by
    rintro ⟨n, u⟩ hy
    exact (S.par n (List.of_mem_zip hy).1).imp id fun q => ⟨q, PySem.W.cellsFrom_some _ _ _ (.inl q)⟩
  refine codeAny_call_function room.depth (kin _ _ lk) rfl S.co S.gen rfl (PySem.W.codeRec_of kin hcd) (binds _ _ _ _ (wpAny_newFunctionEnv_cells S.kind par fun env' he s1 made => ?_))
  subst he
  refine ⟨(env.mod.nolimit.keeps old).keeps made.toInCall.keep, codeAny_func ?_⟩
  obtain ⟨t, runs, wish⟩ := hbody cdv A outer s H vs Q E g (room.deeper _) hsp
  refine wpAny_mono (runs.run [] s1 (start N vs) H _ (inv_start S room.hd env many rv made) wish) (fun fl s' hs => ?_) fun _ _ hs => hs
  cases fl with
  | ret u =>
    obtain ⟨v, _, H', J, r, q⟩ := hs
    exact ⟨v, H', J.os, J.bare, J.base, J.hok, r, q⟩
  | next =>
    obtain ⟨_, H', J, q⟩ := hs
    exact ⟨.non, H', J.os, J.bare, J.base, J.hok, rfl, q⟩
  | brk =>
    obtain ⟨_, _, _, q⟩ := hs
    exact q.elim
  | cont =>
    obtain ⟨_, _, _, q⟩ := hs
    exact q.elim
end
/-! ### the head -/
/-- the law's call, from an abstract heap that tracks at most the script -/
theorem law_coreG {P : Program} {w : World} {K : PySem.W.Frag} {mg mb : Str → Option Value} {CX : CXT} {k : Nat} {fa a : Addr} {fd : FuncData} {x : Str} {sp : Sp} {s₁ : Shared} {vs : List Value} {ns : List Int} {H : Hp}
    (kin : K.In s₁.heap) (gm : s₁.heap.Ns mainGlobals mg) (gb : s₁.heap.Ns builtinsNs mb) (boot : ∀ x : Str, x ≠ "__name__" → mb x = bootBuiltins x) (lim : s₁.heap.NoLimit) (gens : s₁.gens = #[])
    (at_ : s₁.heap.get? a = some { cls := .type "list", data := .seq vs.toArray }) (room : Room k callerA)
    (F : ∀ base : Heap, K.In base → base.Ns mainGlobals mg → FnG P w K mg base CX k fa fd [x] sp) (binds : ∀ (s : Shared) (u : Value), BindsTo s fd ⟨[u], []⟩ [(x, u)])
    (wish : sp [.ref a] H (fun v _ => v = .bl true) fun _ _ _ => False) (noX : ∀ H e s', CX [] H s₁ (fun _ _ _ => False) e s' → False)
    (only : Only H) (hok : HOk P w H s₁.heap) (just : ∀ b, H b ≠ none → b = a) (free : H a ≠ none → K.lookup a = none) :
    codeAny (model P w) callerA (.call (.ref fa) ⟨[.ref a], []⟩) (fun r s' => r = .ok (.ret (.bool true)) ∧ OldK s₁.heap s'.heap ∧ s'.os = s₁.os ∧ AllBare s'.gens) s₁ := by
  have nil : ∀ b : Addr, b ∉ ([] : List Addr) := fun b => List.not_mem_nil
  have dicts : ∀ {b : Addr} {m : Str → Option Value}, s₁.heap.Ns b m → (hidT s₁.heap H).Ns b m := by
    rintro b m ⟨o, es, ep, e, d, r⟩
    refine ⟨o, es, ep, hidT_get e ?_, d, r⟩
    by_cases q : H b = none
    · exact q
    · rw [just b q, at_] at e
      cases e
      cases d
  have kinT : K.In (hidT s₁.heap H) := fun b o e => hidT_get (kin b o e) (by
    by_cases q : H b = none
    · exact q
    · have := free (by rw [← just b q]; exact q)
      rw [just b q, this] at e
      cases e)
  obtain ⟨mc, l1, l2⟩ := lim
  have env : Env0 P w K mg (hidT s₁.heap H) callerA [] s₁ H := ⟨rfl, ⟨kinT, dicts gm, ⟨mb, dicts gb, boot⟩, ⟨mc, dicts l1, l2⟩⟩, fun _ _ e => of_hidT e, (hidT_size _ _).symm ▸ Nat.le_refl _, trivial, fun b z => (nil b z).elim, hok, .of_eq gens⟩
  refine codeAny_mono ((F _ kinT (dicts gm)).go callerA [] s₁ H ⟨[.ref a], []⟩ [.ref a] [.ref a] _ _ rfl room env (binds s₁ (.ref a)) (.cons rfl .nil) wish) fun r s' h => ?_
  rcases r with e | fl
  · exact (noX H _ s' h).elim
  · cases fl with
    | ret u =>
      obtain ⟨v, H', os, bare, un, hok', rv, q⟩ := h
      have q : v = .bl true := q
      subst q
      have rv : u = Value.bool true := rv
      subst rv
      refine ⟨rfl, OldK.of_keep fun b o e => ?_, os, bare⟩
      rcases only b with z | ⟨ob, xs, z⟩
      · exact un.keep b o e z (nil b) (nil b)
      · have h1 := (hok b _ z).1
        rw [e] at h1
        rw [Option.some.inj h1]
        exact (hok' b _ (un.frzs b ob _ z)).1
    | next => exact h.elim
    | brk => exact h.elim
    | cont => exact h.elim
theorem law_callG {P : Program} {w : World} {K : PySem.W.Frag} {mg mb : Str → Option Value} {CX : CXT} {k : Nat} {fa a : Addr} {fd : FuncData} {x : Str} {sp : Sp} {s₁ : Shared} {vs : List Value} {ns : List Int}
    (kin : K.In s₁.heap) (gm : s₁.heap.Ns mainGlobals mg) (gb : s₁.heap.Ns builtinsNs mb) (boot : ∀ x : Str, x ≠ "__name__" → mb x = bootBuiltins x) (lim : s₁.heap.NoLimit) (gens : s₁.gens = #[])
    (at_ : s₁.heap.get? a = some { cls := .type "list", data := .seq vs.toArray }) (il : IntsAre vs ns) (hl : ns.length ≤ sizeLine) (room : Room k callerA)
    (F : ∀ base : Heap, K.In base → base.Ns mainGlobals mg → FnG P w K mg base CX k fa fd [x] sp) (binds : ∀ (s : Shared) (u : Value), BindsTo s fd ⟨[u], []⟩ [(x, u)])
    (wish : ∀ H : Hp, Only H → SqL K H a (ns.map V.int) → sp [.ref a] H (fun v _ => v = .bl true) fun _ _ _ => False) (noX : ∀ H e s', CX [] H s₁ (fun _ _ _ => False) e s' → False) :
    codeAny (model P w) callerA (.call (.ref fa) ⟨[.ref a], []⟩) (fun r s' => r = .ok (.ret (.bool true)) ∧ OldK s₁.heap s'.heap ∧ s'.os = s₁.os ∧ AllBare s'.gens) s₁ := by
  have rel := vals_ints il
  cases look : K.lookup a with
  | none =>
    let T : Hp := fun b => if b = a then some (.frz { cls := .type "list", data := .seq vs.toArray } (.lst (ns.map V.int))) else none
    have Ta : T a = some (.frz { cls := .type "list", data := .seq vs.toArray } (.lst (ns.map V.int))) := if_pos rfl
    have Tn : ∀ b, b ≠ a → T b = none := fun b h => if_neg h
    have only : Only T := fun b => by
      by_cases h : b = a
      · subst h
        exact .inr ⟨_, _, Ta⟩
      · exact .inl (Tn b h)
    refine law_coreG (ns := ns) kin gm gb boot lim gens at_ room F binds (wish T only (.inl (.inr ⟨_, Ta⟩))) noX only (fun b u z => ?_) (fun b z => ?_) fun _ => look
    · by_cases h : b = a
      · subst h
        rw [Ta] at z
        cases z
        exact ⟨at_, by rw [List.length_map]; exact hl, vs, _, rel, at_⟩
      · rw [Tn b h] at z
        cases z
    · by_cases h : b = a
      · exact h
      · exact absurd (Tn b h) z
  | some o =>
    have same := kin a o look
    rw [at_] at same
    cases same
    have seq : SqL K (fun _ => none) a (ns.map V.int) := .inr ⟨_, vs.toArray, _, look, rfl, rfl, rfl, by rw [List.size_toArray, il.length]; exact hl, by simpa using rel⟩
    exact law_coreG (ns := ns) kin gm gb boot lim gens at_ room F binds (wish _ (fun _ => .inl rfl) seq) noX (fun _ => .inl rfl) (fun b u z => nomatch z) (fun b z => absurd rfl z) fun z => absurd rfl z
/-! ### repr -/
/-- repr(e) of a list or a tuple of plain data -/
def rRepr (K : PySem.W.Frag) : List V → Hp → VK → Prop := fun xs H Q => ∃ (a : Addr) (d : PyData), xs = [.ref a] ∧ Dp K H (.ref a) d ∧ d.showable = true ∧ d.hasDict = false ∧ d.depth ≤ 60 ∧ d.shown.length ≤ sizeLine ∧ Q (.str d.shown) H
theorem call_repr {X : Cx} (g : X.A.guards = some []) (hu : X.A.units + 64 < cLine) : CallR X (.builtin "repr") (rRepr X.K) := by
  intro pins s σ H xs us Q I r h
  obtain ⟨a, d, rfl, hd, hs, hn, dp, hz, q⟩ := h
  cases r with
  | cons ra rr =>
    cases rr
    cases ra
    obtain ⟨as, rd⟩ := Dp.reads I d (.ref a) (.ref a) hd rfl
    exact repr_of_reads' rd hs (fun z => by rw [hn] at z; cases z) g (by omega) (fun b o e => e) (fun h' u tk hk => ⟨.str d.shown, H, I.kept (t' := tk) hk, ⟨u, rfl⟩, q⟩) hz
end DL
end L2
set_option Elab.async false
set_option maxRecDepth 100000
set_option maxHeartbeats 1000000
/-! The data layer, part 1: slots that hold data, the invariant, operands. -/
namespace L2
open PySem PySem.Spec PyProof.Rows
namespace DL

abbrev D := PyData
/-- what is known of a name's slot: nothing; frozen data; a list or dict of its own; one handed in to be changed -/
inductive Sl where
  | un
  | val (d : D)
  | own (d : D)
  | io (d : D)
abbrev SD := List Sl
abbrev XW := Str → Prop
/-- what an expression gives: frozen data; or a new list or dict that nobody else has -/
inductive Rv where
  | d (x : D)
  | f (x : D)
abbrev WE := XW → SD → (Rv → SD → Prop) → Prop
abbrev WT := XW → SD → (Bool → SD → Prop) → Prop
structure EndsD where
  nx : SD → Prop
  rt : Rv → SD → Prop
  bk : SD → Prop := fun _ => False
  ct : SD → Prop := fun _ => False
abbrev WS := XW → EndsD → SD → Prop

abbrev Grow (F F' : Hp) : Prop := ∀ a o, F a = some o → F' a = some o
theorem Grow.refl (F : Hp) : Grow F F := fun _ _ h => h
theorem Grow.trans {F G J : Hp} (a : Grow F G) (b : Grow G J) : Grow F J := fun c o h => b c o (a c o h)
theorem Grow.rd {F F' : Hp} (g : Grow F F') {a : Addr} {u : HO} (r : Rd F a u) : Rd F' a u := by
  rcases r with r | ⟨o, r⟩
  · exact .inl (g _ _ r)
  · exact .inr ⟨o, g _ _ r⟩
section
variable {K : PySem.W.Frag} {F F' H H' : Hp}
theorem Grow.sql (g : Grow F F') {a : Addr} {xs : List V} (h : SqL K F a xs) : SqL K F' a xs := by
  rcases h with h | h
  · exact .inl (g.rd h)
  · exact .inr h
theorem Grow.sqt (g : Grow F F') {a : Addr} {xs : List V} (h : SqT K F a xs) : SqT K F' a xs := by
  rcases h with h | h
  · exact .inl (g.rd h)
  · exact .inr h
mutual
theorem dp_mono (g : Grow F F') : ∀ {v : V} {d : D}, Dp K F v d → Dp K F' v d
  | _, _, .non => .non
  | _, _, .bl b => .bl b
  | _, _, .int i => .int i
  | _, _, .str x => .str x
  | _, _, .lst h hs => .lst (g.sql h) (dpa_mono g hs)
  | _, _, .tup h hs => .tup (g.sqt h) (dpa_mono g hs)
theorem dpa_mono (g : Grow F F') : ∀ {vs : List V} {ds : List D}, DpAll K F vs ds → DpAll K F' vs ds
  | _, _, .nil => .nil
  | _, _, .cons h t => .cons (dp_mono g h) (dpa_mono g t)
end
theorem dpa_len : ∀ {vs : List V} {ds : List D}, DpAll K F vs ds → vs.length = ds.length
  | _, _, .nil => rfl
  | _, _, .cons _ t => by rw [List.length_cons, List.length_cons, dpa_len t]
theorem dpa_get : ∀ {vs : List V} {ds : List D} {i : Nat} {d : D}, DpAll K F vs ds → ds[i]? = some d → ∃ v, vs[i]? = some v ∧ Dp K F v d
  | _, _, _, _, .nil, h => by simp at h
  | _, _, 0, d, .cons h t, e => by
    simp at e
    subst e
    exact ⟨_, rfl, h⟩
  | _, _, i + 1, d, .cons h t, e => by
    obtain ⟨v, h1, h2⟩ := dpa_get (i := i) (d := d) t (by simpa using e)
    exact ⟨v, by simpa using h1, h2⟩
theorem dpa_get' : ∀ {vs : List V} {ds : List D} {i : Nat} {v : V}, DpAll K F vs ds → vs[i]? = some v → ∃ d, ds[i]? = some d ∧ Dp K F v d
  | _, _, _, _, .nil, h => by simp at h
  | _, _, 0, v, .cons h t, e => by
    simp at e
    subst e
    exact ⟨_, rfl, h⟩
  | _, _, i + 1, v, .cons h t, e => by
    obtain ⟨d, h1, h2⟩ := dpa_get' (i := i) (v := v) t (by simpa using e)
    exact ⟨d, by simpa using h1, h2⟩
theorem dpa_app : ∀ {vs us : List V} {ds es : List D}, DpAll K F vs ds → DpAll K F us es → DpAll K F (vs ++ us) (ds ++ es)
  | _, _, _, _, .nil, h => h
  | _, _, _, _, .cons h t, s => .cons h (dpa_app t s)
theorem dpa_take : ∀ {vs : List V} {ds : List D} (n : Nat), DpAll K F vs ds → DpAll K F (vs.take n) (ds.take n)
  | _, _, 0, _ => by simpa using DpAll.nil
  | _, _, _ + 1, .nil => by simpa using DpAll.nil
  | _, _, n + 1, .cons h t => .cons h (dpa_take n t)
theorem dpa_drop : ∀ {vs : List V} {ds : List D} (n : Nat), DpAll K F vs ds → DpAll K F (vs.drop n) (ds.drop n)
  | _, _, 0, h => h
  | _, _, _ + 1, .nil => .nil
  | _, _, n + 1, .cons h t => dpa_drop n t
theorem dpa_set : ∀ {vs : List V} {ds : List D} (n : Nat) {v : V} {d : D}, DpAll K F vs ds → Dp K F v d → DpAll K F (vs.set n v) (ds.set n d)
  | _, _, _, _, _, .nil, _ => .nil
  | _, _, 0, _, _, .cons h t, r => .cons r t
  | _, _, n + 1, _, _, .cons h t, r => .cons h (dpa_set n t r)
theorem dpa_erase : ∀ {vs : List V} {ds : List D} (n : Nat), DpAll K F vs ds → DpAll K F (vs.eraseIdx n) (ds.eraseIdx n)
  | _, _, _, .nil => .nil
  | _, _, 0, .cons h t => t
  | _, _, n + 1, .cons h t => .cons h (dpa_erase n t)
theorem dpa_dropLast {vs : List V} {ds : List D} (h : DpAll K F vs ds) : DpAll K F vs.dropLast ds.dropLast := by
  rw [List.dropLast_eq_take, List.dropLast_eq_take, dpa_len h]
  exact dpa_take _ h
theorem dpa_rev : ∀ {vs : List V} {ds : List D}, DpAll K F vs ds → DpAll K F vs.reverse ds.reverse
  | _, _, .nil => by simpa using DpAll.nil
  | _, _, .cons h t => by
    rw [List.reverse_cons, List.reverse_cons]
    exact dpa_app (dpa_rev t) (.cons h .nil)
theorem dpa_nil {vs : List V} (h : DpAll K F vs []) : vs = [] := by cases h; rfl
end

def keyD : Key → D
  | .inl i => .int i
  | .inr s => .str s
theorem keyD_inj {a b : Key} (h : keyD a = keyD b) : a = b := by
  cases a <;> cases b <;> simp [keyD] at h <;> simp [h]
def keyT (ks : List Key) : D := .tuple (ks.map keyD)

/-- what stands at a, its parts frozen; a dict whose keys are tuples is told with a pair of Nones ahead -/
def OwnAt (K : PySem.W.Frag) (F H : Hp) (a : Addr) : D → Prop
  | .list ds => ∃ vs, H a = some (.lst vs) ∧ DpAll K F vs ds
  | .dict kvs => (∃ es : List (Key × V), H a = some (.dK es) ∧ Paired (fun (p : Key × V) (q : D × D) => q.1 = keyD p.1 ∧ Dp K F p.2 q.2) es kvs) ∨
      ∃ (es : List (List Key × V)) (r : List (D × D)), kvs = (.none, .none) :: r ∧ H a = some (.dT es) ∧ Paired (fun (p : List Key × V) (q : D × D) => q.1 = keyT p.1 ∧ Dp K F p.2 q.2) es r
  | _ => False
theorem OwnAt.mono {K : PySem.W.Frag} {F F' H H' : Hp} {a : Addr} (g : Grow F F') (e : H' a = H a) : ∀ {d : D}, OwnAt K F H a d → OwnAt K F' H' a d
  | .list ds, ⟨vs, h1, h2⟩ => ⟨vs, e.trans h1, dpa_mono g h2⟩
  | .dict kvs, h => by
    rcases h with ⟨es, h1, h2⟩ | ⟨es, r, h0, h1, h2⟩
    · exact .inl ⟨es, e.trans h1, Paired.mapP h2 fun _ _ z => ⟨z.1, dp_mono g z.2⟩⟩
    · exact .inr ⟨es, r, h0, e.trans h1, Paired.mapP h2 fun _ _ z => ⟨z.1, dp_mono g z.2⟩⟩
theorem OwnAt.some {K : PySem.W.Frag} {F H : Hp} {a : Addr} : ∀ {d : D}, OwnAt K F H a d → ∃ o, H a = some o ∧ ∀ xs, o ≠ .tup xs
  | .list ds, ⟨vs, h1, h2⟩ => ⟨_, h1, fun _ z => by cases z⟩
  | .dict kvs, h => by
    rcases h with ⟨es, h1, h2⟩ | ⟨es, r, h0, h1, h2⟩
    · exact ⟨_, h1, fun _ z => by cases z⟩
    · exact ⟨_, h1, fun _ z => by cases z⟩

/-- the entry of a def's run: heap, frozen part, the parameters that may be changed (slot, place); T: what stands meanwhile -/
structure Bs where
  H0 : Hp
  F0 : Hp
  ps : List (Nat × Addr)
  T : List (Addr × HO)
abbrev Bs.io (b : Bs) : List Addr := b.ps.map (·.2)

structure Ext (b : Bs) (F H : Hp) : Prop where
  sub : Grow F H
  old : ∀ a, b.H0 a ≠ none → F a = b.F0 a
  keep : ∀ a o, b.H0 a = some o → a ∉ b.io → H a = some o
  trk : ∀ a, b.H0 a ≠ none → H a ≠ none

def SlR (K : PySem.W.Frag) (b : Bs) (F H : Hp) (o : Option V) : Sl → Prop
  | .un => True
  | .val d => ∃ v, o = some v ∧ Dp K F v d
  | .own d => ∃ a, o = some (.ref a) ∧ F a = none ∧ b.H0 a = none ∧ OwnAt K F H a d
  | .io d => ∃ a, o = some (.ref a) ∧ F a = none ∧ a ∈ b.io ∧ OwnAt K F H a d

/-- the slot i holds an object at a that may be changed -/
def OA (σ : St) (σd : SD) (i : Nat) (a : Addr) : Prop := σ[i]? = some (some (.ref a)) ∧ ∃ d, σd[i]? = some (.own d) ∨ σd[i]? = some (.io d)

structure Iv (K : PySem.W.Frag) (b : Bs) (F H : Hp) (σ : St) (σd : SD) : Prop extends Ext b F H where
  len : σd.length = σ.length
  sl : ∀ (i : Nat) (o : Option V) (s : Sl), σ[i]? = some o → σd[i]? = some s → SlR K b F H o s
  apart : ∀ (i j : Nat) (a : Addr), OA σ σd i a → OA σ σd j a → i = j
  par : ∀ p ∈ b.ps, σ[p.1]? = some (some (.ref p.2)) ∧ ∃ d, σd[p.1]? = some (.io d)
  tmp : ∀ p ∈ b.T, H p.1 = some p.2 ∧ F p.1 = none ∧ b.H0 p.1 = none ∧ ∀ i a, OA σ σd i a → a ≠ p.1

section
variable {K : PySem.W.Frag} {b : Bs} {F F' H H' : Hp} {σ σ' : St} {σd σd' : SD}
theorem Iv.get (I : Iv K b F H σ σd) {i : Nat} {s : Sl} (h : σd[i]? = some s) : ∃ o, σ[i]? = some o ∧ SlR K b F H o s := by
  have hi : i < σ.length := by
    rw [← I.len]
    exact (List.getElem?_eq_some_iff.mp h).1
  exact ⟨σ[i], List.getElem?_eq_getElem hi, I.sl i _ _ (List.getElem?_eq_getElem hi) h⟩
theorem Iv.val (I : Iv K b F H σ σd) {i : Nat} {d : D} (h : σd[i]? = some (.val d)) : ∃ v, σ[i]? = some (some v) ∧ Dp K F v d := by
  obtain ⟨o, e, v, rfl, r⟩ := I.get h
  exact ⟨v, e, r⟩
/-- a step that leaves the slots: all own objects stand, the frozen part grows by new places -/
theorem Iv.step (I : Iv K b F H σ σd) (g : Grow F F') (sub : Grow F' H') (new : ∀ a, H a ≠ none → F' a = F a) (keep : ∀ a o, H a = some o → H' a = some o) : Iv K b F' H' σ σd := by
  have ne : ∀ a, b.H0 a ≠ none → H a ≠ none := I.trk
  have kp : ∀ a, H a ≠ none → H' a = H a := fun a h => by
    cases e : H a with
    | none => exact absurd e h
    | some o => exact keep a o e
  refine ⟨⟨sub, fun a h => (new a (ne a h)).trans (I.old a h), fun a o h hi => keep a o (I.keep a o h hi), fun a h => by rw [kp a (ne a h)]; exact ne a h⟩, I.len, fun i o s h1 h2 => ?_, I.apart, I.par, fun p hp => ?_⟩
  · have r := I.sl i o s h1 h2
    cases s with
    | un => trivial
    | val d =>
      obtain ⟨v, e, r⟩ := r
      exact ⟨v, e, dp_mono g r⟩
    | own d =>
      obtain ⟨a, e, f, h0, r⟩ := r
      obtain ⟨o', ho, _⟩ := r.some
      have hn : H a ≠ none := by rw [ho]; exact fun z => by cases z
      exact ⟨a, e, by rw [new a hn]; exact f, h0, r.mono g (kp a hn)⟩
    | io d =>
      obtain ⟨a, e, f, h0, r⟩ := r
      obtain ⟨o', ho, _⟩ := r.some
      have hn : H a ≠ none := by rw [ho]; exact fun z => by cases z
      exact ⟨a, e, by rw [new a hn]; exact f, h0, r.mono g (kp a hn)⟩
  · obtain ⟨h1, h2, h3, h4⟩ := I.tmp p hp
    exact ⟨keep _ _ h1, by rw [new _ (by rw [h1]; exact fun z => by cases z)]; exact h2, h3, h4⟩
/-- a new frozen object -/
theorem Iv.alloc (I : Iv K b F H σ σd) {q : Addr} (o : HO) (hq : H q = none) : Iv K b (upd F q o) (upd H q o) σ σd := by
  have fq : F q = none := by
    cases e : F q with
    | none => rfl
    | some u => rw [I.sub _ _ e] at hq; cases hq
  refine I.step (fun a u e => ?_) (fun a u e => ?_) (fun a h => ?_) (fun a u e => ?_)
  · rw [upd_ne (ne_of_none e fq)]
    exact e
  · by_cases z : a = q
    · subst z
      rw [upd_same] at e ⊢
      exact e
    · rw [upd_ne z] at e ⊢
      exact I.sub _ _ e
  · rw [upd_ne (fun z => h (by rw [z]; exact hq))]
  · rw [upd_ne (ne_of_none e hq)]
    exact e
theorem Iv.growq (I : Iv K b F H σ σd) {q : Addr} (o : HO) (hq : H q = none) : Grow F (upd F q o) := fun a u e => by
  rw [upd_ne (ne_of_none (I.sub _ _ e) hq)]
  exact e
/-- a new object that is not frozen (and no slot's) -/
theorem Iv.laid (I : Iv K b F H σ σd) {q : Addr} (o : HO) (hq : H q = none) : Iv K b F (upd H q o) σ σd := by
  refine I.step (Grow.refl F) (fun a u e => ?_) (fun a _ => rfl) (fun a u e => ?_)
  · rw [upd_ne (ne_of_none (I.sub _ _ e) hq)]
    exact I.sub _ _ e
  · rw [upd_ne (ne_of_none e hq)]
    exact e
end

/-! ### operands -/
/-- an operand: an expression of data; or a name's slot, looked at when all are there -/
inductive Opd where
  | ex (w : WE)
  | br (i : Nat)
inductive AV where
  | d (x : D)
  | b (i : Nat)
def slD : Sl → Option D
  | .un => none
  | .val d => some d
  | .own d => some d
  | .io d => some d
def rs (σd : SD) : AV → Option D
  | .d x => some x
  | .b i => (σd[i]?).bind slD
def AVr (K : PySem.W.Frag) (F : Hp) (σ : St) (v : V) : AV → Prop
  | .d x => Dp K F v x
  | .b i => σ[i]? = some (some v)
theorem AVr.mono {K : PySem.W.Frag} {F F' : Hp} {σ : St} {v : V} (g : Grow F F') : ∀ {x : AV}, AVr K F σ v x → AVr K F' σ v x
  | .d _, h => dp_mono g h
  | .b _, h => h
/-- a value that may be read as d now -/
def BV (K : PySem.W.Frag) (F H : Hp) (v : V) (d : D) : Prop := Dp K F v d ∨ ∃ a, v = .ref a ∧ OwnAt K F H a d
section
variable {K : PySem.W.Frag} {b : Bs} {F F' H H' : Hp} {σ σ' : St} {σd σd' : SD}
theorem Iv.bv (I : Iv K b F H σ σd) {v : V} {x : AV} {d : D} (r : AVr K F σ v x) (e : rs σd x = some d) : BV K F H v d := by
  cases x with
  | d x =>
    cases e
    exact .inl r
  | b i =>
    have r : σ[i]? = some (some v) := r
    have e : (σd[i]?).bind slD = some d := e
    cases q : σd[i]? with
    | none => rw [q] at e; cases e
    | some s =>
      rw [q] at e
      have z := I.sl i _ s r q
      cases s with
      | un => cases e
      | val d' =>
        cases e
        obtain ⟨_, z1, z2⟩ := z
        cases z1
        exact .inl z2
      | own d' =>
        cases e
        obtain ⟨a, z1, _, _, z2⟩ := z
        cases z1
        exact .inr ⟨a, rfl, z2⟩
      | io d' =>
        cases e
        obtain ⟨a, z1, _, _, z2⟩ := z
        cases z1
        exact .inr ⟨a, rfl, z2⟩
theorem BV.lst (I : Ext b F H) {v : V} {ds : List D} (r : BV K F H v (.list ds)) : ∃ a xs, v = .ref a ∧ SqL K H a xs ∧ DpAll K F xs ds := by
  rcases r with r | ⟨a, rfl, vs, h1, h2⟩
  · cases r with
    | lst h hs => exact ⟨_, _, rfl, Grow.sql I.sub h, hs⟩
  · exact ⟨a, vs, rfl, SqL.of h1, h2⟩
theorem BV.tup (I : Ext b F H) {v : V} {ds : List D} (r : BV K F H v (.tuple ds)) : ∃ a xs, v = .ref a ∧ SqT K F a xs ∧ SqT K H a xs ∧ DpAll K F xs ds := by
  rcases r with r | ⟨a, rfl, h⟩
  · cases r with
    | tup h hs => exact ⟨_, _, rfl, h, Grow.sqt I.sub h, hs⟩
  · exact h.elim
theorem BV.int {v : V} {i : Int} (r : BV K F H v (.int i)) : v = .int i := by
  rcases r with r | ⟨a, rfl, h⟩
  · cases r; rfl
  · exact h.elim
theorem BV.bool {v : V} {i : Bool} (r : BV K F H v (.bool i)) : v = .bl i := by
  rcases r with r | ⟨a, rfl, h⟩
  · cases r; rfl
  · exact h.elim
theorem BV.str {v : V} {i : Str} (r : BV K F H v (.str i)) : v = .str i := by
  rcases r with r | ⟨a, rfl, h⟩
  · cases r; rfl
  · exact h.elim
theorem BV.non {v : V} (r : BV K F H v .none) : v = .non := by
  rcases r with r | ⟨a, rfl, h⟩
  · cases r; rfl
  · exact h.elim
theorem BV.dp (I : Ext b F H) {v : V} : ∀ {d : D}, (∀ kvs, d ≠ .dict kvs) → BV K F H v d → Dp K H v d
  | d, hn, .inl r => dp_mono I.sub r
  | .list ds, _, .inr ⟨a, e, z⟩ => by
    obtain ⟨vs, h1, h2⟩ := z
    subst e
    exact .lst (SqL.of h1) (dpa_mono I.sub h2)
  | .dict kvs, hn, .inr _ => absurd rfl (hn kvs)
  | .none, _, .inr ⟨_, _, z⟩ => z.elim
  | .bool _, _, .inr ⟨_, _, z⟩ => z.elim
  | .int _, _, .inr ⟨_, _, z⟩ => z.elim
  | .str _, _, .inr ⟨_, _, z⟩ => z.elim
  | .tuple _, _, .inr ⟨_, _, z⟩ => z.elim
end
end DL
end L2
set_option Elab.async false
set_option maxRecDepth 100000
set_option maxHeartbeats 1000000
/-! The data layer, part 2: expressions. -/
namespace L2
open PySem PySem.Spec PyProof.Rows
namespace DL

def fzD : D → Bool
  | .list _ => true
  | _ => false
/-- a wish about data, of a result: a new list is frozen -/
def dz (Q : D → SD → Prop) : Rv → SD → Prop
  | .d x, σ => Q x σ
  | .f x, σ => fzD x = true ∧ Q x σ

/-- what stands at a is new, nobody has it -/
structure Fr1 (K : PySem.W.Frag) (b : Bs) (F H : Hp) (σ : St) (σd : SD) (a : Addr) (x : D) : Prop where
  fz : F a = none
  h0 : b.H0 a = none
  at_ : OwnAt K F H a x
  no : ∀ i, ¬ OA σ σd i a
  nt : ∀ p ∈ b.T, p.1 ≠ a
def RvR (K : PySem.W.Frag) (b : Bs) (F H : Hp) (σ : St) (σd : SD) (v : V) : Rv → Prop
  | .d x => Dp K F v x
  | .f x => ∃ a, v = .ref a ∧ Fr1 K b F H σ σd a x

def XOk (mg : Str → Option Value) (b : Bs) (X : XW) (E : XK) : Prop := ∀ nm C F' H', X nm → mg nm = some (.ref C) → Ext b F' H' → E (.ref C) none H'

section
variable {K : PySem.W.Frag} {mg : Str → Option Value} {E : XK} {b : Bs} {F F' H H' : Hp} {σ σ' : St} {σd σd' : SD} {X : XW}

theorem Fr1.mono {a : Addr} {x : D} (f : Fr1 K b F H σ σd a x) (g : Grow F F') (new : ∀ a, H a ≠ none → F' a = F a) (keep : ∀ a o, H a = some o → H' a = some o) : Fr1 K b F' H' σ σd a x := by
  obtain ⟨o, ho, _⟩ := f.at_.some
  have hn : H a ≠ none := by rw [ho]; exact fun z => by cases z
  exact ⟨by rw [new a hn]; exact f.fz, f.h0, f.at_.mono g ((keep a o ho).trans ho.symm), f.no, f.nt⟩

/-- a new list is frozen -/
theorem Iv.freeze (I : Iv K b F H σ σd) {a : Addr} {x : D} (f : Fr1 K b F H σ σd a x) (hz : fzD x = true) : ∃ F', Iv K b F' H σ σd ∧ Grow F F' ∧ Dp K F' (.ref a) x := by
  cases x with
  | list ds =>
    obtain ⟨vs, h1, h2⟩ := f.at_
    have g : Grow F (upd F a (.lst vs)) := fun c u e => by
      rw [upd_ne (ne_of_none e f.fz)]
      exact e
    refine ⟨upd F a (.lst vs), ⟨⟨fun c u e => ?_, fun c h => ?_, I.keep, I.trk⟩, I.len, fun i o s e1 e2 => ?_, I.apart, I.par, fun p hp => ?_⟩, g, .lst (.inl (.inl upd_same)) (dpa_mono g h2)⟩
    · by_cases z : c = a
      · subst z
        rw [upd_same] at e
        cases e
        exact h1
      · rw [upd_ne z] at e
        exact I.sub _ _ e
    · rw [upd_ne (fun z => h (by rw [z]; exact f.h0))]
      exact I.old c h
    · have r := I.sl i o s e1 e2
      cases s with
      | un => trivial
      | val d =>
        obtain ⟨v, e, r⟩ := r
        exact ⟨v, e, dp_mono g r⟩
      | own d =>
        obtain ⟨c, e, fc, h0, r⟩ := r
        subst e
        refine ⟨c, rfl, ?_, h0, r.mono g rfl⟩
        rw [upd_ne (fun z => f.no i (by rw [← z]; exact ⟨e1, d, .inl e2⟩))]
        exact fc
      | io d =>
        obtain ⟨c, e, fc, h0, r⟩ := r
        subst e
        refine ⟨c, rfl, ?_, h0, r.mono g rfl⟩
        rw [upd_ne (fun z => f.no i (by rw [← z]; exact ⟨e1, d, .inr e2⟩))]
        exact fc
    · obtain ⟨t1, t2, t3, t4⟩ := I.tmp p hp
      exact ⟨t1, by rw [upd_ne (f.nt p hp)]; exact t2, t3, t4⟩
  | _ => cases hz

def tD (K : PySem.W.Frag) (mg : Str → Option Value) (E : XK) (w : WE) : TE := fun σ H Q => ∃ b F σd X Qd, Iv K b F H σ σd ∧ XOk mg b X E ∧ w X σd Qd ∧
  ∀ v H' F' r σd', Iv K b F' H' σ σd' → Grow F F' → RvR K b F' H' σ σd' v r → Qd r σd' → Q v H'
def tDT (K : PySem.W.Frag) (mg : Str → Option Value) (E : XK) (w : WT) : TT := fun σ H Q => ∃ b F σd X Qd, Iv K b F H σ σd ∧ XOk mg b X E ∧ w X σd Qd ∧
  ∀ k H' F' σd', Iv K b F' H' σ σd' → Grow F F' → Qd k σd' → Q k H'

/-- with the result frozen -/
theorem tD_dz {w : WE} {Q : VK} {R : D → SD → Prop} (I : Iv K b F H σ σd) (x : XOk mg b X E) (h : w X σd (dz R))
    (q : ∀ v H' F' d σd', Iv K b F' H' σ σd' → Grow F F' → Dp K F' v d → R d σd' → Q v H') : tD K mg E w σ H Q := by
  refine ⟨b, F, σd, X, _, I, x, h, fun v H' F' r σd' I' g rr hr => ?_⟩
  cases r with
  | d y => exact q v H' F' y σd' I' g rr hr
  | f y =>
    obtain ⟨a, rfl, f1⟩ := rr
    obtain ⟨F2, I2, g2, dp⟩ := I'.freeze f1 hr.1
    exact q _ H' F2 y σd' I2 (g.trans g2) dp hr.2

def tO (K : PySem.W.Frag) (mg : Str → Option Value) (E : XK) : Opd → TE
  | .ex w => tD K mg E w
  | .br i => tVar i
def wO : Opd → XW → SD → (AV → SD → Prop) → Prop
  | .ex w, X, σd, Q => w X σd (dz fun d σ' => Q (.d d) σ')
  | .br i, _, σd, Q => (∃ d, rs σd (.b i) = some d) ∧ Q (.b i) σd
theorem Iv.slot (I : Iv K b F H σ σd) {i : Nat} {d : D} (e : rs σd (.b i) = some d) : ∃ v, σ[i]? = some (some v) := by
  have e : (σd[i]?).bind slD = some d := e
  cases q : σd[i]? with
  | none => rw [q] at e; cases e
  | some s =>
    rw [q] at e
    obtain ⟨o, h1, h2⟩ := I.get q
    cases s with
    | un => cases e
    | val _ => obtain ⟨v, rfl, _⟩ := h2; exact ⟨v, h1⟩
    | own _ => obtain ⟨v, rfl, _⟩ := h2; exact ⟨_, h1⟩
    | io _ => obtain ⟨v, rfl, _⟩ := h2; exact ⟨_, h1⟩
theorem tO_run {o : Opd} {R : AV → SD → Prop} {Q : VK} (I : Iv K b F H σ σd) (x : XOk mg b X E) (h : wO o X σd R)
    (q : ∀ v H' F' av σd', Iv K b F' H' σ σd' → Grow F F' → AVr K F' σ v av → R av σd' → Q v H') : tO K mg E o σ H Q := by
  cases o with
  | ex w => exact tD_dz I x h fun v H' F' d σd' I' g r q' => q v H' F' (.d d) σd' I' g r q'
  | br i =>
    obtain ⟨⟨d, e⟩, h⟩ := h
    obtain ⟨v, hv⟩ := I.slot e
    exact ⟨v, hv, q v H F (.b i) σd I (Grow.refl F) hv h⟩

/-! lists of operands -/
def tOs (K : PySem.W.Frag) (mg : Str → Option Value) (E : XK) : List Opd → TA
  | [] => tNil
  | o :: os => tCons (tO K mg E o) (tOs K mg E os)
def wOs : List Opd → XW → SD → (List AV → SD → Prop) → Prop
  | [], _, σd, Q => Q [] σd
  | o :: os, X, σd, Q => wO o X σd fun av σ1 => wOs os X σ1 fun avs σ2 => Q (av :: avs) σ2
inductive AVs (K : PySem.W.Frag) (F : Hp) (σ : St) : List V → List AV → Prop
  | nil : AVs K F σ [] []
  | cons {v x vs xs} : AVr K F σ v x → AVs K F σ vs xs → AVs K F σ (v :: vs) (x :: xs)
theorem tOs_run : ∀ {os : List Opd} {F H : Hp} {σd : SD} {R : List AV → SD → Prop} {Q : List V → Hp → Prop} (_ : Iv K b F H σ σd) (_ : XOk mg b X E) (_ : wOs os X σd R)
    (_ : ∀ vs H' F' avs σd', Iv K b F' H' σ σd' → Grow F F' → AVs K F' σ vs avs → R avs σd' → Q vs H'), tOs K mg E os σ H Q
  | [], F, H, σd, R, Q, I, x, h, q => q [] H F [] σd I (Grow.refl F) .nil h
  | o :: os, F, H, σd, R, Q, I, x, h, q =>
    tO_run I x h fun v H' F' av σd' I' g r h' => tOs_run I' x h' fun vs H2 F2 avs σ2 I2 g2 rs h2 => q (v :: vs) H2 F2 (av :: avs) σ2 I2 (g.trans g2) (.cons (r.mono g2) rs) h2
def rsL (σd : SD) : List AV → Option (List D)
  | [] => some []
  | x :: xs => match rs σd x, rsL σd xs with
    | some d, some ds => some (d :: ds)
    | _, _ => none
inductive BVs (K : PySem.W.Frag) (F H : Hp) : List V → List D → Prop
  | nil : BVs K F H [] []
  | cons {v d vs ds} : BV K F H v d → BVs K F H vs ds → BVs K F H (v :: vs) (d :: ds)
theorem Iv.bvs (I : Iv K b F H σ σd) : ∀ {vs : List V} {xs : List AV} {ds : List D}, AVs K F σ vs xs → rsL σd xs = some ds → BVs K F H vs ds
  | _, _, _, .nil, e => by cases e; exact .nil
  | _, _, ds, .cons (v := v) (x := x) (vs := vs) (xs := xs) r t, e => by
    unfold rsL at e
    cases h1 : rs σd x with
    | none => rw [h1] at e; cases e
    | some d =>
      cases h2 : rsL σd xs with
      | none => rw [h1, h2] at e; cases e
      | some es =>
        rw [h1, h2] at e
        cases e
        exact .cons (I.bv r h1) (I.bvs t h2)

/-! pure operations -/
abbrev P1 := D → (Rv → Prop) → Prop
abbrev P2 := D → D → (Rv → Prop) → Prop
abbrev PL := List D → (Rv → Prop) → Prop
def w1 (p : P1) (a : Opd) : WE := fun X σd Q => wO a X σd fun x σ1 => ∃ d, rs σ1 x = some d ∧ p d fun r => Q r σ1
def w2 (p : P2) (a c : Opd) : WE := fun X σd Q => wO a X σd fun x σ1 => wO c X σ1 fun y σ2 => ∃ d e, rs σ2 x = some d ∧ rs σ2 y = some e ∧ p d e fun r => Q r σ2
def wL (p : PL) (os : List Opd) : WE := fun X σd Q => wOs os X σd fun xs σ1 => ∃ ds, rsL σ1 xs = some ds ∧ p ds fun r => Q r σ1

/-- what a rule's end wishes, told from data -/
def Ends1 (K : PySem.W.Frag) (b : Bs) (F : Hp) (σ : St) (σd : SD) (Qd : Rv → Prop) (Q : VK) : Prop := ∀ v H' F' r, Iv K b F' H' σ σd → Grow F F' → RvR K b F' H' σ σd v r → Qd r → Q v H'
def P1Ok (K : PySem.W.Frag) (r : V → Hp → VK → Prop) (p : P1) : Prop := ∀ b F H σ σd x d Q Qd, Iv K b F H σ σd → BV K F H x d → p d Qd → Ends1 K b F σ σd Qd Q → r x H Q
def P2Ok (K : PySem.W.Frag) (r : R2) (p : P2) : Prop := ∀ b F H σ σd x y d e Q Qd, Iv K b F H σ σd → BV K F H x d → BV K F H y e → p d e Qd → Ends1 K b F σ σd Qd Q → r x y H Q
def PLOk (K : PySem.W.Frag) (r : List V → Hp → VK → Prop) (p : PL) : Prop := ∀ b F H σ σd xs ds Q Qd, Iv K b F H σ σd → BVs K F H xs ds → p ds Qd → Ends1 K b F σ σd Qd Q → r xs H Q

theorem t1_of {r : V → Hp → VK → Prop} {p : P1} (hp : P1Ok K r p) {o : Opd} {Q : VK} (h : tD K mg E (w1 p o) σ H Q) : tUn r (tO K mg E o) σ H Q := by
  obtain ⟨b, F, σd, X, Qd, I, x, h, q⟩ := h
  exact tO_run I x h fun v H1 F1 av σ1 I1 g1 r1 ⟨d, e1, h1⟩ => hp b F1 H1 σ σ1 v d Q _ I1 (I1.bv r1 e1) h1 fun w H2 F2 rr I2 g2 rv hq => q w H2 F2 rr σ1 I2 (g1.trans g2) rv hq
theorem t2_of {r : R2} {p : P2} (hp : P2Ok K r p) {o c : Opd} {Q : VK} (h : tD K mg E (w2 p o c) σ H Q) : tOp r (tO K mg E o) (tO K mg E c) σ H Q := by
  obtain ⟨b, F, σd, X, Qd, I, x, h, q⟩ := h
  exact tO_run I x h fun v H1 F1 av σ1 I1 g1 r1 h1 => tO_run I1 x h1 fun u H2 F2 aw σ2 I2 g2 r2 ⟨d, e, e1, e2, h2⟩ =>
    hp b F2 H2 σ σ2 v u d e Q _ I2 (I2.bv (r1.mono g2) e1) (I2.bv r2 e2) h2 fun w H3 F3 rr I3 g3 rv hq => q w H3 F3 rr σ2 I3 ((g1.trans g2).trans g3) rv hq
theorem tL_of {r : List V → Hp → VK → Prop} {p : PL} (hp : PLOk K r p) {os : List Opd} {Q : VK} (h : tD K mg E (wL p os) σ H Q) : tOs K mg E os σ H (fun vs H1 => r vs H1 Q) := by
  obtain ⟨b, F, σd, X, Qd, I, x, h, q⟩ := h
  exact tOs_run I x h fun vs H1 F1 avs σ1 I1 g1 r1 ⟨ds, e1, h1⟩ => hp b F1 H1 σ σ1 vs ds Q _ I1 (I1.bvs r1 e1) h1 fun w H2 F2 rr I2 g2 rv hq => q w H2 F2 rr σ1 I2 (g1.trans g2) rv hq
end

/-! ### the judgements -/
abbrev DE (X : Cx) (E : XK) (e : Expr) (w : WE) : Prop := PE X e (tD X.K X.mg E w)
abbrev DO (X : Cx) (E : XK) (e : Expr) (o : Opd) : Prop := PE X e (tO X.K X.mg E o)
abbrev DT (X : Cx) (E : XK) (e : Expr) (w : WT) : Prop := PT X e (tDT X.K X.mg E w)
abbrev DA (X : Cx) (E : XK) (es : List Expr) (os : List Opd) : Prop := PA X es (tOs X.K X.mg E os)

section
variable {X : Cx} {E : XK} {e a c : Expr} {pos : Pos}
theorem _root_.L2.PE.imp {t t' : TE} (h : PE X e t) (i : ∀ σ H Q, t' σ H Q → t σ H Q) : PE X e t' := ⟨fun pins s σ H Q I q => h.run pins s σ H Q I (i _ _ _ q)⟩
theorem _root_.L2.PT.imp {t t' : TT} (h : PT X e t) (i : ∀ σ H Q, t' σ H Q → t σ H Q) : PT X e t' := ⟨fun pins s σ H Q I q => h.run pins s σ H Q I (i _ _ _ q)⟩
theorem _root_.L2.PA.imp {es : List Expr} {t t' : TA} (h : PA X es t) (i : ∀ σ H Q, t' σ H Q → t σ H Q) : PA X es t' := ⟨fun pos pins s σ H Q I q => h.run pos pins s σ H Q I (i _ _ _ q)⟩

def wFalse : WE := fun _ _ _ => False
theorem de_false : DE X E e wFalse := ⟨fun pins s σ H Q I h => by
  obtain ⟨_, _, _, _, _, _, _, z, _⟩ := h
  exact z.elim⟩
def wtFalse : WT := fun _ _ _ => False
theorem dt_false : DT X E e wtFalse := ⟨fun pins s σ H Q I h => by
  obtain ⟨_, _, _, _, _, _, _, z, _⟩ := h
  exact z.elim⟩
theorem do_ex {w : WE} (h : DE X E e w) : DO X E e (.ex w) := h
theorem do_br {i : Nat} {x : Str} {p : Pos} (hN : X.N[i]? = some x) (hv : Vis X.env.scope x) (hd : (x == ("__debug__" : Str)) = false) (hcd : (x == ("__classdict__" : Str)) = false) : DO X E (.Name x p) (.br i) := pe_var hN hv hd hcd
/-- a constant -/
def wC (d : D) : WE := fun _ σd Q => Q (.d d) σd
theorem de_c {v : V} {d : D} (h : PE X e (tC v)) (r : ∀ K F, Dp K F v d) : DE X E e (wC d) := h.imp fun σ H Q ⟨b, F, σd, W, Qd, I, x, h, q⟩ => q v H F (.d d) σd I (Grow.refl F) (r _ _) h
/-- a name, its own list frozen if it has one -/
def wN (i : Nat) : WE := fun _ σd Q => match σd[i]? with
  | some (.val d) => Q (.d d) σd
  | some (.own d) => fzD d = true ∧ Q (.d d) (σd.set i (.val d))
  | _ => False
/-- a name, its own object given away -/
def wMv (i : Nat) : WE := fun _ σd Q => match σd[i]? with
  | some (.val d) => Q (.d d) σd
  | some (.own d) => Q (.f d) (σd.set i .un)
  | _ => False
end

section
variable {K : PySem.W.Frag} {b : Bs} {F H : Hp} {σ : St} {σd : SD}
theorem OA.of_set {σ : St} {σd : SD} {i j : Nat} {a : Addr} {s : Sl} (h : OA σ (σd.set i s) j a) (hs : ∀ d, s ≠ .own d ∧ s ≠ .io d) : OA σ σd j a ∧ j ≠ i := by
  obtain ⟨h1, d, h2⟩ := h
  by_cases z : j = i
  · subst z
    by_cases hi : j < σd.length
    · rw [List.getElem?_set_self hi] at h2
      rcases h2 with h2 | h2
      · exact absurd (Option.some.inj h2) (hs d).1
      · exact absurd (Option.some.inj h2) (hs d).2
    · rw [List.getElem?_eq_none (by rw [List.length_set]; omega)] at h2
      rcases h2 with h2 | h2 <;> cases h2
  · rw [List.getElem?_set_ne (Ne.symm z)] at h2
    exact ⟨⟨h1, d, h2⟩, z⟩
/-- an own slot is forgotten: its object is free to be taken -/
theorem Iv.drop (I : Iv K b F H σ σd) {i : Nat} {d : D} (e : σd[i]? = some (.own d)) : ∃ a, σ[i]? = some (some (.ref a)) ∧ Iv K b F H σ (σd.set i .un) ∧ Fr1 K b F H σ (σd.set i .un) a d := by
  obtain ⟨o, h1, a, rfl, f, h0, r⟩ := I.get e
  have hs : ∀ d, Sl.un ≠ .own d ∧ Sl.un ≠ .io d := fun d => ⟨fun z => (by cases z), fun z => (by cases z)⟩
  have oa : OA σ σd i a := ⟨h1, d, .inl e⟩
  refine ⟨a, h1, ⟨I.toExt, by rw [List.length_set]; exact I.len, fun j o s e1 e2 => ?_, fun j k c p q => I.apart j k c (OA.of_set p hs).1 (OA.of_set q hs).1, fun p hp => ?_, fun p hp => ?_⟩, f, h0, r, fun j z => ?_, fun p hp z => ?_⟩
  · by_cases z : i = j
    · subst z
      rw [List.getElem?_set_self (List.getElem?_eq_some_iff.mp e).1] at e2
      cases e2
      trivial
    · rw [List.getElem?_set_ne z] at e2
      exact I.sl j o s e1 e2
  · obtain ⟨p1, d', p2⟩ := I.par p hp
    refine ⟨p1, d', ?_⟩
    rw [List.getElem?_set_ne (fun z => by rw [← z, e] at p2; cases p2)]
    exact p2
  · obtain ⟨t1, t2, t3, t4⟩ := I.tmp p hp
    exact ⟨t1, t2, t3, fun j c z => t4 j c (OA.of_set z hs).1⟩
  · obtain ⟨z1, z2⟩ := OA.of_set z hs
    exact z2 (I.apart j i a z1 oa)
  · exact (I.tmp p hp).2.2.2 i a oa z.symm
/-- a slot gets data; the value stands in it already -/
theorem Iv.setv (I : Iv K b F H σ σd) {i : Nat} {v : V} {d : D} (h : σ[i]? = some (some v)) (r : Dp K F v d) (e : σd[i]? = some .un) : Iv K b F H σ (σd.set i (.val d)) := by
  have hs : ∀ d', Sl.val d ≠ .own d' ∧ Sl.val d ≠ .io d' := fun d => ⟨fun z => (by cases z), fun z => (by cases z)⟩
  refine ⟨I.toExt, by rw [List.length_set]; exact I.len, fun j o s e1 e2 => ?_, fun j k c p q => I.apart j k c (OA.of_set p hs).1 (OA.of_set q hs).1, fun p hp => ?_, fun p hp => ?_⟩
  · by_cases z : i = j
    · subst z
      rw [List.getElem?_set_self (List.getElem?_eq_some_iff.mp e).1] at e2
      cases e2
      rw [h] at e1
      exact ⟨v, (Option.some.inj e1).symm, r⟩
    · rw [List.getElem?_set_ne z] at e2
      exact I.sl j o s e1 e2
  · obtain ⟨p1, d', p2⟩ := I.par p hp
    refine ⟨p1, d', ?_⟩
    rw [List.getElem?_set_ne (fun z => by rw [← z, e] at p2; cases p2)]
    exact p2
  · obtain ⟨t1, t2, t3, t4⟩ := I.tmp p hp
    exact ⟨t1, t2, t3, fun j c z => t4 j c (OA.of_set z hs).1⟩
end

section
variable {X : Cx} {E : XK} {e a c : Expr} {pos : Pos}
theorem de_mv {i : Nat} {x : Str} {p : Pos} (hN : X.N[i]? = some x) (hv : Vis X.env.scope x) (hd : (x == ("__debug__" : Str)) = false) (hcd : (x == ("__classdict__" : Str)) = false) : DE X E (.Name x p) (wMv i) := by
  refine (pe_var hN hv hd hcd).imp fun σ H Q ⟨b, F, σd, W, Qd, I, x, h, q⟩ => ?_
  unfold wMv at h
  split at h
  · rename_i d e
    obtain ⟨v, h1, r⟩ := I.val e
    exact ⟨v, h1, q v H F (.d d) σd I (Grow.refl F) r h⟩
  · rename_i d e
    obtain ⟨a, h1, I1, f⟩ := I.drop e
    exact ⟨_, h1, q _ H F (.f d) _ I1 (Grow.refl F) ⟨a, rfl, f⟩ h⟩
  · exact h.elim
theorem de_n {i : Nat} {x : Str} {p : Pos} (hN : X.N[i]? = some x) (hv : Vis X.env.scope x) (hd : (x == ("__debug__" : Str)) = false) (hcd : (x == ("__classdict__" : Str)) = false) : DE X E (.Name x p) (wN i) := by
  refine (pe_var hN hv hd hcd).imp fun σ H Q ⟨b, F, σd, W, Qd, I, x, h, q⟩ => ?_
  unfold wN at h
  split at h
  · rename_i d e
    obtain ⟨v, h1, r⟩ := I.val e
    exact ⟨v, h1, q v H F (.d d) σd I (Grow.refl F) r h⟩
  · rename_i d e
    obtain ⟨a, h1, I1, f⟩ := I.drop e
    obtain ⟨F2, I2, g2, dp⟩ := I1.freeze f h.1
    have I3 := I2.setv (i := i) h1 dp (List.getElem?_set_self (List.getElem?_eq_some_iff.mp e).1)
    rw [List.set_set] at I3
    exact ⟨_, h1, q _ H F2 (.d d) _ I3 g2 dp h.2⟩
  · exact h.elim

theorem do_list_nil : DA X E [] [] := pa_nil
theorem do_list_cons {es : List Expr} {o : Opd} {os : List Opd} (h : DO X E e o) (t : DA X E es os) (hs : starEach (e :: es) X.env = (false, eval e X.env) :: starEach es X.env) : DA X E (e :: es) (o :: os) := pa_cons h t hs

theorem de_bin {op : Operator} {r : R2} {p : P2} {oa oc : Opd} (ho : OpR X (binaryOp op) r) (hp : P2Ok X.K r p) (ha : DO X E a oa) (hc : DO X E c oc) : DE X E (.BinOp a op c pos) (w2 p oa oc) :=
  (pe_op ho ha hc).imp fun _ _ _ h => t2_of hp h
theorem de_un {op : UnaryOp} {r : V → Hp → VK → Prop} {p : P1} {oa : Opd} (ho : UnR X (unaryOp op) r) (hp : P1Ok X.K r p) (ha : DO X E a oa) : DE X E (.UnaryOp op a pos) (w1 p oa) :=
  (pe_un ho ha).imp fun _ _ _ h => t1_of hp h
theorem de_cmp {op : CmpOp} {r : R2} {p : P2} {oa oc : Opd} (ho : OpR X (compareOp op) r) (hp : P2Ok X.K r p) (ha : DO X E a oa) (hc : DO X E c oc) (hm : behindInMarks op c = false) : DE X E (.Compare a [op] [c] pos) (w2 p oa oc) :=
  (pe_cmpR ho ha hc hm).imp fun _ _ _ h => t2_of hp h
theorem de_ix {r : R2} {p : P2} {oa oc : Opd} (ho : IxR X r) (hp : P2Ok X.K r p) (ha : DO X E a oa) (hc : DO X E c oc) (hs : PlainIx c) : DE X E (.Subscript a c pos) (w2 p oa oc) :=
  (pe_ix ho ha hc hs).imp fun _ _ _ h => t2_of hp h
theorem de_callB {x : Str} {id : String} {p : Pos} {es : List Expr} {r : List V → Hp → VK → Prop} {pl : PL} {os : List Opd} (hr : CallR X (.builtin id) r) (hp : PLOk X.K r pl) (hg : Gl X x) (hm : X.mg x = none) (hv : bootBuiltins x = some (.builtin id)) (ha : DA X E (e :: es) os)
    (hn : x ≠ "__name__") (hdb : (x == ("__debug__" : Str)) = false) (he : starEach (e :: es) X.env = (false, eval e X.env) :: starEach es X.env) (hpl : (backTo pos (starEach es X.env)).any (·.1) = false) : DE X E (.Call (.Name x p) (e :: es) [] pos) (wL pl os) :=
  (pe_callB hr hg hm hv ha hn hdb he hpl).imp fun _ _ _ h => tL_of hp h
theorem de_callTy {x : Str} {T : String} {p : Pos} {es : List Expr} {r : List V → Hp → VK → Prop} {pl : PL} {os : List Opd} (hr : CallR X (.type T) r) (hp : PLOk X.K r pl) (hg : Gl X x) (hm : X.mg x = none) (hv : bootBuiltins x = some (.type T)) (ha : DA X E (e :: es) os)
    (hn : x ≠ "__name__") (hdb : (x == ("__debug__" : Str)) = false) (he : starEach (e :: es) X.env = (false, eval e X.env) :: starEach es X.env) (hpl : (backTo pos (starEach es X.env)).any (·.1) = false) : DE X E (.Call (.Name x p) (e :: es) [] pos) (wL pl os) :=
  (pe_callTy hr hg hm hv ha hn hdb he hpl).imp fun _ _ _ h => tL_of hp h

/-! ### tests -/
def wtB (w : WE) : WT := fun X σd Q => w X σd fun r σ1 => match r with
  | .d (.bool k) => Q k σ1
  | _ => False
theorem tB_of {w : WE} {K : PySem.W.Frag} {mg : Str → Option Value} {σ : St} {H : Hp} {Q : Bool → Hp → Prop} (h : tDT K mg E (wtB w) σ H Q) : tB (tD K mg E w) σ H Q := by
  obtain ⟨b, F, σd, W, Qd, I, x, h, q⟩ := h
  refine ⟨b, F, σd, W, _, I, x, h, fun v H' F' r σd' I' g rr hr => ?_⟩
  split at hr
  · rename_i k
    cases rr
    exact ⟨k, rfl, q k H' F' σd' I' g hr⟩
  · exact hr.elim
theorem dt_val {w : WE} (h : DE X E e w) (he : ∀ whole, isTrue e X.env whole = (do let v ← whole; standAt e.pos; holding [v] (truthy v))) : DT X E e (wtB w) :=
  (pt_val h he).imp fun _ _ _ h => tB_of h
theorem dt_cmp {op : CmpOp} {r : R2} {p : P2} {oa oc : Opd} (ho : OpR X (compareOp op) r) (hp : P2Ok X.K r p) (ha : DO X E a oa) (hc : DO X E c oc) (hm : behindInMarks op c = false) : DT X E (.Compare a [op] [c] pos) (wtB (w2 p oa oc)) :=
  (pt_cmpR ho ha hc hm).imp fun σ H Q h => by
    obtain ⟨b, F, σd, W, Qd, I, x, h, q⟩ := h
    refine t2_of (K := X.K) (mg := X.mg) (E := E) hp ⟨b, F, σd, W, _, I, x, h, fun v H' F' r σd' I' g rr hr => ?_⟩
    split at hr
    · rename_i k
      cases rr
      exact ⟨k, rfl, q k H' F' σd' I' g hr⟩
    · exact hr.elim
def wtNot (w : WT) : WT := fun X σd Q => w X σd fun k σ1 => Q (!k) σ1
theorem dt_not {w : WT} (h : DT X E a w) : DT X E (.UnaryOp .Not a pos) (wtNot w) :=
  (pt_not h).imp fun σ H Q ⟨b, F, σd, W, Qd, I, x, h, q⟩ => ⟨b, F, σd, W, _, I, x, h, fun k H' F' σd' I' g hr => q (!k) H' F' σd' I' g hr⟩
def wtAnd (w u : WT) : WT := fun X σd Q => w X σd fun k σ1 => if k = true then u X σ1 Q else Q false σ1
def wtOr (w u : WT) : WT := fun X σd Q => w X σd fun k σ1 => if k = true then Q true σ1 else u X σ1 Q
abbrev DW (X : Cx) (E : XK) (e : Expr) (w : WT) : Prop := PW X e (tDT X.K X.mg E w)
theorem dw_and1 {w : WT} (h : DT X E a w) : DW X E (.BoolOp .And [a] pos) w := pw_and1 h
theorem dw_or1 {w : WT} (h : DT X E a w) : DW X E (.BoolOp .Or [a] pos) w := pw_or1 h
theorem _root_.L2.PW.imp {t t' : TT} (h : PW X e t) (i : ∀ σ H Q, t' σ H Q → t σ H Q) : PW X e t' := ⟨fun wh pins s σ H Q I q => h.run wh pins s σ H Q I (i _ _ _ q)⟩
theorem dw_and {w u : WT} {c : Expr} {rest : List Expr} (h : DT X E a w) (t : DW X E (.BoolOp .And (c :: rest) pos) u) : DW X E (.BoolOp .And (a :: c :: rest) pos) (wtAnd w u) :=
  PW.imp (pw_and h t) fun σ H Q ⟨b, F, σd, W, Qd, I, x, h, q⟩ => ⟨b, F, σd, W, _, I, x, h, fun k H' F' σd' I' g hr => by
    cases k with
    | true => exact ⟨b, F', σd', W, Qd, I', x, hr, fun k2 H2 F2 σ2 I2 g2 hq => q k2 H2 F2 σ2 I2 (g.trans g2) hq⟩
    | false => exact q false H' F' σd' I' g hr⟩
theorem dw_or {w u : WT} {c : Expr} {rest : List Expr} (h : DT X E a w) (t : DW X E (.BoolOp .Or (c :: rest) pos) u) : DW X E (.BoolOp .Or (a :: c :: rest) pos) (wtOr w u) :=
  PW.imp (pw_or h t) fun σ H Q ⟨b, F, σd, W, Qd, I, x, h, q⟩ => ⟨b, F, σd, W, _, I, x, h, fun k H' F' σd' I' g hr => by
    cases k with
    | false => exact ⟨b, F', σd', W, Qd, I', x, hr, fun k2 H2 F2 σ2 I2 g2 hq => q k2 H2 F2 σ2 I2 (g.trans g2) hq⟩
    | true => exact q true H' F' σd' I' g hr⟩
theorem dw_dt {w : WT} (h : DW X E e w) : DT X E e w := h.pt
/-! values by and, or, not: all but the last True or False -/
def weAnd (w u : WE) : WE := fun X σd Q => w X σd fun r σ1 => match r with
  | .d (.bool true) => u X σ1 Q
  | .d (.bool false) => Q (.d (.bool false)) σ1
  | _ => False
def weOr (w u : WE) : WE := fun X σd Q => w X σd fun r σ1 => match r with
  | .d (.bool false) => u X σ1 Q
  | .d (.bool true) => Q (.d (.bool true)) σ1
  | _ => False
theorem de_one {op} {w : WE} (h : DE X E a w) : DE X E (.BoolOp op [a] pos) w := pe_one h
theorem de_and {w u : WE} {c : Expr} {rest : List Expr} (h : DE X E a w) (t : DE X E (.BoolOp .And (c :: rest) pos) u) : DE X E (.BoolOp .And (a :: c :: rest) pos) (weAnd w u) :=
  (pe_and h t).imp fun σ H Q ⟨b, F, σd, W, Qd, I, x, h, q⟩ => ⟨b, F, σd, W, _, I, x, h, fun v H' F' r σd' I' g rr hr => by
    split at hr
    · cases rr
      exact ⟨true, rfl, b, F', σd', W, Qd, I', x, hr, fun k2 H2 F2 r2 σ2 I2 g2 rr2 hq => q k2 H2 F2 r2 σ2 I2 (g.trans g2) rr2 hq⟩
    · cases rr
      exact ⟨false, rfl, q _ H' F' (.d (.bool false)) σd' I' g (Dp.bl false) hr⟩
    · exact hr.elim⟩
theorem de_or {w u : WE} {c : Expr} {rest : List Expr} (h : DE X E a w) (t : DE X E (.BoolOp .Or (c :: rest) pos) u) : DE X E (.BoolOp .Or (a :: c :: rest) pos) (weOr w u) :=
  (pe_or h t).imp fun σ H Q ⟨b, F, σd, W, Qd, I, x, h, q⟩ => ⟨b, F, σd, W, _, I, x, h, fun v H' F' r σd' I' g rr hr => by
    split at hr
    · cases rr
      exact ⟨false, rfl, b, F', σd', W, Qd, I', x, hr, fun k2 H2 F2 r2 σ2 I2 g2 rr2 hq => q k2 H2 F2 r2 σ2 I2 (g.trans g2) rr2 hq⟩
    · cases rr
      exact ⟨true, rfl, q _ H' F' (.d (.bool true)) σd' I' g (Dp.bl true) hr⟩
    · exact hr.elim⟩
def weNot (w : WE) : WE := fun X σd Q => w X σd fun r σ1 => match r with
  | .d (.bool k) => Q (.d (.bool (!k))) σ1
  | _ => False
theorem de_not {w : WE} (h : DE X E a w) : DE X E (.UnaryOp .Not a pos) (weNot w) :=
  (pe_not h).imp fun σ H Q ⟨b, F, σd, W, Qd, I, x, h, q⟩ => ⟨b, F, σd, W, _, I, x, h, fun v H' F' r σd' I' g rr hr => by
    split at hr
    · rename_i k
      cases rr
      exact ⟨k, rfl, q _ H' F' (.d (.bool _)) σd' I' g (Dp.bl _) hr⟩
    · exact hr.elim⟩
def weIf (t : WT) (w u : WE) : WE := fun X σd Q => t X σd fun k σ1 => if k = true then w X σ1 Q else u X σ1 Q
theorem de_if {t : WT} {w u : WE} (ht : DT X E e t) (h : DE X E a w) (h2 : DE X E c u) : DE X E (.IfExp e a c pos) (weIf t w u) :=
  (pe_ifExp ht h h2).imp fun σ H Q ⟨b, F, σd, W, Qd, I, x, h, q⟩ => ⟨b, F, σd, W, _, I, x, h, fun k H' F' σd' I' g hr => by
    cases k with
    | true => exact ⟨b, F', σd', W, Qd, I', x, hr, fun k2 H2 F2 r2 σ2 I2 g2 rr2 hq => q k2 H2 F2 r2 σ2 I2 (g.trans g2) rr2 hq⟩
    | false => exact ⟨b, F', σd', W, Qd, I', x, hr, fun k2 H2 F2 r2 σ2 I2 g2 rr2 hq => q k2 H2 F2 r2 σ2 I2 (g.trans g2) rr2 hq⟩⟩
/-- a op1 b op2 c -/
def w3 (p p' : P2) (a c e : Opd) : WE := fun X σd Q => wO a X σd fun x σ1 => wO c X σ1 fun y σ2 => ∃ d1 d2, rs σ2 x = some d1 ∧ rs σ2 y = some d2 ∧ p d1 d2 fun r => match r with
  | .d (.bool true) => wO e X σ2 fun z σ3 => ∃ d2' d3, rs σ3 y = some d2' ∧ rs σ3 z = some d3 ∧ p' d2' d3 fun r => Q r σ3
  | .d (.bool false) => Q (.d (.bool false)) σ2
  | _ => False
theorem t3_of {r r' : R2} {p p' : P2} {K : PySem.W.Frag} {mg : Str → Option Value} {σ : St} {H : Hp} {Q : VK} (hp : P2Ok K r p) (hp' : P2Ok K r' p') {oa oc oe : Opd} (h : tD K mg E (w3 p p' oa oc oe) σ H Q) : tChain r r' (tO K mg E oa) (tO K mg E oc) (tO K mg E oe) σ H Q := by
  obtain ⟨b, F, σd, X, Qd, I, x, h, q⟩ := h
  refine tO_run I x h fun v H1 F1 av σ1 I1 g1 r1 h1 => tO_run I1 x h1 fun u H2 F2 aw σ2 I2 g2 r2 ⟨d, e, e1, e2, h2⟩ =>
    hp b F2 H2 σ σ2 v u d e _ _ I2 (I2.bv (r1.mono g2) e1) (I2.bv r2 e2) h2 fun w H3 F3 rr I3 g3 rv hq => ?_
  split at hq
  · cases rv
    refine ⟨true, rfl, ?_⟩
    rw [if_pos rfl]
    exact tO_run I3 x hq fun z H4 F4 az σ4 I4 g4 r4 ⟨d2, d3, e3, e4, h4⟩ => hp' b F4 H4 σ σ4 u z d2 d3 Q _ I4 (I4.bv ((r2.mono g3).mono g4) e3) (I4.bv r4 e4) h4 fun w5 H5 F5 rr5 I5 g5 rv5 hq5 =>
      q w5 H5 F5 rr5 σ4 I5 ((((g1.trans g2).trans g3).trans g4).trans g5) rv5 hq5
  · cases rv
    refine ⟨false, rfl, ?_⟩
    rw [if_neg Bool.false_ne_true]
    exact q _ H3 F3 (.d (.bool false)) σ2 I3 ((g1.trans g2).trans g3) (Dp.bl false) hq
  · exact hq.elim
theorem de_chain {op op' : CmpOp} {r r' : R2} {p p' : P2} {oa oc oe : Opd} (ho : OpR X (compareOp op) r) (ho' : OpR X (compareOp op') r') (hp : P2Ok X.K r p) (hp' : P2Ok X.K r' p') (ha : DO X E a oa) (hc : DO X E c oc) (he : DO X E e oe)
    (hm : lastMarks [op, op'] [c, e] = false) : DE X E (.Compare a [op, op'] [c, e] pos) (w3 p p' oa oc oe) := (pe_chain ho ho' ha hc he hm).imp fun _ _ _ h => t3_of hp hp' h
theorem dt_chain {op op' : CmpOp} {r r' : R2} {p p' : P2} {oa oc oe : Opd} (ho : OpR X (compareOp op) r) (ho' : OpR X (compareOp op') r') (hp : P2Ok X.K r p) (hp' : P2Ok X.K r' p') (ha : DO X E a oa) (hc : DO X E c oc) (he : DO X E e oe)
    (hm : lastMarks [op, op'] [c, e] = false) : DT X E (.Compare a [op, op'] [c, e] pos) (wtB (w3 p p' oa oc oe)) := (pt_chain ho ho' ha hc he hm).imp fun σ H Q h => by
    obtain ⟨b, F, σd, W, Qd, I, x, h, q⟩ := h
    refine t3_of (K := X.K) (mg := X.mg) (E := E) hp hp' ⟨b, F, σd, W, _, I, x, h, fun v H' F' r σd' I' g rr hr => ?_⟩
    split at hr
    · rename_i k
      cases rr
      exact ⟨k, rfl, q k H' F' σd' I' g hr⟩
    · exact hr.elim
end
end DL
end L2
set_option Elab.async false
set_option maxRecDepth 100000
set_option maxHeartbeats 1000000
/-! The data layer, part 3: the pure operations. -/
namespace L2
open PySem PySem.Spec PyProof.Rows
namespace DL

section
variable {K : PySem.W.Frag} {b : Bs} {F H : Hp} {σ : St} {σd : SD} {Qd : Rv → Prop} {Q : VK}
theorem Iv.fr1 (I : Iv K b F H σ σd) {p : Addr} (hp : H p = none) {xs : List V} {ds : List D} (r : DpAll K F xs ds) : Fr1 K b F (upd H p (.lst xs)) σ σd p (.list ds) := by
  refine ⟨?_, ?_, ⟨xs, upd_same, r⟩, fun i z => ?_, fun t ht z => ?_⟩
  · cases e : F p with
    | none => rfl
    | some o => rw [I.sub _ _ e] at hp; cases hp
  · cases e : b.H0 p with
    | none => rfl
    | some o => exact absurd hp (I.trk p (by rw [e]; exact fun z => by cases z))
  · obtain ⟨z1, d, z2⟩ := z
    rcases z2 with z2 | z2
    · obtain ⟨a, e, _, _, q⟩ := I.sl i _ _ z1 z2
      cases e
      obtain ⟨o, ho, _⟩ := q.some
      rw [hp] at ho; cases ho
    · obtain ⟨a, e, _, _, q⟩ := I.sl i _ _ z1 z2
      cases e
      obtain ⟨o, ho, _⟩ := q.some
      rw [hp] at ho; cases ho
  · have := (I.tmp t ht).1
    rw [z, hp] at this; cases this
/-- a new list -/
theorem Ends1.list (e : Ends1 K b F σ σd Qd Q) (I : Iv K b F H σ σd) {p : Addr} (hp : H p = none) {xs : List V} {ds : List D} (r : DpAll K F xs ds) (q : Qd (.f (.list ds))) : Q (.ref p) (upd H p (.lst xs)) :=
  e _ _ F (.f (.list ds)) (I.laid _ hp) (Grow.refl F) ⟨p, rfl, I.fr1 hp r⟩ q
/-- a new tuple -/
theorem Ends1.tup (e : Ends1 K b F σ σd Qd Q) (I : Iv K b F H σ σd) {p : Addr} (hp : H p = none) {xs : List V} {ds : List D} (r : DpAll K F xs ds) (q : Qd (.d (.tuple ds))) : Q (.ref p) (upd H p (.tup xs)) :=
  e _ _ (upd F p (.tup xs)) (.d (.tuple ds)) (I.alloc _ hp) (I.growq _ hp) (.tup (.inl (.inl upd_same)) (dpa_mono (I.growq _ hp) r)) q
theorem Ends1.same (e : Ends1 K b F σ σd Qd Q) (I : Iv K b F H σ σd) {v : V} {d : D} (r : Dp K F v d) (q : Qd (.d d)) : Q v H := e v H F (.d d) I (Grow.refl F) r q
end

/-! ### arithmetic -/
def pAdd : P2
  | .int i, .int j, Q => Q (.d (.int (i + j)))
  | .list a, .list c, Q => a.length + c.length ≤ sizeLine ∧ Q (.f (.list (a ++ c)))
  | .tuple a, .tuple c, Q => a.length + c.length ≤ sizeLine ∧ Q (.d (.tuple (a ++ c)))
  | .str a, .str c, Q => a.length + c.length ≤ sizeLine ∧ Q (.d (.str (a ++ c)))
  | _, _, _ => False
/-- list + list, of any lists that are read -/
def rCatL (K : PySem.W.Frag) : R2 := fun x y H Q => ∃ l b xs zs, x = .ref l ∧ y = .ref b ∧ SqL K H l xs ∧ SqL K H b zs ∧ xs.length + zs.length ≤ sizeLine ∧ ∀ p, H p = none → Q (.ref p) (upd H p (.lst (xs ++ zs)))
theorem op_catL {X : Cx} : OpR X (binaryOp .Add) (rCatL X.K) := by
  intro pins s σ H x y v u Q I rx ry h
  obtain ⟨l, b, xs, zs, rfl, rfl, hH, hB, hz, q⟩ := h
  cases rx
  cases ry
  obtain ⟨its, r, ⟨⟨cls, dd, data, sl⟩, n, e, c1, c2, c3⟩, z⟩ := I.list hH
  obtain ⟨its2, r2, ⟨⟨cls2, dd2, data2, sl2⟩, n2, e2, d1, d2, d3⟩, z2⟩ := I.list hB
  have hl := r.length
  have hl2 := r2.length
  simp only at c1 c2 c3 d1 d2 d3
  subst c1 c2 c3 d1 d2 d3
  have ea : its.toArray ++ its2.toArray = (its ++ its2).toArray := by simp
  refine concat_meets ⟨_, e, rfl⟩ ⟨_, e2, rfl⟩ noFill_list_add seq_list_add PySem.F.slot_list_add PySem.F.entry_list_add (PySem.F.args_list_add_2 _ _) (list_addW l b its.toArray its2.toArray n n2 none none sl sl2 (by simpa [← hl, ← hl2] using hz)) ⟨e, e2, ?_⟩
  rw [ea]
  exact ⟨.ref _, _, I.lnew (t' := s.toks) (r.append r2) (by rw [List.length_append]; omega), rfl, q _ I.fresh⟩
abbrev rAdd (K : PySem.W.Frag) : R2 := fun x y H Q => (rI0 fun i j => .int (i + j)) x y H Q ∨ (rCatL K x y H Q ∨ (rCatA K x y H Q ∨ ∃ i j, x = .str i ∧ y = .str j ∧ i.length + j.length ≤ sizeLine ∧ Q (.str (i ++ j)) H))
theorem op_addD {X : Cx} : OpR X (binaryOp .Add) (rAdd X.K) := op_add.or (op_catL.or (op_catA.or op_add_str))
theorem ok_add {K : PySem.W.Frag} : P2Ok K (rAdd K) pAdd := by
  intro b F H σ σd x y d e Q Qd I rx ry h q
  unfold pAdd at h
  split at h
  · rename_i i j
    rw [rx.int, ry.int]
    exact .inl ⟨i, j, rfl, rfl, q.same I (.int _) h⟩
  · obtain ⟨a, xs, rfl, h1, h2⟩ := rx.lst I.toExt
    obtain ⟨c, ys, rfl, h3, h4⟩ := ry.lst I.toExt
    refine .inr (.inl ⟨a, c, xs, ys, rfl, rfl, h1, h3, by rw [dpa_len h2, dpa_len h4]; exact h.1, fun p hp => q.list I hp (dpa_app h2 h4) h.2⟩)
  · obtain ⟨a, xs, rfl, h0, h1, h2⟩ := rx.tup I.toExt
    obtain ⟨c, ys, rfl, h5, h3, h4⟩ := ry.tup I.toExt
    refine .inr (.inr (.inl ⟨a, c, xs, ys, rfl, rfl, h1, h3, by rw [dpa_len h2, dpa_len h4]; exact h.1, fun e => ?_, fun _ e => ?_, fun _ _ p hp => q.tup I hp (dpa_app h2 h4) h.2⟩))
    · subst e
      cases h2
      exact q.same I (.tup h5 h4) h.2
    · subst e
      cases h4
      refine q.same I (.tup h0 h2) ?_
      have := h.2
      rwa [List.append_nil] at this
  · rename_i i j
    rw [rx.str, ry.str]
    exact .inr (.inr (.inr ⟨i, j, rfl, rfl, h.1, q.same I (.str _) h.2⟩))
  · exact h.elim
def pI (g : Int → Int → Int) : P2
  | .int i, .int j, Q => Q (.d (.int (g i j)))
  | _, _, _ => False
def pIC (C : Int → Int → Prop) (g : Int → Int → Int) : P2
  | .int i, .int j, Q => C i j ∧ Q (.d (.int (g i j)))
  | _, _, _ => False
theorem ok_i {K : PySem.W.Frag} {g : Int → Int → Int} : P2Ok K (rI0 fun i j => .int (g i j)) (pI g) := by
  intro b F H σ σd x y d e Q Qd I rx ry h q
  unfold pI at h
  split at h
  · rename_i i j
    rw [rx.int, ry.int]
    exact ⟨i, j, rfl, rfl, q.same I (.int _) h⟩
  · exact h.elim
theorem ok_ic {K : PySem.W.Frag} {C : Int → Int → Prop} {g : Int → Int → Int} : P2Ok K (rI C fun i j => .int (g i j)) (pIC C g) := by
  intro b F H σ σd x y d e Q Qd I rx ry h q
  unfold pIC at h
  split at h
  · rename_i i j
    rw [rx.int, ry.int]
    exact ⟨i, j, rfl, rfl, h.1, q.same I (.int _) h.2⟩
  · exact h.elim
abbrev pSub : P2 := pI fun i j => i - j
abbrev pMul : P2 := pIC IntMulOk fun i j => i * j
def CDivA (_ j : Int) : Prop := j ≠ 0 ∧ j.natAbs.log2 < 9000
abbrev pFdiv : P2 := pIC CDivA fun i j => i.fdiv j
abbrev pMod : P2 := pIC (fun _ j => j ≠ 0) fun i j => i.fmod j
abbrev pPow : P2 := pIC CPow fun i j => i ^ j.toNat
theorem op_mulA {X : Cx} : OpR X (binaryOp .Mult) (rI IntMulOk fun i j => .int (i * j)) := opI fun _ _ _ _ _ _ _ hc q => mul_int q hc
theorem op_fdivA {X : Cx} : OpR X (binaryOp .FloorDiv) (rI CDivA fun i j => .int (i.fdiv j)) := opI fun i j _ _ _ _ _ hc q => floordiv_int hc.1 q (.inl (PyProof.noPylong_of_log2 hc.2))
theorem mulOk_right {i j : Int} (h1 : -(2 ^ 64) < j) (h2 : j < 2 ^ 64) : IntMulOk i j := .of_right (intBits_le_64 h1 h2)
theorem mulOk_left {i j : Int} (h1 : -(2 ^ 64) < i) (h2 : i < 2 ^ 64) : IntMulOk i j := .of_left (intBits_le_64 h1 h2)
/-- list * int, tuple * int -/
def pNeg : P1
  | .int i, Q => Q (.d (.int (-i)))
  | _, _ => False
theorem ok_neg {K : PySem.W.Frag} : P1Ok K (rU fun i => .int (-i)) pNeg := by
  intro b F H σ σd x d Q Qd I rx h q
  unfold pNeg at h
  split at h
  · rename_i i
    rw [rx.int]
    exact ⟨i, rfl, q.same I (.int _) h⟩
  · exact h.elim

/-! ### comparisons -/
def pB (g : Int → Int → Bool) : P2
  | .int i, .int j, Q => Q (.d (.bool (g i j)))
  | _, _, _ => False
theorem ok_b {K : PySem.W.Frag} {g : Int → Int → Bool} : P2Ok K (rI0 fun i j => .bl (g i j)) (pB g) := by
  intro b F H σ σd x y d e Q Qd I rx ry h q
  unfold pB at h
  split at h
  · rename_i i j
    rw [rx.int, ry.int]
    exact ⟨i, j, rfl, rfl, q.same I (.bl _) h⟩
  · exact h.elim
abbrev pLt : P2 := pB fun i j => decide (i < j)
abbrev pLe : P2 := pB fun i j => decide (i ≤ j)
abbrev pGt : P2 := pB fun i j => decide (j < i)
abbrev pGe : P2 := pB fun i j => decide (j ≤ i)
def isDct : D → Bool
  | .dict _ => true
  | _ => false
theorem isDct_ne {d : D} (h : isDct d = false) : ∀ kvs, d ≠ .dict kvs := fun kvs e => by subst e; cases h
/-- what may be compared -/
def CmpOk (d e : D) : Prop := d.canLay0 = true ∧ e.canLay0 = true ∧ min d.depth e.depth ≤ 64
theorem lay_dct {d : D} (h : d.canLay0 = true) : ∀ kvs, d ≠ .dict kvs := fun kvs e => by
  subst e
  simp [PyData.canLay0] at h
def pEq : P2 := fun d e Q => CmpOk d e ∧ Q (.d (.bool (PyData.eqv d e)))
def pNe : P2 := fun d e Q => CmpOk d e ∧ Q (.d (.bool (!PyData.eqv d e)))
def rEqM (K : PySem.W.Frag) : R2 := fun x y H Q => ∃ d e, Dp K H x d ∧ Dp K H y e ∧ CmpOk d e ∧ Q (.bl (PyData.eqv d e)) H
def rNeM (K : PySem.W.Frag) : R2 := fun x y H Q => ∃ d e, Dp K H x d ∧ Dp K H y e ∧ CmpOk d e ∧ Q (.bl (!PyData.eqv d e)) H
theorem op_eqM {X : Cx} (hu : X.A.units + 64 < cLine) : OpR X (compareOp .Eq) (rEqM X.K) := by
  intro pins s σ H x y v u Q I rx ry h
  obtain ⟨d, e, hd, he, ⟨c1, c2, c3⟩, q⟩ := h
  obtain ⟨as, r1⟩ := Dp.reads I d x v hd rx
  obtain ⟨bs, r2⟩ := Dp.reads I e y u he ry
  exact SeqAt.compareEq_reads r1 r2 c1 c2 (by omega) ⟨.bl _, H, I, rfl, q⟩
theorem op_neM {X : Cx} (hu : X.A.units + 64 < cLine) : OpR X (compareOp .NotEq) (rNeM X.K) := by
  intro pins s σ H x y v u Q I rx ry h
  obtain ⟨d, e, hd, he, ⟨c1, c2, c3⟩, q⟩ := h
  obtain ⟨as, r1⟩ := Dp.reads I d x v hd rx
  obtain ⟨bs, r2⟩ := Dp.reads I e y u he ry
  exact SeqAt.compareNe_reads r1 r2 c1 c2 (by omega) ⟨.bl _, H, I, rfl, q⟩
theorem ok_eq {K : PySem.W.Frag} : P2Ok K (rEqM K) pEq := by
  intro b F H σ σd x y d e Q Qd I rx ry h q
  obtain ⟨hc, h⟩ := h
  exact ⟨d, e, rx.dp I.toExt (lay_dct hc.1), ry.dp I.toExt (lay_dct hc.2.1), hc, q.same I (.bl _) h⟩
theorem ok_ne {K : PySem.W.Frag} : P2Ok K (rNeM K) pNe := by
  intro b F H σ σd x y d e Q Qd I rx ry h q
  obtain ⟨hc, h⟩ := h
  exact ⟨d, e, rx.dp I.toExt (lay_dct hc.1), ry.dp I.toExt (lay_dct hc.2.1), hc, q.same I (.bl _) h⟩
/-- is None -/
def isN : D → Bool
  | .none => true
  | _ => false
def pIsN : P2 := fun d e Q => isDct d = false ∧ e = .none ∧ Q (.d (.bool (isN d)))
def pNotN : P2 := fun d e Q => isDct d = false ∧ e = .none ∧ Q (.d (.bool (!isN d)))
theorem dp_isN {K : PySem.W.Frag} {H : Hp} {v : V} {d : D} (r : Dp K H v d) : decide (v = .non) = isN d := by
  cases r <;> rfl
theorem ok_isN {K : PySem.W.Frag} : P2Ok K (fun x y H Q => y = .non ∧ Q (.bl (decide (x = .non))) H) pIsN := by
  intro b F H σ σd x y d e Q Qd I rx ry h q
  obtain ⟨hd, rfl, h⟩ := h
  rw [dp_isN (rx.dp I.toExt (isDct_ne hd))]
  exact ⟨ry.non, q.same I (.bl _) h⟩
theorem ok_notN {K : PySem.W.Frag} : P2Ok K (fun x y H Q => y = .non ∧ Q (.bl (!decide (x = .non))) H) pNotN := by
  intro b F H σ σd x y d e Q Qd I rx ry h q
  obtain ⟨hd, rfl, h⟩ := h
  rw [dp_isN (rx.dp I.toExt (isDct_ne hd))]
  exact ⟨ry.non, q.same I (.bl _) h⟩
/-- in, not in -/
def flatD : D → Bool
  | .none => true
  | .bool _ => true
  | .int _ => true
  | .str _ => true
  | _ => false
def eqF : D → D → Bool
  | .none, .none => true
  | .bool a, .bool b => a == b
  | .bool a, .int b => (if a then 1 else 0) == b
  | .int a, .bool b => a == (if b then 1 else 0)
  | .int a, .int b => a == b
  | .str a, .str b => a == b
  | _, _ => false
theorem flat_of {K : PySem.W.Frag} {H : Hp} {v : V} {d : D} (r : Dp K H v d) (h : flatD d = true) : flatV v = true := by
  cases r with
  | lst _ _ => cases h
  | tup _ _ => cases h
  | _ => rfl
theorem eqF_of {K : PySem.W.Frag} {H : Hp} {v w : V} {d e : D} (r : Dp K H v d) (s : Dp K H w e) (h : flatD d = true) (h' : flatD e = true) : eqV v w = eqF d e := by
  cases r with
  | lst _ _ => cases h
  | tup _ _ => cases h
  | _ => cases s with
    | lst _ _ => cases h'
    | tup _ _ => cases h'
    | _ => rfl
theorem flats_of {K : PySem.W.Frag} {H : Hp} : ∀ {vs : List V} {ds : List D}, DpAll K H vs ds → ds.all flatD = true → vs.all flatV = true
  | _, _, .nil, _ => rfl
  | _, _, .cons h t, e => by
    rw [List.all_cons, Bool.and_eq_true] at e ⊢
    exact ⟨flat_of h e.1, flats_of t e.2⟩
theorem any_of {K : PySem.W.Frag} {H : Hp} {x : V} {d : D} (r : Dp K H x d) (h : flatD d = true) : ∀ {vs : List V} {ds : List D}, DpAll K H vs ds → ds.all flatD = true → (vs.any fun y => eqV y x) = ds.any fun y => eqF y d
  | _, _, .nil, _ => rfl
  | _, _, .cons g t, e => by
    rw [List.all_cons, Bool.and_eq_true] at e
    rw [List.any_cons, List.any_cons, eqF_of g r e.1 h, any_of r h t e.2]
/-- the items of a list or tuple -/
def itemsD : D → Option (List D)
  | .list l => some l
  | .tuple l => some l
  | _ => none
/-- the keys of a dict that is told -/
def hasKey (kvs : List (D × D)) (k : D) : Bool := kvs.any fun p => eqF p.1 k
def pIn (neg : Bool) : P2 := fun d e Q => match itemsD e with
  | some l => flatD d = true ∧ l.all flatD = true ∧ Q (.d (.bool (if neg then !(l.any fun y => eqF y d) else l.any fun y => eqF y d)))
  | none => False
theorem ok_in {K : PySem.W.Frag} {neg : Bool} : P2Ok K (rIn K neg) (pIn neg) := by
  intro b F H σ σd x y d e Q Qd I rx ry h q
  unfold pIn at h
  split at h
  · rename_i l el
    obtain ⟨h1, h2, h⟩ := h
    have hx : Dp K H x d := rx.dp I.toExt (fun kvs z => by subst z; cases h1)
    cases e with
    | list l' =>
      cases el
      obtain ⟨a, xs, rfl, s1, s2⟩ := ry.lst I.toExt
      have hs := dpa_mono I.sub s2
      refine ⟨a, xs, rfl, .inl s1, flat_of hx h1, flats_of hs h2, ?_⟩
      unfold inV
      rw [any_of hx h1 hs h2]
      exact q.same I (.bl _) h
    | tuple l' =>
      cases el
      obtain ⟨a, xs, rfl, _, s1, s2⟩ := ry.tup I.toExt
      have hs := dpa_mono I.sub s2
      refine ⟨a, xs, rfl, .inr s1, flat_of hx h1, flats_of hs h2, ?_⟩
      unfold inV
      rw [any_of hx h1 hs h2]
      exact q.same I (.bl _) h
    | _ => cases el
  · exact h.elim

/-! ### subscripts -/
def pIx : P2
  | .list l, .int i, Q => ∃ d, atI l i = some d ∧ Q (.d d)
  | .tuple l, .int i, Q => ∃ d, atI l i = some d ∧ Q (.d d)
  | .str z, .int i, Q => z.length ≤ sizeLine ∧ ∃ c, atI z.cps.toList i = some c ∧ Q (.d (.str ⟨#[c]⟩))
  | _, _, _ => False
theorem atI_dp {K : PySem.W.Frag} {F : Hp} {vs : List V} {ds : List D} (r : DpAll K F vs ds) {i : Int} {d : D} (h : atI ds i = some d) : ∃ v, atI vs i = some v ∧ Dp K F v d := by
  unfold atI at h ⊢
  rw [dpa_len r]
  cases e : ixN ds.length i with
  | none => rw [e] at h; cases h
  | some j =>
    rw [e] at h
    exact dpa_get r h
theorem ok_ix {K : PySem.W.Frag} : P2Ok K (rIx K) pIx := by
  intro b F H σ σd x y d e Q Qd I rx ry h q
  unfold pIx at h
  split at h
  · obtain ⟨d, h1, h⟩ := h
    obtain ⟨a, xs, rfl, s1, s2⟩ := rx.lst I.toExt
    obtain ⟨v, h2, h3⟩ := atI_dp s2 h1
    rw [ry.int]
    exact .inl ⟨a, xs, _, v, rfl, rfl, s1, h2, q.same I h3 h⟩
  · obtain ⟨d, h1, h⟩ := h
    obtain ⟨a, xs, rfl, _, s1, s2⟩ := rx.tup I.toExt
    obtain ⟨v, h2, h3⟩ := atI_dp s2 h1
    rw [ry.int]
    exact .inr (.inl ⟨a, xs, _, v, rfl, rfl, s1, h2, q.same I h3 h⟩)
  · obtain ⟨hz, c, h1, h⟩ := h
    rw [rx.str, ry.int]
    exact .inr (.inr ⟨_, _, c, rfl, rfl, hz, h1, q.same I (.str _) h⟩)
  · exact h.elim

/-! ### built-in functions -/
theorem bvs_one {K : PySem.W.Frag} {F H : Hp} {xs : List V} {d : D} (h : BVs K F H xs [d]) : ∃ x, xs = [x] ∧ BV K F H x d := by
  cases h with
  | cons h t => cases t; exact ⟨_, rfl, h⟩
theorem bvs_two {K : PySem.W.Frag} {F H : Hp} {xs : List V} {d e : D} (h : BVs K F H xs [d, e]) : ∃ x y, xs = [x, y] ∧ BV K F H x d ∧ BV K F H y e := by
  cases h with
  | cons h t =>
    obtain ⟨y, rfl, hy⟩ := bvs_one t
    exact ⟨_, _, rfl, h, hy⟩
def pLen : PL
  | [.list l], Q => Q (.d (.int l.length))
  | [.tuple l], Q => Q (.d (.int l.length))
  | [.str z], Q => z.length ≤ sizeLine ∧ Q (.d (.int z.length))
  | _, _ => False
theorem ok_len {K : PySem.W.Frag} : PLOk K (fun xs H Q => ∃ x n, xs = [x] ∧ LenV K x H n ∧ Q (.int n) H) pLen := by
  intro b F H σ σd xs ds Q Qd I rx h q
  unfold pLen at h
  split at h
  · obtain ⟨x, hxs, rz⟩ := bvs_one rx
    subst hxs
    replace rx := rz
    obtain ⟨a, xs, rfl, s1, s2⟩ := rx.lst I.toExt
    refine ⟨_, xs.length, rfl, .inl ⟨xs, s1, rfl⟩, ?_⟩
    rw [dpa_len s2]
    exact q.same I (.int _) h
  · obtain ⟨x, hxs, rz⟩ := bvs_one rx
    subst hxs
    replace rx := rz
    obtain ⟨a, xs, rfl, _, s1, s2⟩ := rx.tup I.toExt
    refine ⟨_, xs.length, rfl, .inr ⟨xs, s1, rfl⟩, ?_⟩
    rw [dpa_len s2]
    exact q.same I (.int _) h
  · obtain ⟨x, hxs, rz⟩ := bvs_one rx
    subst hxs
    replace rx := rz
    rw [rx.str]
    exact ⟨_, _, rfl, ⟨h.1, rfl⟩, q.same I (.int _) h.2⟩
  · exact h.elim
def pAbs : PL
  | [.int i], Q => Q (.d (.int (if i < 0 then -i else i)))
  | _, _ => False
theorem ok_abs {K : PySem.W.Frag} : PLOk K (fun xs H Q => ∃ i, xs = [.int i] ∧ Q (.int (if i < 0 then -i else i)) H) pAbs := by
  intro b F H σ σd xs ds Q Qd I rx h q
  unfold pAbs at h
  split at h
  · obtain ⟨x, hxs, rz⟩ := bvs_one rx
    subst hxs
    replace rx := rz
    rw [rx.int]
    exact ⟨_, rfl, q.same I (.int _) h⟩
  · exact h.elim
def pInt : PL
  | [.int i], Q => Q (.d (.int i))
  | _, _ => False
theorem ok_int {K : PySem.W.Frag} : PLOk K (fun xs H Q => (∃ i, xs = [.int i] ∧ Q (.int i) H) ∨ ∃ k, xs = [.bl k] ∧ Q (.int (if k then 1 else 0)) H) pInt := by
  intro b F H σ σd xs ds Q Qd I rx h q
  unfold pInt at h
  split at h
  · obtain ⟨x, hxs, rz⟩ := bvs_one rx
    subst hxs
    replace rx := rz
    rw [rx.int]
    exact .inl ⟨_, rfl, q.same I (.int _) h⟩
  · exact h.elim
/-- list(x), tuple(x) -/
def pList : PL
  | [.list l], Q => Q (.f (.list l))
  | [.tuple l], Q => Q (.f (.list l))
  | _, _ => False
theorem ok_list {K : PySem.W.Frag} : PLOk K (fun xs H Q => ∃ p ys, xs = [.ref p] ∧ (SqL K H p ys ∨ SqT K H p ys) ∧ ∀ l, H l = none → Q (.ref l) (upd H l (.lst ys))) pList := by
  intro b F H σ σd xs ds Q Qd I rx h q
  unfold pList at h
  split at h
  · obtain ⟨x, hxs, rz⟩ := bvs_one rx
    subst hxs
    replace rx := rz
    obtain ⟨a, xs, rfl, s1, s2⟩ := rx.lst I.toExt
    exact ⟨a, xs, rfl, .inl s1, fun l hl => q.list I hl s2 h⟩
  · obtain ⟨x, hxs, rz⟩ := bvs_one rx
    subst hxs
    replace rx := rz
    obtain ⟨a, xs, rfl, _, s1, s2⟩ := rx.tup I.toExt
    exact ⟨a, xs, rfl, .inr s1, fun l hl => q.list I hl s2 h⟩
  · exact h.elim
def pTup : PL
  | [.list l], Q => Q (.d (.tuple l))
  | [.tuple l], Q => Q (.d (.tuple l))
  | _, _ => False
theorem ok_tup {K : PySem.W.Frag} : PLOk K (fun xs H Q => ∃ p ys, xs = [.ref p] ∧ ((SqL K H p ys ∧ ∀ l, H l = none → Q (.ref l) (upd H l (.tup ys))) ∨ (SqT K H p ys ∧ Q (.ref p) H))) pTup := by
  intro b F H σ σd xs ds Q Qd I rx h q
  unfold pTup at h
  split at h
  · obtain ⟨x, hxs, rz⟩ := bvs_one rx
    subst hxs
    replace rx := rz
    obtain ⟨a, xs, rfl, s1, s2⟩ := rx.lst I.toExt
    exact ⟨a, xs, rfl, .inl ⟨s1, fun l hl => q.tup I hl s2 h⟩⟩
  · obtain ⟨x, hxs, rz⟩ := bvs_one rx
    subst hxs
    replace rx := rz
    obtain ⟨a, xs, rfl, s0, s1, s2⟩ := rx.tup I.toExt
    exact ⟨a, xs, rfl, .inr ⟨s1, q.same I (.tup s0 s2) h⟩⟩
  · exact h.elim
/-! ints and bools in data -/
def intsD : List D → Option (List Int)
  | [] => some []
  | .int i :: r => (intsD r).map (i :: ·)
  | _ => none
def bolsD : List D → Option (List Bool)
  | [] => some []
  | .bool i :: r => (bolsD r).map (i :: ·)
  | _ => none
theorem intsD_map : ∀ ns : List Int, intsD (ns.map PyData.int) = some ns
  | [] => rfl
  | n :: ns => by rw [List.map_cons]; unfold intsD; rw [intsD_map ns]; rfl
theorem bolsD_map : ∀ ns : List Bool, bolsD (ns.map PyData.bool) = some ns
  | [] => rfl
  | n :: ns => by rw [List.map_cons]; unfold bolsD; rw [bolsD_map ns]; rfl
theorem intsD_eq : ∀ {ds : List D} {ns : List Int}, intsD ds = some ns → ds = ns.map PyData.int
  | [], ns, h => by cases h; rfl
  | .int i :: r, ns, h => by
    unfold intsD at h
    cases e : intsD r with
    | none => rw [e] at h; cases h
    | some ms =>
      rw [e] at h
      cases h
      rw [List.map_cons, intsD_eq e]
  | .none :: _, _, h => by cases h
  | .bool _ :: _, _, h => by cases h
  | .str _ :: _, _, h => by cases h
  | .list _ :: _, _, h => by cases h
  | .tuple _ :: _, _, h => by cases h
  | .dict _ :: _, _, h => by cases h
theorem bolsD_eq : ∀ {ds : List D} {ns : List Bool}, bolsD ds = some ns → ds = ns.map PyData.bool
  | [], ns, h => by cases h; rfl
  | .bool i :: r, ns, h => by
    unfold bolsD at h
    cases e : bolsD r with
    | none => rw [e] at h; cases h
    | some ms =>
      rw [e] at h
      cases h
      rw [List.map_cons, bolsD_eq e]
  | .none :: _, _, h => by cases h
  | .int _ :: _, _, h => by cases h
  | .str _ :: _, _, h => by cases h
  | .list _ :: _, _, h => by cases h
  | .tuple _ :: _, _, h => by cases h
  | .dict _ :: _, _, h => by cases h
theorem dpa_ints {K : PySem.W.Frag} {F : Hp} : ∀ {vs : List V} {ns : List Int}, DpAll K F vs (ns.map PyData.int) → vs = ns.map V.int
  | _, [], .nil => rfl
  | _, n :: ns, .cons h t => by cases h; rw [dpa_ints t]; rfl
theorem dpa_bols {K : PySem.W.Frag} {F : Hp} : ∀ {vs : List V} {ns : List Bool}, DpAll K F vs (ns.map PyData.bool) → vs = ns.map V.bl
  | _, [], .nil => rfl
  | _, n :: ns, .cons h t => by cases h; rw [dpa_bols t]; rfl
theorem ints_dpa {K : PySem.W.Frag} {F : Hp} : ∀ ns : List Int, DpAll K F (ns.map V.int) (ns.map PyData.int)
  | [] => .nil
  | n :: ns => .cons (.int n) (ints_dpa ns)
def pSum : PL
  | [.list l], Q => ∃ ns, intsD l = some ns ∧ Q (.d (.int ns.sum))
  | _, _ => False
def pAny : PL
  | [.list l], Q => ∃ ns, bolsD l = some ns ∧ Q (.d (.bool (ns.any id)))
  | _, _ => False
def pAll : PL
  | [.list l], Q => ∃ ns, bolsD l = some ns ∧ Q (.d (.bool (ns.all id)))
  | _, _ => False
theorem ok_sum {K : PySem.W.Frag} : PLOk K (rSum K) pSum := by
  intro b F H σ σd xs ds Q Qd I rx h q
  unfold pSum at h
  split at h
  · obtain ⟨ns, e, h⟩ := h
    obtain ⟨x, hxs, rz⟩ := bvs_one rx
    subst hxs
    replace rx := rz
    obtain ⟨a, xs, rfl, s1, s2⟩ := rx.lst I.toExt
    rw [intsD_eq e] at s2
    rw [dpa_ints s2] at s1
    exact ⟨a, ns, rfl, s1, q.same I (.int _) h⟩
  · exact h.elim
theorem ok_any {K : PySem.W.Frag} : PLOk K (rAny K) pAny := by
  intro b F H σ σd xs ds Q Qd I rx h q
  unfold pAny at h
  split at h
  · obtain ⟨ns, e, h⟩ := h
    obtain ⟨x, hxs, rz⟩ := bvs_one rx
    subst hxs
    replace rx := rz
    obtain ⟨a, xs, rfl, s1, s2⟩ := rx.lst I.toExt
    rw [bolsD_eq e] at s2
    rw [dpa_bols s2] at s1
    exact ⟨a, ns, rfl, s1, q.same I (.bl _) h⟩
  · exact h.elim
theorem ok_all {K : PySem.W.Frag} : PLOk K (rAll K) pAll := by
  intro b F H σ σd xs ds Q Qd I rx h q
  unfold pAll at h
  split at h
  · obtain ⟨ns, e, h⟩ := h
    obtain ⟨x, hxs, rz⟩ := bvs_one rx
    subst hxs
    replace rx := rz
    obtain ⟨a, xs, rfl, s1, s2⟩ := rx.lst I.toExt
    rw [bolsD_eq e] at s2
    rw [dpa_bols s2] at s1
    exact ⟨a, ns, rfl, s1, q.same I (.bl _) h⟩
  · exact h.elim
/-- max, min: of a list of ints; of two ints -/
def maxL : List Int → Int
  | [] => 0
  | [x] => x
  | x :: y :: r => max x (maxL (y :: r))
def minL : List Int → Int
  | [] => 0
  | [x] => x
  | x :: y :: r => min x (minL (y :: r))
theorem maxL_spec : ∀ (x : Int) (r : List Int), maxL (x :: r) ∈ x :: r ∧ ∀ y ∈ x :: r, y ≤ maxL (x :: r)
  | x, [] => by simp [maxL]
  | x, y :: r => by
    obtain ⟨h1, h2⟩ := maxL_spec y r
    show max x (maxL (y :: r)) ∈ x :: y :: r ∧ ∀ z ∈ x :: y :: r, z ≤ max x (maxL (y :: r))
    refine ⟨?_, fun z hz => ?_⟩
    · rcases Int.le_total x (maxL (y :: r)) with h | h
      · rw [Int.max_eq_right h]
        exact List.mem_cons_of_mem _ h1
      · rw [Int.max_eq_left h]
        exact List.mem_cons_self
    · rcases List.mem_cons.mp hz with rfl | hz
      · exact Int.le_max_left _ _
      · exact Int.le_trans (h2 z hz) (Int.le_max_right _ _)
theorem minL_spec : ∀ (x : Int) (r : List Int), minL (x :: r) ∈ x :: r ∧ ∀ y ∈ x :: r, minL (x :: r) ≤ y
  | x, [] => by simp [minL]
  | x, y :: r => by
    obtain ⟨h1, h2⟩ := minL_spec y r
    show min x (minL (y :: r)) ∈ x :: y :: r ∧ ∀ z ∈ x :: y :: r, min x (minL (y :: r)) ≤ z
    refine ⟨?_, fun z hz => ?_⟩
    · rcases Int.le_total x (minL (y :: r)) with h | h
      · rw [Int.min_eq_left h]
        exact List.mem_cons_self
      · rw [Int.min_eq_right h]
        exact List.mem_cons_of_mem _ h1
    · rcases List.mem_cons.mp hz with rfl | hz
      · exact Int.min_le_left _ _
      · exact Int.le_trans (Int.min_le_right _ _) (h2 z hz)
def pMax : PL
  | [.list l], Q => ∃ ns, intsD l = some ns ∧ ns ≠ [] ∧ Q (.d (.int (maxL ns)))
  | [.int i, .int j], Q => Q (.d (.int (if j > i then j else i)))
  | _, _ => False
def pMin : PL
  | [.list l], Q => ∃ ns, intsD l = some ns ∧ ns ≠ [] ∧ Q (.d (.int (minL ns)))
  | [.int i, .int j], Q => Q (.d (.int (if j < i then j else i)))
  | _, _ => False
abbrev rMaxA (K : PySem.W.Frag) : List V → Hp → VK → Prop := fun xs H Q => rMax K xs H Q ∨ ∃ i j, xs = [.int i, .int j] ∧ Q (.int (if j > i then j else i)) H
abbrev rMinA (K : PySem.W.Frag) : List V → Hp → VK → Prop := fun xs H Q => rMin K xs H Q ∨ ∃ i j, xs = [.int i, .int j] ∧ Q (.int (if j < i then j else i)) H
theorem cr_maxA {X : Cx} (hc : X.calm = true) : CallR X (.builtin "max") (rMaxA X.K) := (cr_max hc).or (call_max2 hc)
theorem cr_minA {X : Cx} (hc : X.calm = true) : CallR X (.builtin "min") (rMinA X.K) := (cr_min hc).or (call_min2 hc)
theorem ok_max {K : PySem.W.Frag} : PLOk K (rMaxA K) pMax := by
  intro b F H σ σd xs ds Q Qd I rx h q
  unfold pMax at h
  split at h
  · obtain ⟨ns, e, hne, h⟩ := h
    obtain ⟨x, hxs, rz⟩ := bvs_one rx
    subst hxs
    replace rx := rz
    obtain ⟨a, xs, rfl, s1, s2⟩ := rx.lst I.toExt
    rw [intsD_eq e] at s2
    rw [dpa_ints s2] at s1
    cases ns with
    | nil => exact absurd rfl hne
    | cons n r =>
      obtain ⟨m1, m2⟩ := maxL_spec n r
      refine .inl ⟨a, n :: r, rfl, s1, Nat.succ_pos _, fun m hm hy => ?_⟩
      rw [Int.le_antisymm (m2 m hm) (hy _ m1)]
      exact q.same I (.int _) h
  · obtain ⟨x, y, hxs, rz, ry⟩ := bvs_two rx
    subst hxs
    replace rx := rz
    rw [rx.int, ry.int]
    exact .inr ⟨_, _, rfl, q.same I (.int _) h⟩
  · exact h.elim
theorem ok_min {K : PySem.W.Frag} : PLOk K (rMinA K) pMin := by
  intro b F H σ σd xs ds Q Qd I rx h q
  unfold pMin at h
  split at h
  · obtain ⟨ns, e, hne, h⟩ := h
    obtain ⟨x, hxs, rz⟩ := bvs_one rx
    subst hxs
    replace rx := rz
    obtain ⟨a, xs, rfl, s1, s2⟩ := rx.lst I.toExt
    rw [intsD_eq e] at s2
    rw [dpa_ints s2] at s1
    cases ns with
    | nil => exact absurd rfl hne
    | cons n r =>
      obtain ⟨m1, m2⟩ := minL_spec n r
      refine .inl ⟨a, n :: r, rfl, s1, Nat.succ_pos _, fun m hm hy => ?_⟩
      rw [Int.le_antisymm (hy _ m1) (m2 m hm)]
      exact q.same I (.int _) h
  · obtain ⟨x, y, hxs, rz, ry⟩ := bvs_two rx
    subst hxs
    replace rx := rz
    rw [rx.int, ry.int]
    exact .inr ⟨_, _, rfl, q.same I (.int _) h⟩
  · exact h.elim

/-! ### isinstance(x, T) of a built-in class -/
def tyD : D → String
  | .none => "NoneType"
  | .bool _ => "bool"
  | .int _ => "int"
  | .str _ => "str"
  | .list _ => "list"
  | .tuple _ => "tuple"
  | .dict _ => "dict"
def isiB (t T : String) : Bool := t == T || (t == "bool" && T == "int")
theorem tyD_of {K : PySem.W.Frag} {F H : Hp} {v : V} {d : D} (g : Grow F H) (r : BV K F H v d) : TyX K H v (.type (tyD d)) := by
  rcases r with r | ⟨a, rfl, r⟩
  · cases r with
    | non => exact .base .non
    | bl x => exact .base (.bl x)
    | int i => exact .base (.int i)
    | str x => exact .base (.str x)
    | lst h _ =>
      rcases h with h | ⟨o, its, n, h, hc, _⟩
      · rcases g.rd h with h | ⟨o, h⟩
        · exact .base (.lst h)
        · exact .base (.frz h)
      · exact .kList h hc
    | tup h _ =>
      rcases h with h | ⟨o, its, n, h, hc, _⟩
      · rcases g.rd h with h | ⟨o, h⟩
        · exact .base (.tup h)
        · exact .fTuple h
      · exact .kTuple h hc
  · cases d with
    | list l =>
      obtain ⟨vs, h, _⟩ := r
      exact .base (.lst h)
    | dict l =>
      rcases r with ⟨vs, h, _⟩ | ⟨vs, _, _, h, _⟩
      · exact .base (.dK h)
      · exact .base (.dT h)
    | _ => exact r.elim
theorem kitB_all {a T : String} (ha : a = "NoneType" ∨ a = "bool" ∨ a = "int" ∨ a = "str" ∨ a = "list" ∨ a = "tuple" ∨ a = "dict") (h : T = "int" ∨ T = "bool" ∨ T = "str" ∨ T = "tuple" ∨ T = "list") : kitB a T = some (isiB a T) := by
  rcases ha with rfl | rfl | rfl | rfl | rfl | rfl | rfl <;> rcases h with rfl | rfl | rfl | rfl | rfl <;> decide +kernel
theorem isi_kit {K : PySem.W.Frag} (d : D) {T : String} (h : T = "int" ∨ T = "bool" ∨ T = "str" ∨ T = "tuple" ∨ T = "list") : PySem.W.kitOne K (.type (tyD d)) (.type T) = some (isiB (tyD d) T) :=
  kit_ty (kitB_all (by cases d <;> simp [tyD]) h)
end DL
end L2
set_option Elab.async false
set_option maxRecDepth 100000
set_option maxHeartbeats 1000000
/-! The data layer, part 4: displays, slices, several values, stores, statements. -/
namespace L2
open PySem PySem.Spec PyProof.Rows
namespace DL

section
variable {K : PySem.W.Frag} {mg : Str → Option Value} {E : XK} {b : Bs} {F F' H H' : Hp} {σ σ' : St} {σd σd' : SD} {X : XW}

/-! ### tuple and list displays -/
def avD : List AV → Option (List D)
  | [] => some []
  | .d x :: r => (avD r).map (x :: ·)
  | .b _ :: _ => none
theorem avs_dpa : ∀ {vs : List V} {xs : List AV} {ds : List D}, AVs K F σ vs xs → avD xs = some ds → DpAll K F vs ds
  | _, _, _, .nil, e => by cases e; exact .nil
  | _, .d x :: r, ds, .cons h t, e => by
    unfold avD at e
    cases q : avD r with
    | none => rw [q] at e; cases e
    | some es =>
      rw [q] at e
      cases e
      exact .cons h (avs_dpa t q)
  | _, .b _ :: _, _, .cons _ _, e => by cases e
def wTup (os : List Opd) : WE := fun X σd Q => wOs os X σd fun xs σ1 => ∃ ds, avD xs = some ds ∧ ds.length ≤ sizeLine ∧ Q (.d (.tuple ds)) σ1
def wLst (os : List Opd) : WE := fun X σd Q => wOs os X σd fun xs σ1 => ∃ ds, avD xs = some ds ∧ ds.length ≤ sizeLine ∧ Q (.f (.list ds)) σ1
theorem tTup_of {os : List Opd} {Q : VK} (h : tD K mg E (wTup os) σ H Q) : tTup (tOs K mg E os) σ H Q := by
  obtain ⟨b, F, σd, X, Qd, I, x, h, q⟩ := h
  refine tOs_run I x h fun vs H1 F1 avs σ1 I1 g1 r1 ⟨ds, e1, hz, h1⟩ => ?_
  have dp := avs_dpa r1 e1
  refine ⟨by rw [dpa_len dp]; exact hz, fun p hp => ?_⟩
  exact q _ _ (upd F1 p (.tup vs)) (.d (.tuple ds)) σ1 (I1.alloc _ hp) (g1.trans (I1.growq _ hp)) (.tup (.inl (.inl upd_same)) (dpa_mono (I1.growq _ hp) dp)) h1
theorem tLst_of {os : List Opd} {Q : VK} (h : tD K mg E (wLst os) σ H Q) : tLst (tOs K mg E os) σ H Q := by
  obtain ⟨b, F, σd, X, Qd, I, x, h, q⟩ := h
  refine tOs_run I x h fun vs H1 F1 avs σ1 I1 g1 r1 ⟨ds, e1, hz, h1⟩ => ?_
  have dp := avs_dpa r1 e1
  refine ⟨by rw [dpa_len dp]; exact hz, fun p hp => ?_⟩
  exact q _ _ F1 (.f (.list ds)) σ1 (I1.laid _ hp) g1 ⟨p, rfl, I1.fr1 hp dp⟩ h1

/-! ### slices -/
inductive SlB where
  | no
  | ex (o : Opd)
def cutA {α : Type} (xs : List α) (lo hi : Option Int) : List α := (xs.drop (HT.sIx xs.length 0 lo)).take (HT.sIx xs.length xs.length hi - HT.sIx xs.length 0 lo)
theorem cutV_dp {vs : List V} {ds : List D} (r : DpAll K F vs ds) (lo hi : Option Int) : DpAll K F (cutV vs lo hi) (cutA ds lo hi) := by
  unfold cutV cutA
  rw [dpa_len r]
  exact dpa_take _ (dpa_drop _ r)
def wSb : SlB → XW → SD → (Option Int → SD → Prop) → Prop
  | .no, _, σd, Q => Q none σd
  | .ex o, X, σd, Q => wO o X σd fun a σ1 => ∃ i, rs σ1 a = some (.int i) ∧ Q (some i) σ1
def pSl (lo hi : Option Int) : P1
  | .list l, Q => Q (.f (.list (cutA l lo hi)))
  | .tuple l, Q => Q (.d (.tuple (cutA l lo hi)))
  | _, _ => False
def wSl (o : Opd) (lo hi : SlB) : WE := fun X σd Q => wO o X σd fun x σ1 => wSb lo X σ1 fun i σ2 => wSb hi X σ2 fun j σ3 => ∃ d, rs σ3 x = some d ∧ pSl i j d fun r => Q r σ3
def tSb (K : PySem.W.Frag) (mg : Str → Option Value) (E : XK) : SlB → TO
  | .no => tNoPart
  | .ex o => tPart (tO K mg E o)
abbrev rSl (K : PySem.W.Frag) : V → Option Int → Option Int → Hp → VK → Prop := fun x lo hi H Q => rSlL K x lo hi H Q ∨ rSlA K x lo hi H Q

/-! ### several values, new ones among them -/
theorem Ext.withT {t : Addr × HO} : Ext { b with T := t :: b.T } F H ↔ Ext b F H := ⟨fun e => ⟨e.sub, e.old, e.keep, e.trk⟩, fun e => ⟨e.sub, e.old, e.keep, e.trk⟩⟩
theorem SlR.withT {t : Addr × HO} {o : Option V} : ∀ {s : Sl}, SlR K { b with T := t :: b.T } F H o s ↔ SlR K b F H o s
  | .un => Iff.rfl
  | .val _ => Iff.rfl
  | .own _ => Iff.rfl
  | .io _ => Iff.rfl
theorem Iv.dropT {t : Addr × HO} (I : Iv K { b with T := t :: b.T } F H σ σd) : Iv K b F H σ σd :=
  ⟨Ext.withT.mp I.toExt, I.len, fun i o s h1 h2 => SlR.withT.mp (I.sl i o s h1 h2), I.apart, I.par, fun p hp => I.tmp p (List.mem_cons_of_mem _ hp)⟩
theorem Iv.addT (I : Iv K b F H σ σd) {a : Addr} {o : HO} (h : H a = some o) (f : F a = none) (h0 : b.H0 a = none) (no : ∀ i, ¬ OA σ σd i a) : Iv K { b with T := (a, o) :: b.T } F H σ σd :=
  ⟨Ext.withT.mpr I.toExt, I.len, fun i o s h1 h2 => SlR.withT.mpr (I.sl i o s h1 h2), I.apart, I.par, fun p hp => by
    rcases List.mem_cons.mp hp with rfl | hp
    · exact ⟨h, f, h0, fun i c z e => no i (by rw [← show c = a from e]; exact z)⟩
    · exact I.tmp p hp⟩
theorem XOk.withT {t : Addr × HO} : XOk mg { b with T := t :: b.T } X E ↔ XOk mg b X E := ⟨fun h nm C F' H' x e z => h nm C F' H' x e (Ext.withT.mpr z), fun h nm C F' H' x e z => h nm C F' H' x e (Ext.withT.mp z)⟩

/-- several values; a new one stands apart from those behind it -/
def RvsR (K : PySem.W.Frag) (F H : Hp) (σ : St) (σd : SD) : Bs → List V → List Rv → Prop
  | _, [], [] => True
  | b, v :: vs, .d x :: rs => Dp K F v x ∧ RvsR K F H σ σd b vs rs
  | b, v :: vs, .f x :: rs => ∃ a o, v = .ref a ∧ Fr1 K b F H σ σd a x ∧ H a = some o ∧ RvsR K F H σ σd { b with T := (a, o) :: b.T } vs rs
  | _, _, _ => False
def wRs : List WE → XW → SD → (List Rv → SD → Prop) → Prop
  | [], _, σd, Q => Q [] σd
  | w :: ws, X, σd, Q => w X σd fun r σ1 => wRs ws X σ1 fun rs σ2 => Q (r :: rs) σ2
def tRs (K : PySem.W.Frag) (mg : Str → Option Value) (E : XK) : List WE → TA
  | [] => tNil
  | w :: ws => tCons (tD K mg E w) (tRs K mg E ws)
theorem tRs_run : ∀ {ws : List WE} {b : Bs} {F H : Hp} {σd : SD} {R : List Rv → SD → Prop} {Q : List V → Hp → Prop} (_ : Iv K b F H σ σd) (_ : XOk mg b X E) (_ : wRs ws X σd R)
    (_ : ∀ vs H' F' rs σd', Iv K b F' H' σ σd' → Grow F F' → RvsR K F' H' σ σd' b vs rs → R rs σd' → Q vs H'), tRs K mg E ws σ H Q
  | [], b, F, H, σd, R, Q, I, x, h, q => q [] H F [] σd I (Grow.refl F) trivial h
  | w :: ws, b, F, H, σd, R, Q, I, x, h, q => by
    refine ⟨b, F, σd, X, _, I, x, h, fun v H1 F1 r σ1 I1 g1 rr h1 => ?_⟩
    cases r with
    | d y => exact tRs_run I1 x h1 fun vs H2 F2 rs σ2 I2 g2 r2 h2 => q (v :: vs) H2 F2 (.d y :: rs) σ2 I2 (g1.trans g2) ⟨dp_mono g2 rr, r2⟩ h2
    | f y =>
      obtain ⟨a, rfl, f⟩ := rr
      obtain ⟨o, ho, _⟩ := f.at_.some
      have I1' := I1.addT ho f.fz f.h0 f.no
      refine tRs_run I1' (XOk.withT.mpr x) h1 fun vs H2 F2 rs σ2 I2 g2 r2 h2 => ?_
      obtain ⟨t1, t2, t3, t4⟩ := I2.tmp (a, o) List.mem_cons_self
      exact q (_ :: vs) H2 F2 (.f y :: rs) σ2 I2.dropT (g1.trans g2) ⟨a, o, rfl, ⟨t2, t3, f.at_.mono g2 (t1.trans ho.symm), fun i z => t4 i a z rfl, f.nt⟩, t1, r2⟩ h2

/-! ### a slot is set -/
def slOf : Rv → Sl
  | .d x => .val x
  | .f x => .own x
def noIo (σd : SD) (i : Nat) : Prop := match σd[i]? with
  | some (.io _) => False
  | none => False
  | _ => True
theorem OA.set {σ : St} {σd : SD} {i j : Nat} {a : Addr} {v : V} {s : Sl} (h : OA (σ.set i (some v)) (σd.set i s) j a) (hi : i < σ.length) (hd : i < σd.length) : (j = i ∧ v = .ref a ∧ ∃ d, s = .own d ∨ s = .io d) ∨ (j ≠ i ∧ OA σ σd j a) := by
  obtain ⟨h1, d, h2⟩ := h
  by_cases z : j = i
  · subst z
    rw [List.getElem?_set_self hi] at h1
    rw [List.getElem?_set_self hd] at h2
    refine .inl ⟨rfl, Option.some.inj (Option.some.inj h1), d, ?_⟩
    rcases h2 with h2 | h2
    · exact .inl (Option.some.inj h2)
    · exact .inr (Option.some.inj h2)
  · rw [List.getElem?_set_ne (Ne.symm z)] at h1 h2
    exact .inr ⟨z, h1, d, h2⟩
theorem Iv.asg (I : Iv K b F H σ σd) {i : Nat} {v : V} {r : Rv} (h : RvR K b F H σ σd v r) (n : noIo σd i) : Iv K b F H (σ.set i (some v)) (σd.set i (slOf r)) := by
  have hd : i < σd.length := by
    unfold noIo at n
    cases e : σd[i]? with
    | none => rw [e] at n; exact n.elim
    | some s => exact (List.getElem?_eq_some_iff.mp e).1
  have hi : i < σ.length := by rw [← I.len]; exact hd
  refine ⟨I.toExt, by rw [List.length_set, List.length_set]; exact I.len, fun j o s e1 e2 => ?_, fun j k c p q => ?_, fun p hp => ?_, fun p hp => ?_⟩
  · by_cases z : i = j
    · subst z
      rw [List.getElem?_set_self hi] at e1
      rw [List.getElem?_set_self hd] at e2
      cases e1
      cases e2
      cases r with
      | d x => exact ⟨v, rfl, h⟩
      | f x =>
        obtain ⟨a, rfl, f⟩ := h
        exact ⟨a, rfl, f.fz, f.h0, f.at_⟩
    · rw [List.getElem?_set_ne z] at e1 e2
      exact I.sl j o s e1 e2
  · rcases OA.set p hi hd with ⟨p1, p2, p3, p4⟩ | ⟨p1, p2⟩
    · rcases OA.set q hi hd with ⟨q1, q2, _⟩ | ⟨q1, q2⟩
      · rw [p1, q1]
      · cases r with
        | d x => rcases p4 with p4 | p4 <;> cases p4
        | f x =>
          obtain ⟨a, e, f⟩ := h
          rw [p2] at e
          cases e
          exact absurd q2 (f.no k)
    · rcases OA.set q hi hd with ⟨q1, q2, q3, q4⟩ | ⟨q1, q2⟩
      · cases r with
        | d x => rcases q4 with q4 | q4 <;> cases q4
        | f x =>
          obtain ⟨a, e, f⟩ := h
          rw [q2] at e
          cases e
          exact absurd p2 (f.no j)
      · exact I.apart j k c p2 q2
  · obtain ⟨p1, d, p2⟩ := I.par p hp
    have z : i ≠ p.1 := fun z => by
      unfold noIo at n
      rw [z, p2] at n
      exact n
    rw [List.getElem?_set_ne z, List.getElem?_set_ne z]
    exact ⟨p1, d, p2⟩
  · obtain ⟨t1, t2, t3, t4⟩ := I.tmp p hp
    refine ⟨t1, t2, t3, fun j c z => ?_⟩
    rcases OA.set z hi hd with ⟨p1, p2, p3, p4⟩ | ⟨_, p2⟩
    · cases r with
      | d x => rcases p4 with p4 | p4 <;> cases p4
      | f x =>
        obtain ⟨a, e, f⟩ := h
        rw [p2] at e
        cases e
        exact (f.nt p hp).symm
    · exact t4 j c p2
/-- what stands new behind a store -/
theorem Fr1.asg {i : Nat} {v : V} {r : Rv} {a : Addr} {x : D} (f : Fr1 K b F H σ σd a x) (hv : ∀ y c, r = .f y → v = .ref c → c ≠ a) (hi : i < σ.length) (hd : i < σd.length) : Fr1 K b F H (σ.set i (some v)) (σd.set i (slOf r)) a x := by
  refine ⟨f.fz, f.h0, f.at_, fun j z => ?_, f.nt⟩
  rcases OA.set z hi hd with ⟨p1, p2, p3, p4⟩ | ⟨_, p2⟩
  · cases r with
    | d x => rcases p4 with p4 | p4 <;> cases p4
    | f y => exact hv y a rfl p2 rfl
  · exact f.no j p2
theorem Fr1.dropT {t : Addr × HO} {a : Addr} {x : D} (f : Fr1 K { b with T := t :: b.T } F H σ σd a x) : Fr1 K b F H σ σd a x := ⟨f.fz, f.h0, f.at_, f.no, fun p hp => f.nt p (List.mem_cons_of_mem _ hp)⟩

/-! ### statements -/
structure EndsOk (K : PySem.W.Frag) (b : Bs) (F : Hp) (Dd : EndsD) (D : Ends) : Prop where
  nx : ∀ σ' F' H' σd', Iv K b F' H' σ' σd' → Grow F F' → Dd.nx σd' → D.nx σ' H'
  rt : ∀ v r σ' F' H' σd', Iv K b F' H' σ' σd' → RvR K b F' H' σ' σd' v r → Grow F F' → Dd.rt r σd' → D.rt v H'
  bk : ∀ σ' F' H' σd', Iv K b F' H' σ' σd' → Grow F F' → Dd.bk σd' → D.bk σ' H'
  ct : ∀ σ' F' H' σd', Iv K b F' H' σ' σd' → Grow F F' → Dd.ct σd' → D.ct σ' H'
theorem EndsOk.grow {Dd : EndsD} {D : Ends} (q : EndsOk K b F Dd D) (g : Grow F F') : EndsOk K b F' Dd D :=
  ⟨fun σ' F' H' σd' I' g' => q.nx σ' F' H' σd' I' (g.trans g'), fun v r σ' F' H' σd' I' rr g' => q.rt v r σ' F' H' σd' I' rr (g.trans g'), fun σ' F' H' σd' I' g' => q.bk σ' F' H' σd' I' (g.trans g'), fun σ' F' H' σd' I' g' => q.ct σ' F' H' σd' I' (g.trans g')⟩
def tDS (K : PySem.W.Frag) (mg : Str → Option Value) (E : XK) (w : WS) : TS := fun D σ H => ∃ b F σd X Dd, Iv K b F H σ σd ∧ XOk mg b X E ∧ w X Dd σd ∧ EndsOk K b F Dd D

def wNx : WS := fun _ D σd => D.nx σd
def wSeq (w u : WS) : WS := fun X D σd => w X { D with nx := fun σ1 => u X D σ1 } σd
def wEx (w : WE) : WS := fun X D σd => w X σd fun _ σ1 => D.nx σ1
def wRet (w : WE) : WS := fun X D σd => w X σd fun r σ1 => D.rt r σ1
def wRetN : WS := fun _ D σd => D.rt (.d .none) σd
def wIf (t : WT) (w u : WS) : WS := fun X D σd => t X σd fun k σ1 => if k = true then w X D σ1 else u X D σ1
def wBk : WS := fun _ D σd => D.bk σd
def wCt : WS := fun _ D σd => D.ct σd
def wsFalse : WS := fun _ _ _ => False
def wSet (i : Nat) (w : WE) : WS := fun X D σd => w X σd fun r σ1 => noIo σ1 i ∧ D.nx (σ1.set i (slOf r))
def wWhile (t : WT) (w : WS) : WS := fun X D σd => ∃ W : Nat → SD → Prop, (∃ m, W m σd) ∧ ∀ m σ1, W m σ1 → t X σ1 fun k σ2 => if k = true then w X { D with nx := fun s => ∃ m', m' < m ∧ W m' s, ct := fun s => ∃ m', m' < m ∧ W m' s, bk := D.nx } σ2 else D.nx σ2
end

abbrev DS (X : Cx) (E : XK) (st : Stmt) (w : WS) : Prop := PS X st (tDS X.K X.mg E w)
abbrev DSs (X : Cx) (E : XK) (sts : List Stmt) (w : WS) : Prop := PSs X sts (tDS X.K X.mg E w)
theorem _root_.L2.PS.imp {X : Cx} {st : Stmt} {t t' : TS} (h : PS X st t) (i : ∀ D σ H, t' D σ H → t D σ H) : PS X st t' := ⟨fun pins s σ H D I q => h.run pins s σ H D I (i _ _ _ q)⟩
theorem _root_.L2.PSs.imp {X : Cx} {st : List Stmt} {t t' : TS} (h : PSs X st t) (i : ∀ D σ H, t' D σ H → t D σ H) : PSs X st t' := ⟨fun pins s σ H D I q => h.run pins s σ H D I (i _ _ _ q)⟩

section
variable {X : Cx} {E : XK} {e a c : Expr} {pos : Pos} {st : Stmt} {sts : List Stmt}
theorem ds_false : DS X E st wsFalse := ⟨fun pins s σ H Q I h => by
  obtain ⟨_, _, _, _, _, _, _, z, _⟩ := h
  exact z.elim⟩
theorem dss_false : DSs X E sts wsFalse := ⟨fun pins s σ H Q I h => by
  obtain ⟨_, _, _, _, _, _, _, z, _⟩ := h
  exact z.elim⟩
theorem dss_nil : DSs X E [] wNx := pss_nil.imp fun D σ H ⟨b, F, σd, W, Dd, I, x, h, q⟩ => q.nx σ F H σd I (Grow.refl F) h
theorem dss_cons {w u : WS} (h1 : DS X E st w) (h2 : DSs X E sts u) : DSs X E (st :: sts) (wSeq w u) := (pss_cons h1 h2).imp fun D σ H ⟨b, F, σd, W, Dd, I, x, h, q⟩ =>
  ⟨b, F, σd, W, _, I, x, h, ⟨fun σ' F' H' σd' I' g h' => ⟨b, F', σd', W, Dd, I', x, h', q.grow g⟩, q.rt, q.bk, q.ct⟩⟩
theorem ds_pass : DS X E (.Pass pos) wNx := ps_pass.imp fun D σ H ⟨b, F, σd, W, Dd, I, x, h, q⟩ => q.nx σ F H σd I (Grow.refl F) h
theorem ds_break : DS X E (.Break pos) wBk := ps_break.imp fun D σ H ⟨b, F, σd, W, Dd, I, x, h, q⟩ => q.bk σ F H σd I (Grow.refl F) h
theorem ds_continue : DS X E (.Continue pos) wCt := ps_continue.imp fun D σ H ⟨b, F, σd, W, Dd, I, x, h, q⟩ => q.ct σ F H σd I (Grow.refl F) h
theorem ds_expr {w : WE} (he : DE X E e w) (hs : swapsWith e none pos.line X.env = pure false) : DS X E (.Expr e pos) (wEx w) :=
  (ps_expr he hs).imp fun D σ H ⟨b, F, σd, W, Dd, I, x, h, q⟩ => ⟨b, F, σd, W, _, I, x, h, fun v H' F' r σd' I' g rr hr => q.nx σ F' H' σd' I' g hr⟩
theorem ds_ret {w : WE} (he : DE X E e w) : DS X E (.Return (some e) pos) (wRet w) :=
  (ps_ret he).imp fun D σ H ⟨b, F, σd, W, Dd, I, x, h, q⟩ => ⟨b, F, σd, W, _, I, x, h, fun v H' F' r σd' I' g rr hr => q.rt v r σ F' H' σd' I' rr g hr⟩
theorem ds_retN : DS X E (.Return none pos) wRetN :=
  ps_retN.imp fun D σ H ⟨b, F, σd, W, Dd, I, x, h, q⟩ => q.rt .non (.d .none) σ F H σd I (Dp.non) (Grow.refl F) h
theorem ds_if {t : WT} {w u : WS} {sa sc : List Stmt} (ht : DT X E e t) (h1 : DSs X E sa w) (h2 : DSs X E sc u) : DS X E (.If e sa sc pos) (wIf t w u) :=
  (ps_if ht h1 h2).imp fun D σ H ⟨b, F, σd, W, Dd, I, x, h, q⟩ => ⟨b, F, σd, W, _, I, x, h, fun k H' F' σd' I' g hr => by
    cases k with
    | true => exact ⟨b, F', σd', W, Dd, I', x, hr, q.grow g⟩
    | false => exact ⟨b, F', σd', W, Dd, I', x, hr, q.grow g⟩⟩
theorem ds_set {i : Nat} {x : Str} {w : WE} {pos' : Pos} (hN : X.N.Nodup) (hi : X.N[i]? = some x) (hx : Loc X.env.scope x) (he : DE X E e w) (hs : swapsWith e (some (.Name x pos')) pos.line X.env = pure false) (hf : X.fn x = true ∨ X.env.scope.names.lookup x = some .local) :
    DS X E (.Assign [.Name x pos'] e pos) (wSet i w) :=
  (ps_set hN hi hx he hs hf).imp fun D σ H ⟨b, F, σd, W, Dd, I, x, h, q⟩ => ⟨b, F, σd, W, _, I, x, h, fun v H' F' r σd' I' g rr hr => q.nx _ F' H' _ (I'.asg rr hr.1) g hr.2⟩
theorem ds_while {t : WT} {w : WS} {body : List Stmt} (hp : PassesOwn (model X.prog X.w) X.A X.env X.xe) (ht : DT X E e t) (hb : DSs X E body w) : DS X E (.While e body [] pos) (wWhile t w) :=
  (ps_while hp ht hb).imp fun D σ H ⟨b, F, σd, W, Dd, I, x, h, q⟩ => by
    obtain ⟨Wd, ⟨m, w0⟩, turn⟩ := h
    refine ⟨fun m σ H => ∃ F1 σd, Iv X.K b F1 H σ σd ∧ Grow F F1 ∧ Wd m σd, ⟨m, F, σd, I, Grow.refl F, w0⟩, fun m σ1 H1 ⟨F1, σd1, I1, g1, w1⟩ => ?_⟩
    refine ⟨b, F1, σd1, W, _, I1, x, turn m σd1 w1, fun k H2 F2 σd2 I2 g2 h2 => ?_⟩
    cases k with
    | true =>
      rw [if_pos rfl] at h2 ⊢
      refine ⟨fun σ' H' => ∃ m', m' < m ∧ ∃ F1 σd, Iv X.K b F1 H' σ' σd ∧ Grow F F1 ∧ Wd m' σd, fun σ' H' z => z, b, F2, σd2, W, _, I2, x, h2, ⟨fun σ' F' H' σd' I' g' ⟨m', hm, w'⟩ => ⟨m', hm, F', σd', I', (g1.trans g2).trans g', w'⟩,
        fun v r σ' F' H' σd' I' rr g' => q.rt v r σ' F' H' σd' I' rr ((g1.trans g2).trans g'), fun σ' F' H' σd' I' g' => q.nx σ' F' H' σd' I' ((g1.trans g2).trans g'), fun σ' F' H' σd' I' g' ⟨m', hm, w'⟩ => ⟨m', hm, F', σd', I', (g1.trans g2).trans g', w'⟩⟩⟩
    | false =>
      rw [if_neg Bool.false_ne_true] at h2 ⊢
      exact q.nx σ1 F2 H2 σd2 I2 (g1.trans g2) h2
theorem de_tup {es : List Expr} {os : List Opd} {x1} (h : DA X E es os) : DE X E (.Tuple es x1 pos) (wTup os) := (pe_tup h).imp fun _ _ _ h => tTup_of h
theorem de_lst {es : List Expr} {os : List Opd} (h : DA X E es os) : DE X E (.List es pos) (wLst os) := (pe_lst h).imp fun _ _ _ h => tLst_of h
abbrev DB (X : Cx) (E : XK) (e : Option Expr) (s : SlB) : Prop := PO X e (tSb X.K X.mg E s)
theorem db_no : DB X E none .no := po_none
theorem db_ex {o : Opd} (h : DO X E e o) : DB X E (some e) (.ex o) := po_some h
theorem tSb_run {K : PySem.W.Frag} {mg : Str → Option Value} {b : Bs} {F H : Hp} {σ : St} {σd : SD} {W : XW} {s : SlB} {R : Option Int → SD → Prop} {Q : Option Int → Hp → Prop} (I : Iv K b F H σ σd) (x : XOk mg b W E) (h : wSb s W σd R)
    (q : ∀ i H' F' σ1, Iv K b F' H' σ σ1 → Grow F F' → R i σ1 → Q i H') : tSb K mg E s σ H Q := by
  cases s with
  | no => exact q none H F σd I (Grow.refl F) h
  | ex o =>
    refine tO_run I x h fun v H1 F1 av σ1 I1 g1 r1 ⟨i, e, h1⟩ => ?_
    rw [(I1.bv r1 e).int]
    exact ⟨i, rfl, q (some i) H1 F1 σ1 I1 g1 h1⟩
theorem ok_sl {K : PySem.W.Frag} {b : Bs} {F H : Hp} {σ : St} {σd : SD} {x : V} {d : D} {i j : Option Int} {Q : VK} {Qd : Rv → Prop} (I : Iv K b F H σ σd) (rx : BV K F H x d) (h : pSl i j d Qd) (q : Ends1 K b F σ σd Qd Q) : rSl K x i j H Q := by
  unfold pSl at h
  split at h
  · obtain ⟨a, xs, rfl, s1, s2⟩ := rx.lst I.toExt
    exact .inl ⟨a, xs, rfl, s1, fun p hp => q.list I hp (cutV_dp s2 i j) h⟩
  · obtain ⟨a, xs, rfl, s0, s1, s2⟩ := rx.tup I.toExt
    refine .inr ⟨a, xs, rfl, s1, fun ⟨e1, e2⟩ => ?_, fun _ p hp => q.tup I hp (cutV_dp s2 i j) h⟩
    have z : ∀ {α : Type} (l : List α), l.length = xs.length → cutA l i j = l := fun l hl => by
      unfold cutA
      rw [hl, e1, e2]
      simp [← hl]
    rw [z _ (dpa_len s2).symm] at h
    exact q.same I (.tup s0 s2) h
  · exact h.elim
theorem de_sl {o : Opd} {lo hi : Option Expr} {l u : SlB} {p2 : Pos} (he : DO X E e o) (hl : DB X E lo l) (hu : DB X E hi u) : DE X E (.Subscript e (.Slice lo hi none p2) pos) (wSl o l u) :=
  (pe_slice (SlR.or sl_list sl_tupA) he hl hu).imp fun σ H Q ⟨b, F, σd, W, Qd, I, x, h, q⟩ => by
    refine tO_run I x h fun v H1 F1 av σ1 I1 g1 r1 h1 => tSb_run I1 x h1 fun i H2 F2 σ2 I2 g2 h2 => tSb_run I2 x h2 fun j H3 F3 σ3 I3 g3 ⟨d, e3, h3⟩ => ?_
    exact ok_sl I3 (I3.bv ((r1.mono g2).mono g3) e3) h3 fun w H4 F4 r I4 g4 rv hq => q w H4 F4 r σ3 I4 (((g1.trans g2).trans g3).trans g4) rv hq
end
end DL
end L2
set_option Elab.async false
set_option maxRecDepth 100000
set_option maxHeartbeats 1000000
/-! The data layer, part 5: what is walked, targets, for, list comprehensions. -/
namespace L2
open PySem PySem.Spec PyProof.Rows
namespace DL

/-- what an iterator yields, told by frozen data -/
structure ItOk (K : PySem.W.Frag) (F0 : Hp) (J : It) (items : List D) : Prop where
  go : ∀ i F H, Grow F0 F → Grow F H → i < items.length → J.go i H
  yld : ∀ i F H x H' d, Grow F0 F → Grow F H → items[i]? = some d → J.yld i H x H' → (H' = H ∧ Dp K F x d) ∨ ∃ T xs ds, H T = none ∧ H' = upd H T (.tup xs) ∧ x = .ref T ∧ d = .tuple ds ∧ DpAll K F xs ds
  stop : ∀ F H, Grow F0 F → Grow F H → J.stop items.length H
abbrev WI := XW → SD → (List D → SD → Prop) → Prop
def tDI (K : PySem.W.Frag) (mg : Str → Option Value) (E : XK) (w : WI) : TI := fun σ H R => ∃ b F σd X Rd, Iv K b F H σ σd ∧ XOk mg b X E ∧ w X σd Rd ∧
  ∀ J items F' H' σd', Iv K b F' H' σ σd' → Grow F F' → ItOk K F' J items → Rd items σd' → R J H'
abbrev DI (X : Cx) (E : XK) (tg e : Expr) (w : WI) : Prop := PI X tg e (tDI X.K X.mg E w)
theorem _root_.L2.PI.imp {X : Cx} {tg e : Expr} {t t' : TI} (h : PI X tg e t) (i : ∀ σ H R, t' σ H R → t σ H R) : PI X tg e t' := ⟨fun pins s σ H R I q => h.run pins s σ H R I (i _ _ _ q)⟩

section
variable {K : PySem.W.Frag} {mg : Str → Option Value} {E : XK} {b : Bs} {F F' H H' : Hp} {σ σ' : St} {σd σd' : SD} {X : XW}
theorem itok_list {a : Addr} {xs : List V} {ds : List D} (h : SqL K F a xs) (r : DpAll K F xs ds) : ItOk K F (Itl K a) ds := by
  refine ⟨fun i F1 H g s hi => ?_, fun i F1 H x H' d g s e y => ?_, fun F1 H g s => ⟨xs, (g.trans s).sql h, by rw [dpa_len r]; exact Nat.le_refl _⟩⟩
  · rw [← dpa_len r] at hi
    exact ⟨xs, xs[i], (g.trans s).sql h, List.getElem?_eq_getElem hi⟩
  · obtain ⟨v, e1, e2⟩ := dpa_get r e
    obtain ⟨y1, y2⟩ := y
    have := y2 xs ((g.trans s).sql h)
    rw [e1] at this
    cases this
    exact .inl ⟨y1, dp_mono g e2⟩
theorem itok_tup {a : Addr} {xs : List V} {ds : List D} (h : SqT K F a xs) (r : DpAll K F xs ds) : ItOk K F (Itt K a) ds := by
  refine ⟨fun i F1 H g s hi => ?_, fun i F1 H x H' d g s e y => ?_, fun F1 H g s => ⟨xs, (g.trans s).sqt h, by rw [dpa_len r]; exact Nat.le_refl _⟩⟩
  · rw [← dpa_len r] at hi
    exact ⟨xs, xs[i], (g.trans s).sqt h, List.getElem?_eq_getElem hi⟩
  · obtain ⟨v, e1, e2⟩ := dpa_get r e
    obtain ⟨y1, y2⟩ := y
    have := y2 xs ((g.trans s).sqt h)
    rw [e1] at this
    cases this
    exact .inl ⟨y1, dp_mono g e2⟩
/-- lo, lo + 1, .. -/
def rangeD (lo : Int) (n : Nat) : List D := (List.range n).map fun i => .int (lo + (i : Nat))
theorem rangeD_len (lo : Int) (n : Nat) : (rangeD lo n).length = n := by unfold rangeD; rw [List.length_map, List.length_range]
theorem itok_range {lo : Int} {n : Nat} : ItOk K F (Itr lo n) (rangeD lo n) := by
  refine ⟨fun i F1 H g s hi => by rw [rangeD_len] at hi; exact hi, fun i F1 H x H' d g s e y => ?_, fun F1 H g s => by rw [rangeD_len]; exact Nat.le_refl _⟩
  obtain ⟨y1, y2⟩ := y
  unfold rangeD at e
  rw [List.getElem?_map] at e
  cases q : (List.range n)[i]? with
  | none => rw [q] at e; cases e
  | some j =>
    rw [q] at e
    cases e
    have hj : j = i := by
      have hi := (List.getElem?_eq_some_iff.mp q).1
      rw [List.getElem?_eq_getElem hi, List.getElem_range] at q
      exact (Option.some.inj q).symm
    subst hj
    subst y2
    exact .inl ⟨y1, .int _⟩
def enumD : Nat → List D → List D
  | _, [] => []
  | n, d :: r => .tuple [.int (n : Nat), d] :: enumD (n + 1) r
theorem enumD_len : ∀ (n : Nat) (ds : List D), (enumD n ds).length = ds.length
  | _, [] => rfl
  | n, d :: r => by
    show (enumD (n + 1) r).length + 1 = r.length + 1
    rw [enumD_len]
theorem enumD_get : ∀ (n : Nat) (ds : List D) (i : Nat), (enumD n ds)[i]? = (ds[i]?).map fun d => .tuple [.int ((n + i : Nat) : Int), d]
  | _, [], i => by simp [enumD]
  | n, d :: r, 0 => by simp [enumD]
  | n, d :: r, i + 1 => by
    show (enumD (n + 1) r)[i]? = _
    rw [enumD_get, Nat.add_assoc, Nat.add_comm 1 i]
    rfl
theorem itok_enum {a : Addr} {xs : List V} {ds : List D} (h : SqL K F a xs) (r : DpAll K F xs ds) : ItOk K F (Ite K a) (enumD 0 ds) := by
  refine ⟨fun i F1 H g s hi => ?_, fun i F1 H x H' d g s e y => ?_, fun F1 H g s => ⟨xs, (g.trans s).sql h, by rw [dpa_len r, enumD_len]; exact Nat.le_refl _⟩⟩
  · rw [enumD_len, ← dpa_len r] at hi
    exact ⟨xs, xs[i], (g.trans s).sql h, List.getElem?_eq_getElem hi⟩
  · rw [enumD_get] at e
    cases q : ds[i]? with
    | none => rw [q] at e; cases e
    | some d' =>
      rw [q] at e
      cases e
      obtain ⟨v, e1, e2⟩ := dpa_get r q
      obtain ⟨T, x', y1, y2, y3, y4⟩ := y
      have := y4 xs ((g.trans s).sql h)
      rw [e1] at this
      cases this
      refine .inr ⟨T, _, _, y2, y3, y1, rfl, ?_⟩
      rw [Nat.zero_add]
      exact .cons (.int _) (.cons (dp_mono g e2) .nil)
def zipD : List D → List D → List D
  | x :: xs, y :: ys => .tuple [x, y] :: zipD xs ys
  | _, _ => []
theorem zipD_len : ∀ (xs ys : List D), (zipD xs ys).length = min xs.length ys.length
  | [], ys => by simp [zipD]
  | x :: xs, [] => by simp [zipD]
  | x :: xs, y :: ys => by
    show (zipD xs ys).length + 1 = min (xs.length + 1) (ys.length + 1)
    rw [zipD_len]
    omega
theorem zipD_get : ∀ (xs ys : List D) (i : Nat) (d : D), (zipD xs ys)[i]? = some d → ∃ x y, xs[i]? = some x ∧ ys[i]? = some y ∧ d = .tuple [x, y]
  | [], ys, i, d, h => by simp [zipD] at h
  | x :: xs, [], i, d, h => by simp [zipD] at h
  | x :: xs, y :: ys, 0, d, h => by
    simp [zipD] at h
    exact ⟨x, y, rfl, rfl, h.symm⟩
  | x :: xs, y :: ys, i + 1, d, h => zipD_get xs ys i d (by simpa [zipD] using h)
theorem itok_zipL {a c : Addr} {xs ys : List V} {ds es : List D} (h : SqL K F a xs) (r : DpAll K F xs ds) (h2 : SqL K F c ys) (r2 : DpAll K F ys es) : ItOk K F (Itz K a c) (zipD ds es) := by
  refine ⟨fun i F1 H g s hi => ?_, fun i F1 H x H' d g s e y => ?_, fun F1 H g s => ⟨xs, ys, (g.trans s).sql h, (g.trans s).sql h2, by rw [dpa_len r, dpa_len r2, zipD_len]; omega⟩⟩
  · rw [zipD_len, ← dpa_len r, ← dpa_len r2] at hi
    exact ⟨xs, ys, xs[i]'(by omega), ys[i]'(by omega), (g.trans s).sql h, (g.trans s).sql h2, List.getElem?_eq_getElem (by omega), List.getElem?_eq_getElem (by omega)⟩
  · obtain ⟨x1, y1, e1, e2, rfl⟩ := zipD_get _ _ _ _ e
    obtain ⟨v, p1, p2⟩ := dpa_get r e1
    obtain ⟨u, q1, q2⟩ := dpa_get r2 e2
    obtain ⟨T, x', y', z1, z2, z3, z4, z5⟩ := y
    have := z4 xs ((g.trans s).sql h)
    rw [p1] at this
    cases this
    have := z5 ys ((g.trans s).sql h2)
    rw [q1] at this
    cases this
    exact .inr ⟨T, _, _, z2, z3, z1, rfl, .cons (dp_mono g p2) (.cons (dp_mono g q2) .nil)⟩
theorem itok_zipT {a c : Addr} {xs ys : List V} {ds es : List D} (h : SqT K F a xs) (r : DpAll K F xs ds) (h2 : SqT K F c ys) (r2 : DpAll K F ys es) : ItOk K F (RZ.ItzT K a c) (zipD ds es) := by
  refine ⟨fun i F1 H g s hi => ?_, fun i F1 H x H' d g s e y => ?_, fun F1 H g s => ⟨xs, ys, (g.trans s).sqt h, (g.trans s).sqt h2, by rw [dpa_len r, dpa_len r2, zipD_len]; omega⟩⟩
  · rw [zipD_len, ← dpa_len r, ← dpa_len r2] at hi
    exact ⟨xs, ys, xs[i]'(by omega), ys[i]'(by omega), (g.trans s).sqt h, (g.trans s).sqt h2, List.getElem?_eq_getElem (by omega), List.getElem?_eq_getElem (by omega)⟩
  · obtain ⟨x1, y1, e1, e2, rfl⟩ := zipD_get _ _ _ _ e
    obtain ⟨v, p1, p2⟩ := dpa_get r e1
    obtain ⟨u, q1, q2⟩ := dpa_get r2 e2
    obtain ⟨T, x', y', z1, z2, z3, z4, z5⟩ := y
    have := z4 xs ((g.trans s).sqt h)
    rw [p1] at this
    cases this
    have := z5 ys ((g.trans s).sqt h2)
    rw [q1] at this
    cases this
    exact .inr ⟨T, _, _, z2, z3, z1, rfl, .cons (dp_mono g p2) (.cons (dp_mono g q2) .nil)⟩

/-! the sources -/
def wiSeq (w : WE) : WI := fun X σd Q => w X σd (dz fun d σ1 => ∃ l, itemsD d = some l ∧ Q l σ1)
def wiRng1 (o : Opd) : WI := fun X σd Q => wO o X σd fun a σ1 => ∃ j, rs σ1 a = some (.int j) ∧ (-(2 ^ 62) ≤ j ∧ j < 2 ^ 62) ∧ Q (rangeD 0 j.toNat) σ1
def wiRng2 (o u : Opd) : WI := fun X σd Q => wO o X σd fun a σ1 => wO u X σ1 fun c σ2 => ∃ i j, rs σ2 a = some (.int i) ∧ rs σ2 c = some (.int j) ∧ (-(2 ^ 62) ≤ i ∧ i < 2 ^ 62 ∧ -(2 ^ 62) ≤ j ∧ j < 2 ^ 62) ∧ Q (rangeD i (j - i).toNat) σ2
def wiEnum (w : WE) : WI := fun X σd Q => w X σd (dz fun d σ1 => ∃ l, d = .list l ∧ Q (enumD 0 l) σ1)
def wiZip (w u : WE) : WI := fun X σd Q => w X σd (dz fun d σ1 => u X σ1 (dz fun e σ2 => match d, e with
  | .list l, .list m => Q (zipD l m) σ2
  | .tuple l, .tuple m => Q (zipD l m) σ2
  | _, _ => False))
def iSeq (K : PySem.W.Frag) (tl : TE) : TI := fun σ H R => tl σ H fun x H1 => ∃ a, x = .ref a ∧ (((∃ xs, SqL K H1 a xs) ∧ R (Itl K a) H1) ∨ ((∃ xs, SqT K H1 a xs) ∧ R (Itt K a) H1))
end

section
variable {X : Cx} {E : XK} {tg e : Expr} {pos : Pos}
theorem pi_seq {l : Expr} {tl : TE} (hl : PE X l tl) : PI X tg l (iSeq X.K tl) := by
  refine ⟨fun pins s σ H R I h => ?_⟩
  refine thn (hl.run pins s σ H _ I h) fun v s1 ⟨x, H1, I1, r1, q1⟩ => ?_
  obtain ⟨a, e, q⟩ := q1
  subst e
  cases r1
  rcases q with ⟨⟨xs, hq⟩, q⟩ | ⟨⟨xs, hq⟩, q⟩
  · obtain ⟨its, rv, p, hz⟩ := I1.list hq
    refine wpAny_pyIter_list p.isList ?_
    refine ⟨s1.heap.objs.size, [s1.heap.objs.size], _, _, H1, rfl, I1.kept (t' := s1.toks) fun b o e => Heap.get?_push_of_some _ e, turn_list a _, ⟨_, Heap.get?_push_size _ rfl, rfl, rfl⟩, fun b hb => ?_, q⟩
    have e : b = s1.heap.objs.size := by simpa using hb
    subst e
    exact I1.fpOk (Nat.le_refl _) (I1.hok.fresh (Nat.le_refl _))
  · obtain ⟨its, rv, p, hz⟩ := I1.tuple hq
    refine wpAny_pyIter_tuple (show s1.heap.IsTuple a its.toArray from p) ?_
    refine ⟨s1.heap.objs.size, [s1.heap.objs.size], _, _, H1, rfl, I1.kept (t' := s1.toks) fun b o e => Heap.get?_push_of_some _ e, turn_tuple a _, ⟨_, Heap.get?_push_size _ rfl, rfl, rfl⟩, fun b hb => ?_, q⟩
    have e : b = s1.heap.objs.size := by simpa using hb
    subst e
    exact I1.fpOk (Nat.le_refl _) (I1.hok.fresh (Nat.le_refl _))
theorem di_seq {w : WE} (h : DE X E e w) : DI X E tg e (wiSeq w) := (pi_seq h).imp fun σ H R ⟨b, F, σd, W, Rd, I, x, h, q⟩ => by
  refine tD_dz I x h fun v H1 F1 d σ1 I1 g1 r1 ⟨l, e1, h1⟩ => ?_
  cases d with
  | list l' =>
    cases e1
    cases r1 with
    | lst h2 h3 => exact ⟨_, rfl, .inl ⟨⟨_, Grow.sql I1.sub h2⟩, q _ _ F1 H1 σ1 I1 g1 (itok_list h2 h3) h1⟩⟩
  | tuple l' =>
    cases e1
    cases r1 with
    | tup h2 h3 => exact ⟨_, rfl, .inr ⟨⟨_, Grow.sqt I1.sub h2⟩, q _ _ F1 H1 σ1 I1 g1 (itok_tup h2 h3) h1⟩⟩
  | _ => cases e1
theorem di_rng1 {o : Opd} {a : Expr} {p : Pos} (hg : Gl X "range") (hm : X.mg "range" = none) (ha : DO X E a o) (hs : starEach [a] X.env = [(false, eval a X.env)]) : DI X E tg (.Call (.Name "range" p) [a] [] pos) (wiRng1 o) :=
  (pi_range1 hg hm (do_list_cons ha do_list_nil (by rw [hs]; rfl)) hs).imp fun σ H R ⟨b, F, σd, W, Rd, I, x, h, q⟩ => by
    refine tO_run I x h fun v H1 F1 av σ1 I1 g1 r1 ⟨j, e1, hj, h1⟩ => ?_
    rw [(I1.bv r1 e1).int]
    exact ⟨j, rfl, hj.1, hj.2, q _ _ F1 H1 σ1 I1 g1 itok_range h1⟩
theorem di_rng2 {o u : Opd} {a c : Expr} {p : Pos} (hg : Gl X "range") (hm : X.mg "range" = none) (ha : DO X E a o) (hc : DO X E c u) (hs : starEach [a, c] X.env = [(false, eval a X.env), (false, eval c X.env)]) (hs2 : starEach [c] X.env = [(false, eval c X.env)]) :
    DI X E tg (.Call (.Name "range" p) [a, c] [] pos) (wiRng2 o u) :=
  (pi_range2 hg hm (do_list_cons ha (do_list_cons hc do_list_nil (by rw [hs2]; rfl)) (by rw [hs, hs2])) hs hs2).imp fun σ H R ⟨b, F, σd, W, Rd, I, x, h, q⟩ => by
    refine tO_run I x h fun v H1 F1 av σ1 I1 g1 r1 h1 => tO_run I1 x h1 fun v2 H2 F2 av2 σ2 I2 g2 r2 ⟨i, j, e1, e2, hj, h2⟩ => ?_
    rw [(I2.bv (r1.mono g2) e1).int, (I2.bv r2 e2).int]
    exact ⟨i, j, rfl, hj, q _ _ F2 H2 σ2 I2 (g1.trans g2) itok_range h2⟩
theorem di_enum {w : WE} {a : Expr} {p tpos : Pos} {elts : List Expr} {kk : Nat} (hg : Gl X "enumerate") (hm : X.mg "enumerate" = none) (ha : DE X E a w) (hs : starEach [a] X.env = [(false, eval a X.env)]) :
    DI X E (.Tuple elts kk tpos) (.Call (.Name "enumerate" p) [a] [] pos) (wiEnum w) :=
  (pi_enum hg hm (pa_cons ha pa_nil (by rw [hs]; rfl)) hs).imp fun σ H R ⟨b, F, σd, W, Rd, I, x, h, q⟩ => by
    refine tD_dz I x h fun v H1 F1 d σ1 I1 g1 r1 ⟨l, e1, h1⟩ => ?_
    subst e1
    cases r1 with
    | lst h2 h3 => exact ⟨_, _, rfl, Grow.sql I1.sub h2, q _ _ F1 H1 σ1 I1 g1 (itok_enum h2 h3) h1⟩
theorem di_zip {w u : WE} {a c : Expr} {p tpos : Pos} {elts : List Expr} {kk : Nat} (hg : Gl X "zip") (hm : X.mg "zip" = none) (ha : DE X E a w) (hc : DE X E c u)
    (hs : starEach [a, c] X.env = (false, eval a X.env) :: starEach [c] X.env) (hs2 : starEach [c] X.env = (false, eval c X.env) :: starEach [] X.env) (hpl : (backTo pos (starEach [c] X.env)).any (·.1) = false) :
    DI X E (.Tuple elts kk tpos) (.Call (.Name "zip" p) [a, c] [] pos) (wiZip w u) :=
  (RZ.pi_zipA hg hm (pa_cons ha (pa_cons hc pa_nil hs2) hs) hs hpl).imp fun σ H R ⟨b, F, σd, W, Rd, I, x, h, q⟩ => by
    refine tD_dz I x h fun v H1 F1 d σ1 I1 g1 r1 h1 => tD_dz I1 x h1 fun v2 H2 F2 e σ2 I2 g2 r2 h2 => ?_
    split at h2
    · cases dp_mono g2 r1 with
      | lst p1 p2 =>
        cases r2 with
        | lst p3 p4 => exact ⟨_, _, _, _, rfl, .inl ⟨Grow.sql I2.sub p1, Grow.sql I2.sub p3, q _ _ F2 H2 σ2 I2 (g1.trans g2) (itok_zipL p1 p2 p3 p4) h2⟩⟩
    · cases dp_mono g2 r1 with
      | tup p1 p2 =>
        cases r2 with
        | tup p3 p4 => exact ⟨_, _, _, _, rfl, .inr ⟨Grow.sqt I2.sub p1, Grow.sqt I2.sub p3, q _ _ F2 H2 σ2 I2 (g1.trans g2) (itok_zipT p1 p2 p3 p4) h2⟩⟩
    · exact h2.elim
end

/-! ### targets -/
abbrev WG := D → SD → (SD → Prop) → Prop
abbrev WGs := List D → SD → (SD → Prop) → Prop
def tDG (K : PySem.W.Frag) (vs : List Nat) (g : WG) : TG := fun v σ H Q => ∃ b F σd d Qd, Iv K b F H σ σd ∧ Dp K F v d ∧ g d σd Qd ∧ ∀ σ' σd', Iv K b F H σ' σd' → wipe σ' vs = wipe σ vs → Qd σd' → Q σ' H
def tDGs (K : PySem.W.Frag) (vs : List Nat) (g : WGs) : TGs := fun xs σ H Q => ∃ b F σd ds Qd, Iv K b F H σ σd ∧ DpAll K F xs ds ∧ g ds σd Qd ∧ ∀ σ' σd', Iv K b F H σ' σd' → wipe σ' vs = wipe σ vs → Qd σd' → Q σ' H
abbrev DG (X : Cx) (vs : List Nat) (tg : Expr) (g : WG) : Prop := PG X tg (tDG X.K vs g)
abbrev DGs (X : Cx) (vs : List Nat) (tgs : List Expr) (g : WGs) : Prop := PGs X tgs (tDGs X.K vs g)
theorem _root_.L2.PG.imp {X : Cx} {tg : Expr} {t t' : TG} (h : PG X tg t) (i : ∀ v σ H Q, t' v σ H Q → t v σ H Q) : PG X tg t' := ⟨fun pins s σ H v u Q I r q => h.run pins s σ H v u Q I r (i _ _ _ _ q)⟩
theorem _root_.L2.PGs.imp {X : Cx} {tg : List Expr} {t t' : TGs} (h : PGs X tg t) (i : ∀ v σ H Q, t' v σ H Q → t v σ H Q) : PGs X tg t' := ⟨fun pins s σ H v u Q I r q => h.run pins s σ H v u Q I r (i _ _ _ _ q)⟩
def wgF : WG := fun _ _ _ => False
def wgN (i : Nat) : WG := fun d σd Q => noIo σd i ∧ Q (σd.set i (.val d))
def wgNil : WGs := fun ds σd Q => ds = [] ∧ Q σd
def wgCons (g : WG) (gs : WGs) : WGs := fun ds σd Q => match ds with
  | d :: r => g d σd fun σ1 => gs r σ1 Q
  | [] => False
def wgT (n : Nat) (gs : WGs) : WG := fun d σd Q => ∃ ds, d = .tuple ds ∧ ds.length = n ∧ gs ds σd Q
theorem wipe_set {σ : St} {i : Nat} {x : Option V} : ∀ {vs : List Nat}, i ∈ vs → wipe (σ.set i x) vs = wipe σ vs
  | [], h => by cases h
  | v :: vs, h => by
    show (wipe (σ.set i x) vs).set v none = (wipe σ vs).set v none
    by_cases hi : i ∈ vs
    · rw [wipe_set hi]
    · have hv : i = v := by
        rcases List.mem_cons.mp h with h | h
        · exact h
        · exact absurd h hi
      subst hv
      have comm : ∀ ws : List Nat, i ∉ ws → wipe (σ.set i x) ws = (wipe σ ws).set i x := by
        intro ws
        induction ws with
        | nil => intro _; rfl
        | cons w ws ih =>
          intro hw
          show (wipe (σ.set i x) ws).set w none = ((wipe σ ws).set w none).set i x
          rw [ih (fun z => hw (List.mem_cons_of_mem _ z)), List.set_comm _ _ (fun z => hw (by rw [z]; exact List.mem_cons_self))]
      rw [comm vs hi, List.set_set]
section
variable {X : Cx} {E : XK} {tg e : Expr} {pos : Pos} {vs : List Nat}
theorem dg_false : DG X vs tg wgF := ⟨fun pins s σ H v u Q I r h => by
  obtain ⟨_, _, _, _, _, _, _, z, _⟩ := h
  exact z.elim⟩
theorem dg_name {i : Nat} {x : Str} (hN : X.N.Nodup) (hi : X.N[i]? = some x) (hx : Loc X.env.scope x) (hf : X.fn x = true ∨ X.env.scope.names.lookup x = some .local) (hv : i ∈ vs) : DG X vs (.Name x pos) (wgN i) :=
  (pg_name hN hi hx hf).imp fun v σ H Q ⟨b, F, σd, d, Qd, I, r, h, q⟩ => q _ _ (I.asg (r := .d d) r h.1) (wipe_set hv) h.2
theorem dgs_nil : DGs X vs [] wgNil := pgs_nil.imp fun xs σ H Q ⟨b, F, σd, ds, Qd, I, r, h, q⟩ => by
  obtain ⟨e, h⟩ := h
  subst e
  cases r
  exact ⟨rfl, q _ _ I rfl h⟩
theorem dgs_cons {es : List Expr} {g : WG} {gs : WGs} (h1 : DG X vs e g) (h2 : DGs X vs es gs) (hs : (assignEach (e :: es) X.env).map (·.2) = assign e X.env :: (assignEach es X.env).map (·.2)) : DGs X vs (e :: es) (wgCons g gs) :=
  (pgs_cons h1 h2 hs).imp fun xs σ H Q ⟨b, F, σd, ds, Qd, I, r, h, q⟩ => by
    cases r with
    | nil => exact h.elim
    | cons r rr => exact ⟨_, _, rfl, b, F, σd, _, _, I, r, h, fun σ1 σd1 I1 w1 h1 => ⟨b, F, σd1, _, _, I1, rr, h1, fun σ2 σd2 I2 w2 h2 => q σ2 σd2 I2 (w2.trans w1) h2⟩⟩
theorem dg_tup {es : List Expr} {k n : Nat} {gs : WGs} (hc : X.calm = true) (h : DGs X vs es gs) (hn : (assignEach es X.env).length = n) (hst : (assignEach es X.env).findIdx? (·.1) = none) : DG X vs (.Tuple es k pos) (wgT n gs) :=
  (pg_tup hc h hn hst).imp fun v σ H Q ⟨b, F, σd, d, Qd, I, r, h, q⟩ => by
    obtain ⟨ds, rfl, hl, h⟩ := h
    cases r with
    | tup p1 p2 => exact ⟨_, _, rfl, Grow.sqt I.sub p1, by rw [dpa_len p2]; exact hl, b, F, σd, ds, Qd, I, p2, h, q⟩
end

/-! ### for -/
def forD (X : XW) (D' : EndsD) (g : WG) (w : WS) : List D → SD → Prop
  | [], σ => D'.nx σ
  | d :: ds, σ => g d σ fun σ1 => w X { D' with nx := forD X D' g w ds, ct := forD X D' g w ds, bk := D'.nx } σ1
def wFor (wi : WI) (g : WG) (w : WS) : WS := fun X D' σd => wi X σd fun items σ1 => forD X D' g w items σ1
section
variable {X : Cx} {E : XK} {tg e : Expr} {pos : Pos} {vs : List Nat}
theorem ds_for {wi : WI} {g : WG} {w : WS} {body : List Stmt} (hp : PassesOwn (model X.prog X.w) X.A X.env X.xe) (hc : X.calm = true) (hi : DI X E tg e wi) (hg : DG X vs tg g) (hb : DSs X E body w)
    (hs : ∀ x, foldedSetIterable e X.env x = pure x) : DS X E (.For tg e body [] pos) (wFor wi g w) :=
  (ps_for hp hc hi hg hb hs).imp fun D' σ H ⟨b, F, σd, W, Dd, I, x, h, q⟩ => by
    refine ⟨b, F, σd, W, _, I, x, h, fun J items F1 H1 σ1 I1 g1 ok h1 => ?_⟩
    refine ⟨fun i m σ' H' => ∃ F2 σ2, Iv X.K b F2 H' σ' σ2 ∧ Grow F1 F2 ∧ m = items.length - i ∧ i ≤ items.length ∧ forD W Dd g w (items.drop i) σ2, ⟨items.length, F1, σ1, I1, Grow.refl F1, rfl, Nat.zero_le _, h1⟩, ?_⟩
    rintro i m σ' H' ⟨F2, σ2, I2, g2, rfl, hi, h2⟩
    by_cases hlt : i < items.length
    · rw [List.drop_eq_getElem_cons hlt] at h2
      refine .inr ⟨ok.go i F2 H' g2 I2.sub hlt, fun σ' H' => ∃ F2 σ2, Iv X.K b F2 H' σ' σ2 ∧ Grow F1 F2 ∧ forD W Dd g w (items.drop (i + 1)) σ2, fun σ'' H'' ⟨F3, σ3, I3, g3, h3⟩ => ⟨items.length - (i + 1), by omega, F3, σ3, I3, g3, rfl, hlt, h3⟩, fun v H3 y => ?_⟩
      have fin : ∀ F3, Iv X.K b F3 H3 σ' σ2 → Grow F2 F3 → Dp X.K F3 v items[i] → tDG X.K vs g v σ' H3 fun σ4 H4 => tDS X.K X.mg E w { D' with nx := fun σ' H' => ∃ F2 σ2, Iv X.K b F2 H' σ' σ2 ∧ Grow F1 F2 ∧ forD W Dd g w (items.drop (i + 1)) σ2, ct := fun σ' H' => ∃ F2 σ2, Iv X.K b F2 H' σ' σ2 ∧ Grow F1 F2 ∧ forD W Dd g w (items.drop (i + 1)) σ2, bk := D'.nx } σ4 H4 :=
        fun F3 I3 g3 r3 => ⟨b, F3, σ2, _, _, I3, r3, h2, fun σ4 σd4 I4 _ h4 => ⟨b, F3, σd4, W, _, I4, x, h4, ⟨fun σ5 F5 H5 σd5 I5 g5 h5 => ⟨F5, σd5, I5, (g2.trans g3).trans g5, h5⟩,
          fun v r σ5 F5 H5 σd5 I5 rr g5 h5 => q.rt v r σ5 F5 H5 σd5 I5 rr (((g1.trans g2).trans g3).trans g5) h5, fun σ5 F5 H5 σd5 I5 g5 h5 => q.nx σ5 F5 H5 σd5 I5 (((g1.trans g2).trans g3).trans g5) h5, fun σ5 F5 H5 σd5 I5 g5 h5 => ⟨F5, σd5, I5, (g2.trans g3).trans g5, h5⟩⟩⟩⟩
      rcases ok.yld i F2 H' v H3 items[i] g2 I2.sub (List.getElem?_eq_getElem hlt) y with ⟨rfl, r⟩ | ⟨T, xs, ds, hT, rfl, rfl, ed, r⟩
      · exact fin F2 I2 (Grow.refl F2) r
      · refine fin _ (I2.alloc _ hT) (I2.growq _ hT) ?_
        rw [ed]
        exact .tup (.inl (.inl upd_same)) (dpa_mono (I2.growq _ hT) r)
    · have e : i = items.length := by omega
      subst e
      rw [List.drop_length] at h2
      exact .inl ⟨ok.stop F2 H' g2 I2.sub, q.nx σ' F2 H' σ2 I2 (g1.trans g2) h2⟩
end

/-! ### list comprehensions -/
def wipeD (σd : SD) : List Nat → SD
  | [] => σd
  | v :: vs => (wipeD σd vs).set v .un
def restD (σ1 : SD) : List Nat → SD → SD
  | [], σ => σ
  | v :: vs, σ => match σ1[v]? with
    | some (.val d) => (restD σ1 vs σ).set v (.val d)
    | _ => restD σ1 vs σ
def lcD (X : XW) (vs : List Nat) (g : WG) (t : WT) (w : WE) (Q : List D → SD → Prop) : List D → List D → SD → Prop
  | [], acc, σ => Q acc σ
  | d :: ds, acc, σ => g d σ fun σ1 => t X σ1 fun k σ2 => if k = true then w X σ2 (dz fun y σ3 => acc.length < sizeLine ∧ lcD X vs g t w Q ds (acc ++ [y]) (wipeD σ3 vs)) else lcD X vs g t w Q ds acc (wipeD σ2 vs)
def noX : XW := fun _ => False
def wLc (wi : WI) (vs : List Nat) (g : WG) (t : WT) (w : WE) : WE := fun X σd Q => wi X σd fun items σ1 => (∀ v ∈ vs, noIo σ1 v) ∧
  lcD noX vs g t w (fun acc σ => Q (.f (.list acc)) (restD σ1 vs σ)) items [] (wipeD σ1 vs)

section
variable {K : PySem.W.Frag} {mg : Str → Option Value} {E : XK} {b : Bs} {F F' H H' : Hp} {σ σ' : St} {σd σd' : SD} {X : XW}
theorem OA.of_set2 {σ : St} {σd : SD} {i j : Nat} {a : Addr} {o : Option V} (h : OA (σ.set i o) (σd.set i .un) j a) : OA σ σd j a := by
  obtain ⟨h1, d, h2⟩ := h
  by_cases z : i = j
  · subst z
    by_cases hi : i < σd.length
    · rw [List.getElem?_set_self hi] at h2
      rcases h2 with h2 | h2 <;> cases h2
    · rw [List.getElem?_eq_none (by rw [List.length_set]; omega)] at h2
      rcases h2 with h2 | h2 <;> cases h2
  · rw [List.getElem?_set_ne z] at h1 h2
    exact ⟨h1, d, h2⟩
/-- a slot that is no parameter's is forgotten, whatever stands in it -/
theorem Iv.forget (I : Iv K b F H σ σd) {i : Nat} (o : Option V) (n : ∀ p ∈ b.ps, p.1 ≠ i) : Iv K b F H (σ.set i o) (σd.set i .un) := by
  refine ⟨I.toExt, by rw [List.length_set, List.length_set]; exact I.len, fun j o s e1 e2 => ?_, fun j k c p q => I.apart j k c (OA.of_set2 p) (OA.of_set2 q), fun p hp => ?_, fun p hp => ?_⟩
  · by_cases z : i = j
    · subst z
      by_cases hi : i < σd.length
      · rw [List.getElem?_set_self hi] at e2
        cases e2
        trivial
      · rw [List.getElem?_eq_none (by rw [List.length_set]; omega)] at e2
        cases e2
    · rw [List.getElem?_set_ne z] at e1 e2
      exact I.sl j o s e1 e2
  · obtain ⟨p1, d, p2⟩ := I.par p hp
    have z : i ≠ p.1 := fun z => n p hp z.symm
    rw [List.getElem?_set_ne z, List.getElem?_set_ne z]
    exact ⟨p1, d, p2⟩
  · obtain ⟨t1, t2, t3, t4⟩ := I.tmp p hp
    exact ⟨t1, t2, t3, fun j c z => t4 j c (OA.of_set2 z)⟩
theorem Iv.wipes (I : Iv K b F H σ σd) : ∀ {vs : List Nat}, (∀ v ∈ vs, ∀ p ∈ b.ps, p.1 ≠ v) → Iv K b F H (wipe σ vs) (wipeD σd vs)
  | [], _ => I
  | v :: vs, h => (I.wipes fun w hw => h w (List.mem_cons_of_mem _ hw)).forget none (h v List.mem_cons_self)
theorem wipeD_len (σd : SD) : ∀ vs, (wipeD σd vs).length = σd.length
  | [] => rfl
  | v :: vs => by show ((wipeD σd vs).set v .un).length = _; rw [List.length_set, wipeD_len]
theorem wipeD_un (σd : SD) : ∀ {vs : List Nat} {v : Nat} {s : Sl}, v ∈ vs → (wipeD σd vs)[v]? = some s → s = .un
  | [], _, _, h, _ => by cases h
  | w :: vs, v, s, h, e => by
    have e : ((wipeD σd vs).set w .un)[v]? = some s := e
    by_cases z : w = v
    · subst z
      by_cases hi : w < (wipeD σd vs).length
      · rw [List.getElem?_set_self hi] at e
        exact (Option.some.inj e).symm
      · rw [List.getElem?_eq_none (by rw [List.length_set]; omega)] at e
        cases e
    · rw [List.getElem?_set_ne z] at e
      rcases List.mem_cons.mp h with h | h
      · exact absurd h.symm z
      · exact wipeD_un σd h e
theorem wipe_at (σ : St) {vs : List Nat} {j : Nat} (h : j ∉ vs) : (wipe σ vs)[j]? = σ[j]? := wipe_out h
/-- back with the slots that were hidden; nothing is known of them -/
theorem Iv.unwipe {vs : List Nat} (I : Iv K b F H (wipe σ vs) σd) (n : ∀ v ∈ vs, ∀ p ∈ b.ps, p.1 ≠ v) (hu : ∀ v ∈ vs, ∀ s, σd[v]? = some s → s = .un) : Iv K b F H σ σd := by
  have oa : ∀ {j c}, OA σ σd j c → OA (wipe σ vs) σd j c := fun {j c} ⟨h1, d, h2⟩ => by
    refine ⟨?_, d, h2⟩
    rw [wipe_at]
    · exact h1
    · intro hj
      rcases h2 with h2 | h2
      · cases hu j hj _ h2
      · cases hu j hj _ h2
  refine ⟨I.toExt, by rw [I.len, wipe_length], fun j o s e1 e2 => ?_, fun j k c p q => I.apart j k c (oa p) (oa q), fun p hp => ?_, fun p hp => ?_⟩
  · by_cases hj : j ∈ vs
    · rw [hu j hj _ e2]
      trivial
    · exact I.sl j o s (by rw [wipe_at σ hj]; exact e1) e2
  · obtain ⟨p1, d, p2⟩ := I.par p hp
    have hj : p.1 ∉ vs := fun z => n _ z p hp rfl
    rw [wipe_at σ hj] at p1
    exact ⟨p1, d, p2⟩
  · obtain ⟨t1, t2, t3, t4⟩ := I.tmp p hp
    exact ⟨t1, t2, t3, fun j c z => t4 j c (oa z)⟩
theorem restD_at (σ1 : SD) : ∀ {vs : List Nat} {σ2 : SD} {v : Nat}, v ∉ vs → (restD σ1 vs σ2)[v]? = σ2[v]?
  | [], _, _, _ => rfl
  | w :: vs, σ2, v, h => by
    have h1 : w ≠ v := fun z => h (by rw [z]; exact List.mem_cons_self)
    have h2 : v ∉ vs := fun z => h (List.mem_cons_of_mem _ z)
    unfold restD
    split
    · rw [List.getElem?_set_ne h1, restD_at σ1 h2]
    · exact restD_at σ1 h2
/-- a slot of which nothing is known gets the data that stand in it -/
theorem Iv.learn (I : Iv K b F H σ σd) {i : Nat} {v : V} {d : D} (h : σ[i]? = some (some v)) (r : Dp K F v d) (e : ∀ s, σd[i]? = some s → s = .un ∨ s = .val d) : Iv K b F H σ (σd.set i (.val d)) := by
  have hi : i < σd.length := by rw [I.len]; exact (List.getElem?_eq_some_iff.mp h).1
  rcases e _ (List.getElem?_eq_getElem hi) with z | z
  · exact I.setv h r (by rw [List.getElem?_eq_getElem hi, z])
  · have : σd.set i (.val d) = σd := by
      apply List.ext_getElem?
      intro j
      by_cases q : i = j
      · subst q
        rw [List.getElem?_set_self hi, List.getElem?_eq_getElem hi, z]
      · rw [List.getElem?_set_ne q]
    rw [this]
    exact I
theorem Iv.rest {σ1 : SD} {F1 H1 : Hp} (I1 : Iv K b F1 H1 σ σ1) (g : Grow F1 F) : ∀ {vs : List Nat}, Iv K b F H σ σd → (∀ v ∈ vs, ∀ s, σd[v]? = some s → s = .un) → Iv K b F H σ (restD σ1 vs σd) ∧ ∀ v ∈ vs, ∀ s, (restD σ1 vs σd)[v]? = some s → s = .un ∨ (some s = σ1[v]? ∧ ∃ d, s = .val d)
  | [], I, _ => ⟨I, fun v hv => by cases hv⟩
  | w :: vs, I, hu => by
    obtain ⟨J, ju⟩ := Iv.rest I1 g (vs := vs) I fun v hv => hu v (List.mem_cons_of_mem _ hv)
    have old : ∀ s, (restD σ1 vs σd)[w]? = some s → s = .un ∨ (some s = σ1[w]? ∧ ∃ d, s = .val d) := fun s e => by
      by_cases hw : w ∈ vs
      · exact ju w hw s e
      · rw [restD_at σ1 hw] at e
        exact .inl (hu w List.mem_cons_self s e)
    unfold restD
    cases q : σ1[w]? with
    | none =>
      simp only
      refine ⟨J, fun v hv s e => ?_⟩
      rcases List.mem_cons.mp hv with rfl | hv
      · exact old s e
      · exact ju v hv s e
    | some t =>
      cases t with
      | val d =>
        simp only
        obtain ⟨x, hx, r⟩ := I1.val q
        refine ⟨J.learn hx (dp_mono g r) fun s e => ?_, fun v hv s e => ?_⟩
        · rcases old s e with z | ⟨z, _⟩
          · exact .inl z
          · rw [q] at z
            exact .inr (Option.some.inj z)
        · by_cases z : w = v
          · subst z
            by_cases hi : w < (restD σ1 vs σd).length
            · rw [List.getElem?_set_self hi] at e
              cases e
              exact .inr ⟨q.symm, d, rfl⟩
            · rw [List.getElem?_eq_none (by rw [List.length_set]; omega)] at e
              cases e
          · rw [List.getElem?_set_ne z] at e
            rcases List.mem_cons.mp hv with hv | hv
            · exact absurd hv.symm z
            · exact ju v hv s e
      | _ =>
        simp only
        refine ⟨J, fun v hv s e => ?_⟩
        rcases List.mem_cons.mp hv with rfl | hv
        · exact old s e
        · exact ju v hv s e
/-- what stands meanwhile is changed -/
theorem Iv.setT {a : Addr} {o o' : HO} (I : Iv K { b with T := (a, o) :: b.T } F H σ σd) (nt : ∀ p ∈ b.T, p.1 ≠ a) : Iv K { b with T := (a, o') :: b.T } F (upd H a o') σ σd := by
  obtain ⟨h1, h2, h3, h4⟩ := I.tmp (a, o) List.mem_cons_self
  have I0 : Iv K b F H σ σd := I.dropT
  have nz : ∀ c u, c ≠ a → H c = some u → upd H a o' c = some u := fun c u hc e => by rw [upd_ne hc]; exact e
  refine ⟨⟨fun c u e => ?_, I0.old, fun c u e hc => ?_, fun c hc => ?_⟩, I0.len, fun i u s e1 e2 => ?_, I0.apart, I0.par, fun p hp => ?_⟩
  · exact nz c u (fun z => by rw [z, h2] at e; cases e) (I0.sub _ _ e)
  · have h3 : b.H0 a = none := h3
    exact nz c u (fun z => by rw [z, h3] at e; cases e) (I0.keep c u e hc)
  · have h3 : b.H0 a = none := h3
    rw [upd_ne (fun z => hc (by rw [z]; exact h3))]
    exact I0.trk c hc
  · have r := I0.sl i u s e1 e2
    cases s with
    | un => trivial
    | val d => exact r
    | own d =>
      obtain ⟨c, e, f, h0, r⟩ := r
      subst e
      exact ⟨c, rfl, f, h0, r.mono (Grow.refl F) (upd_ne (h4 i c ⟨e1, d, .inl e2⟩))⟩
    | io d =>
      obtain ⟨c, e, f, h0, r⟩ := r
      subst e
      exact ⟨c, rfl, f, h0, r.mono (Grow.refl F) (upd_ne (h4 i c ⟨e1, d, .inr e2⟩))⟩
  · rcases List.mem_cons.mp hp with rfl | hp
    · exact ⟨upd_same, h2, h3, h4⟩
    · obtain ⟨t1, t2, t3, t4⟩ := I0.tmp p hp
      exact ⟨nz _ _ (nt p hp) t1, t2, t3, t4⟩
end

section
variable {X : Cx} {E : XK} {tg e : Expr} {pos : Pos} {vs : List Nat}
def EF : XK := fun _ _ _ => False
theorem xok_no {mg : Str → Option Value} {b : Bs} : XOk mg b noX EF := fun _ _ _ _ h => h.elim
theorem lc_ok {K : PySem.W.Frag} {mg : Str → Option Value} {wi : WI} {g : WG} {t : WT} {w : WE} {σ : St} {H : Hp} {Q : VK} (h : tD K mg E (wLc wi vs g t w) σ H Q) : tLc (tDI K mg E wi) (tDG K vs g) (tDT K mg EF t) (tD K mg EF w) vs σ H Q := by
  obtain ⟨b, F, σd, W, Qd, I, x, h, q⟩ := h
  refine ⟨b, F, σd, W, _, I, x, h, fun J items F1 H1 σ1 I1 g1 ok ⟨n1, h1⟩ D' hD => ?_⟩
  have nps : ∀ v ∈ vs, ∀ p ∈ b.ps, p.1 ≠ v := fun v hv p hp z => by
    obtain ⟨_, d, p2⟩ := I1.par p hp
    have n := n1 v hv
    unfold noIo at n
    rw [← z, p2] at n
    exact n
  have f0 := I1.fr1 hD (ds := []) (DpAll.nil)
  have nt : ∀ p ∈ b.T, p.1 ≠ D' := f0.nt
  -- the state between two turns
  refine ⟨fun i m H' => ∃ F2 σ2 acc accV, Iv K { b with T := (D', .lst accV) :: b.T } F2 H' (wipe σ vs) σ2 ∧ Grow F1 F2 ∧ DpAll K F2 accV acc ∧ (∀ v ∈ vs, ∀ s, σ2[v]? = some s → s = .un) ∧ m = items.length - i ∧ i ≤ items.length ∧
    lcD noX vs g t w (fun acc σ => Qd (.f (.list acc)) (restD σ1 vs σ)) (items.drop i) acc σ2, ⟨items.length, F1, wipeD σ1 vs, [], [], ?_, Grow.refl F1, .nil, fun v hv s e => wipeD_un σ1 hv e, rfl, Nat.zero_le _, h1⟩, ?_⟩
  · exact ((I1.laid _ hD).addT upd_same f0.fz f0.h0 f0.no).wipes nps
  · rintro i m H' ⟨F2, σ2, acc, accV, I2, g2, dp, hu, rfl, hi, h2⟩
    by_cases hlt : i < items.length
    · rw [List.drop_eq_getElem_cons hlt] at h2
      refine .inr ⟨ok.go i F2 H' g2 I2.sub hlt, fun H' => ∃ F2 σ2 acc accV, Iv K { b with T := (D', .lst accV) :: b.T } F2 H' (wipe σ vs) σ2 ∧ Grow F1 F2 ∧ DpAll K F2 accV acc ∧ (∀ v ∈ vs, ∀ s, σ2[v]? = some s → s = .un) ∧
        lcD noX vs g t w (fun acc σ => Qd (.f (.list acc)) (restD σ1 vs σ)) (items.drop (i + 1)) acc σ2, fun H'' ⟨F3, σ3, acc3, accV3, I3, g3, dp3, hu3, h3⟩ => ⟨items.length - (i + 1), by omega, F3, σ3, acc3, accV3, I3, g3, dp3, hu3, rfl, hlt, h3⟩, fun v H3 y => ?_⟩
      have fin : ∀ F3, Iv K { b with T := (D', .lst accV) :: b.T } F3 H3 (wipe σ vs) σ2 → Grow F2 F3 → Dp K F3 v items[i] → tDG K vs g v (wipe σ vs) H3 fun σ4 H4 => wipe σ4 vs = wipe σ vs ∧ tDT K mg EF t σ4 H4 fun k H5 =>
          if k = true then tD K mg EF w σ4 H5 fun y H6 => ∃ acc, H6 D' = some (.lst acc) ∧ acc.length < sizeLine ∧ (∃ F2 σ2 acc1 accV, Iv K { b with T := (D', .lst accV) :: b.T } F2 (upd H6 D' (.lst (acc ++ [y]))) (wipe σ vs) σ2 ∧ Grow F1 F2 ∧ DpAll K F2 accV acc1 ∧ (∀ v ∈ vs, ∀ s, σ2[v]? = some s → s = .un) ∧
            lcD noX vs g t w (fun acc σ => Qd (.f (.list acc)) (restD σ1 vs σ)) (items.drop (i + 1)) acc1 σ2)
          else (∃ F2 σ2 acc1 accV, Iv K { b with T := (D', .lst accV) :: b.T } F2 H5 (wipe σ vs) σ2 ∧ Grow F1 F2 ∧ DpAll K F2 accV acc1 ∧ (∀ v ∈ vs, ∀ s, σ2[v]? = some s → s = .un) ∧
            lcD noX vs g t w (fun acc σ => Qd (.f (.list acc)) (restD σ1 vs σ)) (items.drop (i + 1)) acc1 σ2) := by
        intro F3 I3 g3 r3
        refine ⟨_, F3, σ2, _, _, I3, r3, h2, fun σ4 σd4 I4 hw4 h4 => ?_⟩
        have ww : wipe (wipe σ vs) vs = wipe σ vs := by
          apply List.ext_getElem?
          intro j
          by_cases hj : j ∈ vs
          · have z : ∀ (τ : St) (ws : List Nat), j ∈ ws → (wipe τ ws)[j]? = if j < τ.length then some none else none := by
              intro τ ws
              induction ws with
              | nil => intro h; cases h
              | cons a ws ih =>
                intro h
                show ((wipe τ ws).set a none)[j]? = _
                by_cases q : a = j
                · subst q
                  by_cases hl : a < τ.length
                  · rw [List.getElem?_set_self (by rw [wipe_length]; exact hl), if_pos hl]
                  · rw [List.getElem?_eq_none (by rw [List.length_set, wipe_length]; omega), if_neg hl]
                · rw [List.getElem?_set_ne q]
                  rcases List.mem_cons.mp h with h | h
                  · exact absurd h.symm q
                  · exact ih h
            rw [z _ _ hj, z _ _ hj, wipe_length]
          · rw [wipe_out hj]
        refine ⟨hw4.trans ww, _, F3, σd4, noX, _, I4, xok_no, h4, fun k H5 F5 σd5 I5 g5 h5 => ?_⟩
        cases k with
        | false =>
          rw [if_neg Bool.false_ne_true] at h5 ⊢
          refine ⟨F5, wipeD σd5 vs, acc, accV, ?_, (g2.trans g3).trans g5, dpa_mono (g3.trans g5) dp, fun v hv s e => wipeD_un σd5 hv e, h5⟩
          rw [← hw4.trans ww]
          exact I5.wipes nps
        | true =>
          rw [if_pos rfl] at h5 ⊢
          refine tD_dz I5 xok_no h5 fun y H6 F6 d σd6 I6 g6 r6 ⟨hz, h6⟩ => ?_
          refine ⟨accV, (I6.tmp (D', .lst accV) List.mem_cons_self).1, by rw [dpa_len dp]; exact hz, F6, wipeD σd6 vs, acc ++ [d], accV ++ [y], ?_, ((g2.trans g3).trans g5).trans g6, dpa_app (dpa_mono ((g3.trans g5).trans g6) dp) (.cons r6 .nil), fun v hv s e => wipeD_un σd6 hv e, h6⟩
          rw [← hw4.trans ww]
          exact (I6.setT nt).wipes nps
      rcases ok.yld i F2 H' v H3 items[i] g2 I2.sub (List.getElem?_eq_getElem hlt) y with ⟨rfl, r⟩ | ⟨T, xs, ds, hT, rfl, rfl, ed, r⟩
      · exact fin F2 I2 (Grow.refl F2) r
      · refine fin _ (I2.alloc _ hT) (I2.growq _ hT) ?_
        rw [ed]
        exact .tup (.inl (.inl upd_same)) (dpa_mono (I2.growq _ hT) r)
    · have e : i = items.length := by omega
      subst e
      rw [List.drop_length] at h2
      refine .inl ⟨ok.stop F2 H' g2 I2.sub, ?_⟩
      have J2 : Iv K { b with T := (D', .lst accV) :: b.T } F2 H' σ σ2 := I2.unwipe nps hu
      have J1 : Iv K { b with T := (D', .lst accV) :: b.T } F1 (upd H1 D' (.lst accV)) σ σ1 := (I1.laid _ hD).addT upd_same f0.fz f0.h0 f0.no
      obtain ⟨J3, _⟩ := Iv.rest J1 g2 (vs := vs) J2 hu
      obtain ⟨t1, t2, t3, t4⟩ := J3.tmp (D', .lst accV) List.mem_cons_self
      exact q _ H' F2 (.f (.list acc)) _ J3.dropT (g1.trans g2) ⟨D', rfl, t2, t3, ⟨accV, t1, dp⟩, fun j z => t4 j D' z rfl, nt⟩ h2
end
end DL
end L2
set_option Elab.async false
set_option maxRecDepth 100000
set_option maxHeartbeats 1000000
/-! The data layer, part 6: calls of the program's own defs; a def's body. -/
namespace L2
open PySem PySem.Spec PyProof.Rows
namespace DL

/-- what a def does, told from data: the arguments; what is wanted of the result and of what the changed parameter holds then; the classes of errors that may leave -/
abbrev DSp := List D → (Rv → D → Prop) → XW → Prop
/-- a def: which parameter is changed, if any; what it does -/
structure FI where
  n : Nat
  ix : Option Nat
  sp : DSp

mutual
/-- no list within -/
def noL : D → Bool
  | .none => true
  | .bool _ => true
  | .int _ => true
  | .str _ => true
  | .tuple l => noLs l
  | .list _ => false
  | .dict _ => false
def noLs : List D → Bool
  | [] => true
  | d :: r => noL d && noLs r
end
/-- no list within but at the top -/
def noLc : D → Bool
  | .list l => noLs l
  | .dict kvs => kvs.all fun p => noL p.2
  | _ => true
def noLR : Rv → Bool
  | .d x => noL x
  | .f x => noLc x

noncomputable def bw (P : Addr → Prop) (F H : Hp) : Hp := fun a => @ite _ (P a) (Classical.propDecidable _) (H a) (F a)
noncomputable def ub (P : Addr → Prop) (F : Hp) : Hp := fun a => @ite _ (P a) (Classical.propDecidable _) none (F a)
theorem bw_yes {P : Addr → Prop} {F H : Hp} {a : Addr} (h : P a) : bw P F H a = H a := if_pos h
theorem bw_no {P : Addr → Prop} {F H : Hp} {a : Addr} (h : ¬ P a) : bw P F H a = F a := if_neg h
theorem ub_yes {P : Addr → Prop} {F : Hp} {a : Addr} (h : P a) : ub P F a = none := if_pos h
theorem ub_no {P : Addr → Prop} {F : Hp} {a : Addr} (h : ¬ P a) : ub P F a = F a := if_neg h

section
variable {K : PySem.W.Frag} {mg : Str → Option Value} {E : XK} {b : Bs} {F F' H H' : Hp} {σ σ' : St} {σd σd' : SD} {X : XW} {P : Addr → Prop}
theorem ub_sqt (hp : ∀ a, P a → ∃ xs, F a = some (.lst xs)) {a : Addr} {xs : List V} (h : SqT K F a xs) : SqT K (ub P F) a xs := by
  have no : ∀ o, F a = some o → (∀ ys, o ≠ .lst ys) → ub P F a = some o := fun o e z => by
    by_cases q : P a
    · obtain ⟨ys, ey⟩ := hp a q
      rw [ey] at e
      exact absurd (Option.some.inj e).symm (z ys)
    · rw [ub_no q]; exact e
  rcases h with (h | ⟨o, h⟩) | h
  · exact .inl (.inl (no _ h fun ys z => by cases z))
  · exact .inl (.inr ⟨o, no _ h fun ys z => by cases z⟩)
  · exact .inr h
mutual
theorem ub_dp (hp : ∀ a, P a → ∃ xs, F a = some (.lst xs)) : ∀ {v : V} {d : D}, noL d = true → Dp K F v d → Dp K (ub P F) v d
  | _, _, _, .non => .non
  | _, _, _, .bl b => .bl b
  | _, _, _, .int i => .int i
  | _, _, _, .str x => .str x
  | _, _, h, .lst _ _ => by cases h
  | _, _, h, .tup q r => .tup (ub_sqt hp q) (ub_dpa hp (by simpa [noL] using h) r)
theorem ub_dpa (hp : ∀ a, P a → ∃ xs, F a = some (.lst xs)) : ∀ {vs : List V} {ds : List D}, noLs ds = true → DpAll K F vs ds → DpAll K (ub P F) vs ds
  | _, _, _, .nil => .nil
  | _ :: _, d :: ds, h, .cons q r => by
    have h : (noL d && noLs ds) = true := by simpa [noLs] using h
    rw [Bool.and_eq_true] at h
    exact .cons (ub_dp hp h.1 q) (ub_dpa hp h.2 r)
end
theorem ub_pairT (hp : ∀ a, P a → ∃ xs, F a = some (.lst xs)) : ∀ {es : List (List Key × V)} {r : List (D × D)}, (r.all fun p => noL p.2) = true → Paired (fun (p : List Key × V) (q : D × D) => q.1 = keyT p.1 ∧ Dp K F p.2 q.2) es r → Paired (fun (p : List Key × V) (q : D × D) => q.1 = keyT p.1 ∧ Dp K (ub P F) p.2 q.2) es r
  | _, _, _, .nil => .nil
  | _ :: _, d :: ds, h, .cons q r => by
    rw [List.all_cons, Bool.and_eq_true] at h
    exact .cons ⟨q.1, ub_dp hp h.1 q.2⟩ (ub_pairT hp h.2 r)
theorem ub_own (hp : ∀ a, P a → ∃ xs, F a = some (.lst xs)) {a : Addr} : ∀ {c : D}, noLc c = true → OwnAt K F H a c → OwnAt K (ub P F) H a c
  | .list ds, h, ⟨vs, h1, h2⟩ => ⟨vs, h1, ub_dpa hp h h2⟩
  | .dict kvs, h, q => by
    have h : (kvs.all fun p => noL p.2) = true := h
    rcases q with ⟨es, h1, h2⟩ | ⟨es, r0, h0, h1, h2⟩
    · refine .inl ⟨es, h1, ?_⟩
      clear h1
      induction h2 with
      | nil => exact .nil
      | cons r t ih =>
        rw [List.all_cons, Bool.and_eq_true] at h
        exact .cons ⟨r.1, ub_dp hp h.1 r.2⟩ (ih h.2 h.2)
    · subst h0
      rw [List.all_cons, Bool.and_eq_true] at h
      have h := h.2
      exact .inr ⟨es, r0, rfl, h1, ub_pairT hp h h2⟩

def putS (σd : SD) (i : Nat) (c : D) : SD := match σd[i]? with
  | some (.own _) => σd.set i (.own c)
  | some (.io _) => σd.set i (.io c)
  | _ => σd

def ioS (σd : SD) : Option (Nat × Addr × D) → SD
  | some (i, _, c) => putS σd i c
  | none => σd
/-- behind a call: bor: the places that were lent; io: the slot whose object may have changed -/
theorem Iv.called (I : Iv K b F H σ σd) (hP : ∀ a, P a → (∃ i, OA σ σd i a) ∧ ∃ xs, H a = some (.lst xs)) {ps : List (Nat × Addr)}
    (io : Option (Nat × Addr × D)) (eps : ∀ p ∈ ps, ∃ i c, io = some (i, p.2, c))
    (hio : ∀ i a c, io = some (i, a, c) → OA σ σd i a ∧ ¬ P a ∧ F' a = none ∧ OwnAt K F' H' a c ∧ (noLc c = true ∨ ∀ a, ¬ P a))
    (x : Ext ⟨H, bw P F H, ps, []⟩ F' H') :
    Iv K b (ub P F') H' σ (ioS σd io) ∧ Grow F (ub P F') ∧ (∀ a, P a → ∃ xs, F' a = some (.lst xs)) := by
  have fp : ∀ a, P a → F a = none := fun a h => by
    obtain ⟨⟨i, h1, d, h2⟩, _⟩ := hP a h
    rcases h2 with h2 | h2
    · obtain ⟨c, e, f, _⟩ := I.sl i _ _ h1 h2
      cases e
      exact f
    · obtain ⟨c, e, f, _⟩ := I.sl i _ _ h1 h2
      cases e
      exact f
  have old : ∀ a, H a ≠ none → F' a = bw P F H a := x.old
  have hp : ∀ a, P a → ∃ xs, F' a = some (.lst xs) := fun a h => by
    obtain ⟨_, xs, e⟩ := hP a h
    exact ⟨xs, by rw [old a (by rw [e]; exact fun z => by cases z), bw_yes h]; exact e⟩
  have oldF : ∀ a, H a ≠ none → ub P F' a = F a := fun a h => by
    by_cases q : P a
    · rw [ub_yes q, fp a q]
    · rw [ub_no q, old a h, bw_no q]
  have g : Grow F (ub P F') := fun a o e => by rw [oldF a (by rw [I.sub _ _ e]; exact fun z => by cases z)]; exact e
  have inps : ∀ {a o}, H a = some o → (∀ i c, io ≠ some (i, a, c)) → H' a = some o := fun {a o} e z => x.keep a o e fun hm => by
    obtain ⟨p, hp1, hp2⟩ := List.mem_map.mp hm
    obtain ⟨i, c, e2⟩ := eps p hp1
    rw [hp2] at e2
    exact z i c e2
  have ext : Ext b (ub P F') H' := by
    refine ⟨fun a o e => ?_, fun a h => ?_, fun a o e hi => ?_, fun a h => x.trk a (I.trk a h)⟩
    · by_cases q : P a
      · rw [ub_yes q] at e; cases e
      · rw [ub_no q] at e; exact x.sub _ _ e
    · rw [oldF a (I.trk a h)]
      exact I.old a h
    · refine inps (I.keep a o e hi) fun i c z => ?_
      obtain ⟨⟨h1, d, h2⟩, _⟩ := hio i a c z
      rcases h2 with h2 | h2
      · obtain ⟨a', e', _, h0, _⟩ := I.sl i _ _ h1 h2
        cases e'
        rw [h0] at e; cases e
      · obtain ⟨a', e', _, h0, _⟩ := I.sl i _ _ h1 h2
        cases e'
        exact hi h0
  -- the slots that are not the changed one
  have other : ∀ {i : Nat} {o : Option V} {s : Sl}, σ[i]? = some o → σd[i]? = some s → (∀ a c, io ≠ some (i, a, c)) → SlR K b (ub P F') H' o s := fun {i o s} h1 h2 z => by
    have r := I.sl i o s h1 h2
    have far : ∀ a, OA σ σd i a → ∀ j c, io ≠ some (j, a, c) := fun a oa j c e => by
      obtain ⟨oa2, _⟩ := hio j a c e
      have := I.apart i j a oa oa2
      subst this
      exact z a c e
    cases s with
    | un => trivial
    | val d =>
      obtain ⟨v, e, r⟩ := r
      exact ⟨v, e, dp_mono g r⟩
    | own d =>
      obtain ⟨a, e, f, h0, r⟩ := r
      subst e
      obtain ⟨u, hu, _⟩ := r.some
      have hn : H a ≠ none := by rw [hu]; exact fun z => by cases z
      exact ⟨a, rfl, by rw [oldF a hn]; exact f, h0, r.mono g ((inps hu (far a ⟨h1, d, .inl h2⟩)).trans hu.symm)⟩
    | io d =>
      obtain ⟨a, e, f, h0, r⟩ := r
      subst e
      obtain ⟨u, hu, _⟩ := r.some
      have hn : H a ≠ none := by rw [hu]; exact fun z => by cases z
      exact ⟨a, rfl, by rw [oldF a hn]; exact f, h0, r.mono g ((inps hu (far a ⟨h1, d, .inr h2⟩)).trans hu.symm)⟩
  have tmp : ∀ p ∈ b.T, H' p.1 = some p.2 ∧ ub P F' p.1 = none ∧ b.H0 p.1 = none := fun p hp => by
    obtain ⟨t1, t2, t3, t4⟩ := I.tmp p hp
    refine ⟨inps t1 fun i c e => ?_, by rw [oldF _ (by rw [t1]; exact fun z => by cases z)]; exact t2, t3⟩
    exact t4 i _ (hio i _ c e).1 rfl
  refine ⟨?_, g, hp⟩
  cases io with
  | none => exact ⟨ext, I.len, fun i o s h1 h2 => other h1 h2 (fun a c z => by cases z), I.apart, I.par, fun p hp => ⟨(tmp p hp).1, (tmp p hp).2.1, (tmp p hp).2.2, (I.tmp p hp).2.2.2⟩⟩
  | some q =>
    obtain ⟨i, a, c⟩ := q
    obtain ⟨⟨h1, d, h2⟩, hnP, hf, hown, hc⟩ := hio i a c rfl
    have hown2 : OwnAt K (ub P F') H' a c := by
      rcases hc with hc | hc
      · exact ub_own hp hc hown
      · have : ub P F' = F' := funext fun a => ub_no (hc a)
        rw [this]
        exact hown
    have hf2 : ub P F' a = none := by rw [ub_no hnP]; exact hf
    have hi : i < σd.length := by
      rcases h2 with h2 | h2
      · exact (List.getElem?_eq_some_iff.mp h2).1
      · exact (List.getElem?_eq_some_iff.mp h2).1
    show Iv K b (ub P F') H' σ (putS σd i c)
    have hset : ∃ s, putS σd i c = σd.set i s ∧ ((s = .own c ∧ σd[i]? = some (.own d)) ∨ (s = .io c ∧ σd[i]? = some (.io d))) := by
      unfold putS
      rcases h2 with h2 | h2
      · rw [h2]; exact ⟨_, rfl, .inl ⟨rfl, rfl⟩⟩
      · rw [h2]; exact ⟨_, rfl, .inr ⟨rfl, rfl⟩⟩
    obtain ⟨s, es, hs⟩ := hset
    rw [es]
    have oaE : ∀ {j k}, OA σ (σd.set i s) j k → OA σ σd j k := fun {j k} ⟨z1, d', z2⟩ => by
      by_cases q : i = j
      · subst q
        exact ⟨z1, d, h2⟩
      · rw [List.getElem?_set_ne q] at z2
        exact ⟨z1, d', z2⟩
    refine ⟨ext, by rw [List.length_set]; exact I.len, fun j o t e1 e2 => ?_, fun j k e z1 z2 => I.apart j k e (oaE z1) (oaE z2), fun p hp => ?_, fun p hp => ⟨(tmp p hp).1, (tmp p hp).2.1, (tmp p hp).2.2, fun j k z => (I.tmp p hp).2.2.2 j k (oaE z)⟩⟩
    · by_cases q : i = j
      · subst q
        rw [List.getElem?_set_self hi] at e2
        cases e2
        rw [h1] at e1
        cases e1
        rcases hs with ⟨rfl, h3⟩ | ⟨rfl, h3⟩
        · obtain ⟨a', e', _, h0, _⟩ := I.sl i _ _ h1 h3
          cases e'
          exact ⟨a, rfl, hf2, h0, hown2⟩
        · obtain ⟨a', e', _, h0, _⟩ := I.sl i _ _ h1 h3
          cases e'
          exact ⟨a, rfl, hf2, h0, hown2⟩
      · rw [List.getElem?_set_ne q] at e2
        exact other e1 e2 fun a' c' z => by cases z; exact q rfl
    · obtain ⟨p1, d', p2⟩ := I.par p hp
      by_cases q : i = p.1
      · rw [← q] at p1 p2 ⊢
        rcases hs with ⟨_, h3⟩ | ⟨rfl, h3⟩
        · rw [h3] at p2; cases p2
        · exact ⟨p1, c, List.getElem?_set_self hi⟩
      · rw [List.getElem?_set_ne q]
        exact ⟨p1, d', p2⟩

/-! ### a def's promise -/
def psOf (ix : Option Nat) (vs : List V) : List (Nat × Addr) := match ix with
  | some j => match vs[j]? with
    | some (.ref a) => [(j, a)]
    | _ => []
  | none => []
def ArgR (K : PySem.W.Frag) (F H : Hp) (ix : Option Nat) (j : Nat) (v : V) (d : D) : Prop := if ix = some j then ∃ a, v = .ref a ∧ F a = none ∧ OwnAt K F H a d else Dp K F v d
/-- a result: data, or a new object -/
def RetR (K : PySem.W.Frag) (H F' H' : Hp) (v : V) : Rv → Prop
  | .d x => Dp K F' v x
  | .f x => ∃ a, v = .ref a ∧ F' a = none ∧ H a = none ∧ OwnAt K F' H' a x
def spD (K : PySem.W.Frag) (mg : Str → Option Value) (fi : FI) : Sp := fun vs H Q E => ∃ F ds X Qd, Grow F H ∧ vs.length = fi.n ∧ ds.length = fi.n ∧ (∀ j v d, vs[j]? = some v → ds[j]? = some d → ArgR K F H fi.ix j v d) ∧ fi.sp ds Qd X ∧
  (∀ v r c F' H', Ext ⟨H, F, psOf fi.ix vs, []⟩ F' H' → RetR K H F' H' v r → (∀ p ∈ psOf fi.ix vs, F' p.2 = none ∧ OwnAt K F' H' p.2 c) → Qd r c → Q v H') ∧ XOk mg ⟨H, F, psOf fi.ix vs, []⟩ X E

/-! ### calls -/
/-- how an operand may go to a parameter -/
def argB (ix : Option Nat) (σd : SD) (j i : Nat) : Prop := match σd[i]? with
  | some (.val _) => ix ≠ some j
  | some (.own d) => if ix = some j then True else fzD d = true
  | some (.io d) => if ix = some j then True else fzD d = true
  | _ => False
def argOk (ix : Option Nat) (σd : SD) (j : Nat) : AV → Prop
  | .d _ => ix ≠ some j
  | .b i => argB ix σd j i
def argsOkD (ix : Option Nat) (σd : SD) : Nat → List AV → Prop
  | _, [] => True
  | j, a :: r => argOk ix σd j a ∧ argsOkD ix σd (j + 1) r
/-- the slot of the changed parameter -/
def ioSlot (ix : Option Nat) (avs : List AV) : Option Nat := match ix with
  | some j => match avs[j]? with
    | some (.b i) => some i
    | _ => none
  | none => none
def isMut (σd : SD) (i : Nat) : Bool := match σd[i]? with
  | some (.own _) => true
  | some (.io _) => true
  | _ => false
/-- an own list is lent -/
def lends (ix : Option Nat) (σd : SD) : Nat → List AV → Bool
  | _, [] => false
  | j, .b i :: r => (isMut σd i && !decide (ix = some j)) || lends ix σd (j + 1) r
  | j, .d _ :: r => lends ix σd (j + 1) r
/-- the lent ones are others than the changed one -/
def lendsNot (ix : Option Nat) (i0 : Option Nat) : Nat → List AV → Prop
  | _, [] => True
  | j, .b i :: r => (ix ≠ some j → i0 ≠ some i) ∧ lendsNot ix i0 (j + 1) r
  | j, .d _ :: r => lendsNot ix i0 (j + 1) r
def putIo (σd : SD) (i0 : Option Nat) (c : D) : SD := match i0 with
  | some i => putS σd i c
  | none => σd
def wCall (fi : FI) (os : List Opd) : WE := fun X σd Q => wOs os X σd fun avs σ1 => ∃ ds, rsL σ1 avs = some ds ∧ avs.length = fi.n ∧ argsOkD fi.ix σ1 0 avs ∧ lendsNot fi.ix (ioSlot fi.ix avs) 0 avs ∧
  fi.sp ds (fun r c => (lends fi.ix σ1 0 avs = true → noLR r = true ∧ noLc c = true) ∧ Q r (putIo σ1 (ioSlot fi.ix avs) c)) X

theorem avs_at : ∀ {vs : List V} {xs : List AV} {j : Nat} {v : V}, AVs K F σ vs xs → vs[j]? = some v → ∃ x, xs[j]? = some x ∧ AVr K F σ v x
  | _, _, _, _, .nil, h => by simp at h
  | _, _, 0, v, .cons h t, e => by
    simp at e
    subst e
    exact ⟨_, rfl, h⟩
  | _, _, j + 1, v, .cons h t, e => by
    obtain ⟨x, h1, h2⟩ := avs_at (j := j) t (by simpa using e)
    exact ⟨x, by simpa using h1, h2⟩
theorem avs_len : ∀ {vs : List V} {xs : List AV}, AVs K F σ vs xs → vs.length = xs.length
  | _, _, .nil => rfl
  | _, _, .cons _ t => by rw [List.length_cons, List.length_cons, avs_len t]
theorem rsL_at : ∀ {xs : List AV} {ds : List D} {j : Nat} {x : AV}, rsL σd xs = some ds → xs[j]? = some x → ∃ d, ds[j]? = some d ∧ rs σd x = some d
  | [], _, _, _, _, h => by simp at h
  | x :: xs, ds, j, y, e, h => by
    unfold rsL at e
    cases h1 : rs σd x with
    | none => rw [h1] at e; cases e
    | some d =>
      cases h2 : rsL σd xs with
      | none => rw [h1, h2] at e; cases e
      | some es =>
        rw [h1, h2] at e
        cases e
        cases j with
        | zero =>
          simp at h
          subst h
          exact ⟨d, rfl, h1⟩
        | succ j => 
          obtain ⟨d', q1, q2⟩ := rsL_at (j := j) h2 (by simpa using h)
          exact ⟨d', by simpa using q1, q2⟩
theorem rsL_len : ∀ {xs : List AV} {ds : List D}, rsL σd xs = some ds → ds.length = xs.length
  | [], _, e => by cases e; rfl
  | x :: xs, ds, e => by
    unfold rsL at e
    cases h1 : rs σd x with
    | none => rw [h1] at e; cases e
    | some d =>
      cases h2 : rsL σd xs with
      | none => rw [h1, h2] at e; cases e
      | some es =>
        rw [h1, h2] at e
        cases e
        rw [List.length_cons, List.length_cons, rsL_len h2]
theorem argsOk_at : ∀ {avs : List AV} {k j : Nat} {x : AV} {ix : Option Nat}, argsOkD ix σd k avs → avs[j]? = some x → argOk ix σd (k + j) x
  | [], _, _, _, _, _, h => by simp at h
  | a :: r, k, 0, x, ix, q, h => by
    simp at h
    subst h
    exact q.1
  | a :: r, k, j + 1, x, ix, q, h => by
    have := argsOk_at (k := k + 1) (j := j) q.2 (by simpa using h)
    rwa [show k + (j + 1) = k + 1 + j by omega]
theorem lendsNot_at : ∀ {avs : List AV} {k j i : Nat} {ix i0 : Option Nat}, lendsNot ix i0 k avs → avs[j]? = some (.b i) → ix ≠ some (k + j) → i0 ≠ some i
  | [], _, _, _, _, _, _, h, _ => by simp at h
  | .b a :: r, k, 0, i, ix, i0, q, h, n => by
    simp at h
    subst h
    exact q.1 n
  | .d a :: r, k, 0, i, ix, i0, q, h, n => by simp at h
  | .b a :: r, k, j + 1, i, ix, i0, q, h, n => lendsNot_at (k := k + 1) (j := j) q.2 (by simpa using h) (by rwa [show k + 1 + j = k + (j + 1) by omega])
  | .d a :: r, k, j + 1, i, ix, i0, q, h, n => lendsNot_at (k := k + 1) (j := j) (show lendsNot ix i0 (k + 1) r from q) (by simpa using h) (by rwa [show k + 1 + j = k + (j + 1) by omega])
theorem lends_at : ∀ {avs : List AV} {k j i : Nat} {ix : Option Nat}, avs[j]? = some (.b i) → ix ≠ some (k + j) → isMut σd i = true → lends ix σd k avs = true
  | [], _, _, _, _, h, _, _ => by simp at h
  | .b a :: r, k, 0, i, ix, h, n, m => by
    simp at h
    subst h
    unfold lends
    rw [m, decide_eq_false (by simpa using n)]
    rfl
  | .d a :: r, k, 0, i, ix, h, n, m => by simp at h
  | .b a :: r, k, j + 1, i, ix, h, n, m => by
    unfold lends
    rw [lends_at (k := k + 1) (j := j) (by simpa using h) (by rwa [show k + 1 + j = k + (j + 1) by omega]) m, Bool.or_true]
  | .d a :: r, k, j + 1, i, ix, h, n, m => by
    unfold lends
    exact lends_at (k := k + 1) (j := j) (by simpa using h) (by rwa [show k + 1 + j = k + (j + 1) by omega]) m
theorem isMut_of {i : Nat} (h : ∃ d, σd[i]? = some (.own d) ∨ σd[i]? = some (.io d)) : isMut σd i = true := by
  obtain ⟨d, h | h⟩ := h <;> (unfold isMut; rw [h])

theorem call_ok {fi : FI} {os : List Opd} {Q : VK} (h : tD K mg E (wCall fi os) σ H Q) : tCall (spD K mg fi) [] E (tOs K mg E os) σ H Q := by
  obtain ⟨b, F, σd, X, Qd, I, x, h, q⟩ := h
  refine tOs_run I x h fun vs H1 F1 avs σ1 I1 g1 r1 ⟨ds, e1, hn, ha, hl, h1⟩ => ?_
  rw [List.append_nil]
  have lv := avs_len r1
  -- the lent places
  let P : Addr → Prop := fun a => ∃ j i, avs[j]? = some (.b i) ∧ fi.ix ≠ some j ∧ OA σ σ1 i a
  have own_dp : ∀ {a d}, fzD d = true → OwnAt K F1 H1 a d → ∃ xs ds, H1 a = some (.lst xs) ∧ d = .list ds ∧ DpAll K F1 xs ds := fun {a d} z o => by
    cases d with
    | list ds => obtain ⟨xs, o1, o2⟩ := o; exact ⟨xs, ds, o1, rfl, o2⟩
    | _ => cases z
  have hP : ∀ a, P a → (∃ i, OA σ σ1 i a) ∧ ∃ xs, H1 a = some (.lst xs) := fun a ⟨j, i, z1, z2, z3⟩ => by
    refine ⟨⟨i, z3⟩, ?_⟩
    have ok := argsOk_at ha z1
    obtain ⟨s1, d, s2⟩ := z3
    rw [Nat.zero_add] at ok
    replace ok : argB fi.ix σ1 j i := ok
    unfold argB at ok
    rcases s2 with s2 | s2
    · rw [s2] at ok
      simp only at ok
      rw [if_neg z2] at ok
      obtain ⟨a', e', _, _, o⟩ := I1.sl i _ _ s1 s2
      cases e'
      obtain ⟨xs, _, o1, _⟩ := own_dp ok o
      exact ⟨xs, o1⟩
    · rw [s2] at ok
      simp only at ok
      rw [if_neg z2] at ok
      obtain ⟨a', e', _, _, o⟩ := I1.sl i _ _ s1 s2
      cases e'
      obtain ⟨xs, _, o1, _⟩ := own_dp ok o
      exact ⟨xs, o1⟩
  have fP : ∀ a, P a → F1 a = none := fun a ⟨j, i, z1, z2, s1, d, s2⟩ => by
    rcases s2 with s2 | s2
    · obtain ⟨a', e', f, _⟩ := I1.sl i _ _ s1 s2
      cases e'
      exact f
    · obtain ⟨a', e', f, _⟩ := I1.sl i _ _ s1 s2
      cases e'
      exact f
  have gF : Grow F1 (bw P F1 H1) := fun a o e => by
    by_cases z : P a
    · rw [fP a z] at e; cases e
    · rw [bw_no z]; exact e
  have gH : Grow (bw P F1 H1) H1 := fun a o e => by
    by_cases z : P a
    · rw [bw_yes z] at e; exact e
    · rw [bw_no z] at e; exact I1.sub _ _ e
  -- the changed parameter
  have hio : ∀ j a, fi.ix = some j → vs[j]? = some (.ref a) → ∃ i, avs[j]? = some (.b i) ∧ OA σ σ1 i a := fun j a e1 e2 => by
    obtain ⟨y, y1, y2⟩ := avs_at r1 e2
    have ok := argsOk_at ha y1
    rw [Nat.zero_add] at ok
    cases y with
    | d w => exact absurd e1 ok
    | b i =>
      refine ⟨i, y1, y2, ?_⟩
      replace ok : argB fi.ix σ1 j i := ok
      unfold argB at ok
      cases z : σ1[i]? with
      | none => rw [z] at ok; exact ok.elim
      | some s =>
        rw [z] at ok
        cases s with
        | val d => exact absurd e1 ok
        | own d => exact ⟨d, .inl rfl⟩
        | io d => exact ⟨d, .inr rfl⟩
        | un => exact ok.elim
  have ioNP : ∀ j i a, fi.ix = some j → avs[j]? = some (.b i) → OA σ σ1 i a → ¬ P a := fun j i a e1 e2 oa ⟨j', i', z1, z2, z3⟩ => by
    have := I1.apart i i' a oa z3
    subst this
    refine lendsNot_at hl z1 (by rw [Nat.zero_add]; exact z2) ?_
    unfold ioSlot
    rw [e1]
    simp only [e2]
  refine ⟨bw P F1 H1, ds, X, _, gH, by rw [lv]; exact hn, by rw [rsL_len e1]; exact hn, fun j v d hv hd => ?_, h1, fun v r c F' H' ex rr hc hq => ?_, fun nm C F' H' hx hm ex => x nm C (ub P F') H' hx hm ?_⟩
  · -- the arguments
    obtain ⟨y, y1, y2⟩ := avs_at r1 hv
    obtain ⟨d', e3, e4⟩ := rsL_at e1 y1
    rw [hd] at e3
    cases e3
    have ok := argsOk_at ha y1
    rw [Nat.zero_add] at ok
    unfold ArgR
    cases y with
    | d w =>
      cases e4
      rw [if_neg ok]
      exact dp_mono gF y2
    | b i =>
      have y2 : σ[i]? = some (some v) := y2
      have e4 : (σ1[i]?).bind slD = some d := e4
      replace ok : argB fi.ix σ1 j i := ok
      unfold argB at ok
      cases z : σ1[i]? with
      | none => rw [z] at ok; exact ok.elim
      | some s =>
        rw [z] at ok e4
        have r := I1.sl i _ s y2 z
        cases s with
        | un => exact ok.elim
        | val d2 =>
          cases e4
          rw [if_neg ok]
          obtain ⟨v', e5, r⟩ := r
          cases e5
          exact dp_mono gF r
        | own d2 =>
          cases e4
          obtain ⟨a, e5, f, h0, o⟩ := r
          cases e5
          have oa : OA σ σ1 i a := ⟨y2, d, .inl z⟩
          by_cases hj : fi.ix = some j
          · rw [if_pos hj]
            exact ⟨a, rfl, by rw [bw_no (ioNP j i a hj y1 oa)]; exact f, o.mono gF rfl⟩
          · rw [if_neg hj]
            simp only at ok
            rw [if_neg hj] at ok
            obtain ⟨xs, es, o1, rfl, o2⟩ := own_dp ok o
            exact .lst (.inl (.inl (by rw [bw_yes (show P a from ⟨j, i, y1, hj, oa⟩)]; exact o1))) (dpa_mono gF o2)
        | io d2 =>
          cases e4
          obtain ⟨a, e5, f, h0, o⟩ := r
          cases e5
          have oa : OA σ σ1 i a := ⟨y2, d, .inr z⟩
          by_cases hj : fi.ix = some j
          · rw [if_pos hj]
            exact ⟨a, rfl, by rw [bw_no (ioNP j i a hj y1 oa)]; exact f, o.mono gF rfl⟩
          · rw [if_neg hj]
            simp only at ok
            rw [if_neg hj] at ok
            obtain ⟨xs, es, o1, rfl, o2⟩ := own_dp ok o
            exact .lst (.inl (.inl (by rw [bw_yes (show P a from ⟨j, i, y1, hj, oa⟩)]; exact o1))) (dpa_mono gF o2)
  · -- behind the call
    obtain ⟨hlend, hq⟩ := hq
    -- the changed object
    have lendP : ∀ a, P a → lends fi.ix σ1 0 avs = true := fun a ⟨j, i, z1, z2, z3⟩ => lends_at z1 (by rw [Nat.zero_add]; exact z2) (isMut_of z3.2)
    have main : ∃ io : Option (Nat × Addr × D), (∀ p ∈ psOf fi.ix vs, ∃ i c, io = some (i, p.2, c)) ∧ (∀ i a c, io = some (i, a, c) → OA σ σ1 i a ∧ ¬ P a ∧ F' a = none ∧ OwnAt K F' H' a c ∧ (noLc c = true ∨ ∀ a, ¬ P a)) ∧
        ioS σ1 io = putIo σ1 (ioSlot fi.ix avs) c := by
      cases hix : fi.ix with
      | none => exact ⟨none, fun p hp => (by unfold psOf at hp; cases hp), fun i a c z => (by cases z), rfl⟩
      | some j =>
        cases hv : vs[j]? with
        | none =>
          refine ⟨none, fun p hp => ?_, fun i a c z => (by cases z), ?_⟩
          · unfold psOf at hp
            simp only [hv] at hp
            cases hp
          · have : avs[j]? = none := List.getElem?_eq_none (by rw [← lv]; exact List.getElem?_eq_none_iff.mp hv)
            unfold putIo ioSlot
            simp only [this]
            rfl
        | some v' =>
          obtain ⟨y, y1, y2⟩ := avs_at r1 hv
          have ok := argsOk_at ha y1
          rw [Nat.zero_add] at ok
          have hoa : ∃ i a, y = .b i ∧ v' = .ref a ∧ OA σ σ1 i a := by
            cases y with
            | d w => exact absurd hix ok
            | b i =>
              replace ok : argB fi.ix σ1 j i := ok
              unfold argB at ok
              have y2 : σ[i]? = some (some v') := y2
              cases z : σ1[i]? with
              | none => rw [z] at ok; exact ok.elim
              | some s =>
                rw [z] at ok
                have r := I1.sl i _ s y2 z
                cases s with
                | un => exact ok.elim
                | val d => exact absurd hix ok
                | own d =>
                  obtain ⟨a, e, _⟩ := r
                  cases e
                  exact ⟨i, a, rfl, rfl, y2, d, .inl z⟩
                | io d =>
                  obtain ⟨a, e, _⟩ := r
                  cases e
                  exact ⟨i, a, rfl, rfl, y2, d, .inr z⟩
          obtain ⟨i, a, rfl, rfl, oa⟩ := hoa
          have ep : psOf fi.ix vs = [(j, a)] := by
            unfold psOf
            rw [hix]
            simp only [hv]
          refine ⟨some (i, a, c), fun p hp => ?_, fun i' a' c' z => ?_, ?_⟩
          · rw [← hix, ep] at hp
            rw [List.mem_singleton.mp hp]
            exact ⟨i, c, rfl⟩
          · cases z
            obtain ⟨q1, q2⟩ := hc (j, a) (by rw [ep]; exact List.mem_cons_self)
            refine ⟨oa, ioNP j i a hix y1 oa, q1, q2, ?_⟩
            by_cases hp : ∃ a, P a
            · obtain ⟨a2, hp⟩ := hp
              exact .inl (hlend (lendP a2 hp)).2
            · exact .inr fun a2 z => hp ⟨a2, z⟩
          · unfold putIo ioSlot
            simp only [y1]
            rfl
    obtain ⟨io, m1, m2, m3⟩ := main
    obtain ⟨I2, g2, hp2⟩ := I1.called hP io m1 m2 ex
    rw [m3] at I2
    refine q v H' (ub P F') r _ I2 (g1.trans g2) ?_ hq
    by_cases hp : ∃ a, P a
    · obtain ⟨a2, hp⟩ := hp
      have nl := (hlend (lendP a2 hp)).1
      cases r with
      | d y => exact ub_dp hp2 nl rr
      | f y =>
        obtain ⟨a, rfl, f1, f2, f3⟩ := rr
        have na : ¬ P a := fun z => by
          obtain ⟨_, xs, e⟩ := hP a z
          rw [f2] at e; cases e
        refine ⟨a, rfl, by rw [ub_no na]; exact f1, ?_, ub_own hp2 nl f3, fun j z => ?_, fun t ht z => ?_⟩
        · cases e : b.H0 a with
          | none => rfl
          | some o => exact absurd f2 (I1.trk a (by rw [e]; exact fun z => by cases z))
        · obtain ⟨z1, d, z2⟩ := z
          have oa : OA σ σ1 j a := by
            refine ⟨z1, ?_⟩
            rw [← m3] at z2
            cases io with
            | none => exact ⟨d, z2⟩
            | some q =>
              obtain ⟨i, a', c'⟩ := q
              change (putS σ1 i c')[j]? = _ ∨ (putS σ1 i c')[j]? = _ at z2
              by_cases q : i = j
              · subst q; exact (m2 i a' c' rfl).1.2
              · unfold putS at z2
                split at z2
                · rw [List.getElem?_set_ne q] at z2; exact ⟨d, z2⟩
                · rw [List.getElem?_set_ne q] at z2; exact ⟨d, z2⟩
                · exact ⟨d, z2⟩
          obtain ⟨s1, d2, s2⟩ := oa
          rcases s2 with s2 | s2
          · obtain ⟨a', e', _, _, o⟩ := I1.sl j _ _ s1 s2
            cases e'
            obtain ⟨u, hu, _⟩ := o.some
            rw [f2] at hu; cases hu
          · obtain ⟨a', e', _, _, o⟩ := I1.sl j _ _ s1 s2
            cases e'
            obtain ⟨u, hu, _⟩ := o.some
            rw [f2] at hu; cases hu
        · have := (I1.tmp t ht).1
          rw [z, f2] at this; cases this
    · have same : ub P F' = F' := funext fun a => ub_no fun z => hp ⟨a, z⟩
      rw [same]
      cases r with
      | d y => exact rr
      | f y =>
        obtain ⟨a, rfl, f1, f2, f3⟩ := rr
        refine ⟨a, rfl, f1, ?_, f3, fun j z => ?_, fun t ht z => ?_⟩
        · cases e : b.H0 a with
          | none => rfl
          | some o => exact absurd f2 (I1.trk a (by rw [e]; exact fun z => by cases z))
        · obtain ⟨z1, d, z2⟩ := z
          have oa : OA σ σ1 j a := by
            refine ⟨z1, ?_⟩
            rw [← m3] at z2
            cases io with
            | none => exact ⟨d, z2⟩
            | some q =>
              obtain ⟨i, a', c'⟩ := q
              change (putS σ1 i c')[j]? = _ ∨ (putS σ1 i c')[j]? = _ at z2
              by_cases q : i = j
              · subst q; exact (m2 i a' c' rfl).1.2
              · unfold putS at z2
                split at z2
                · rw [List.getElem?_set_ne q] at z2; exact ⟨d, z2⟩
                · rw [List.getElem?_set_ne q] at z2; exact ⟨d, z2⟩
                · exact ⟨d, z2⟩
          obtain ⟨s1, d2, s2⟩ := oa
          rcases s2 with s2 | s2
          · obtain ⟨a', e', _, _, o⟩ := I1.sl j _ _ s1 s2
            cases e'
            obtain ⟨u, hu, _⟩ := o.some
            rw [f2] at hu; cases hu
          · obtain ⟨a', e', _, _, o⟩ := I1.sl j _ _ s1 s2
            cases e'
            obtain ⟨u, hu, _⟩ := o.some
            rw [f2] at hu; cases hu
        · have := (I1.tmp t ht).1
          rw [z, f2] at this; cases this
  · -- an error that leaves
    have main : ∃ io : Option (Nat × Addr × D), True := ⟨none, trivial⟩
    refine (Ext.mk (b := b) (F := ub P F') (H := H') (fun a o e => ?_) (fun a h => ?_) (fun a o e hi => ?_) fun a h => ex.trk a (I1.trk a h))
    · by_cases z : P a
      · rw [ub_yes z] at e; cases e
      · rw [ub_no z] at e; exact ex.sub _ _ e
    · have hn := I1.trk a h
      have o1 : F' a = bw P F1 H1 a := ex.old a hn
      by_cases z : P a
      · rw [ub_yes z, ← I1.old a h, fP a z]
      · rw [ub_no z, o1, bw_no z]; exact I1.old a h
    · refine ex.keep a o (I1.keep a o e hi) fun hm => ?_
      obtain ⟨p, hp1, hp2⟩ := List.mem_map.mp hm
      have hp1 : p ∈ psOf fi.ix vs := hp1
      unfold psOf at hp1
      cases hix : fi.ix with
      | none => rw [hix] at hp1; cases hp1
      | some j =>
        rw [hix] at hp1
        simp only at hp1
        split at hp1
        · rename_i a' hv
          rw [List.mem_singleton.mp hp1] at hp2
          obtain ⟨i, _, s1, d, s2⟩ := hio j a' hix hv
          have hp2 : a' = a := hp2
          subst hp2
          rcases s2 with s2 | s2
          · obtain ⟨a2, e', _, h0, _⟩ := I1.sl i _ _ s1 s2
            cases e'
            rw [h0] at e; cases e
          · obtain ⟨a2, e', _, h0, _⟩ := I1.sl i _ _ s1 s2
            cases e'
            exact hi h0
        · cases hp1
end

section
variable {X : Cx} {E : XK} {e : Expr} {es : List Expr} {pos p : Pos} {x : Str} {k : Nat} {f : Addr} {fd : FuncData} {ps : List Str}
theorem de_call {fi : FI} {os : List Opd} (gd : X.A.guards = some []) (F : FnG X.prog X.w X.K X.mg X.base (L2.CX X.prog X.w) k f fd ps (spD X.K X.mg fi)) (hr : Room k X.A) (hg : Gl X x) (hm : X.mg x = some (.ref f)) (hk : PySem.W.keepIn X.K (.ref f) = true) (hb : Binds X.K fd ps []) (hx : Passes (L2.CX X.prog X.w) X E)
    (ha : DA X E (e :: es) os) (hdb : (x == ("__debug__" : Str)) = false) (he : starEach (e :: es) X.env = (false, eval e X.env) :: starEach es X.env) (hpl : (backTo pos (starEach es X.env)).any (·.1) = false) : DE X E (.Call (.Name x p) (e :: es) [] pos) (wCall fi os) :=
  (pe_callG F gd hr hg hm hk hb hx ha hdb he hpl).imp fun _ _ _ h => call_ok h
end

/-! ### a def's body -/
def ioC (ix : Option Nat) (σ : SD) : D := match ix with
  | some j => match σ[j]? with
    | some (.io c) => c
    | _ => .none
  | none => .none
def startD (ix : Option Nat) (m : Nat) : Nat → List D → SD
  | _, [] => List.replicate m .un
  | j, d :: r => (if ix = some j then .io d else .val d) :: startD ix m (j + 1) r
theorem startD_len (ix : Option Nat) (m : Nat) : ∀ (j : Nat) (ds : List D), (startD ix m j ds).length = ds.length + m
  | _, [] => by simp [startD]
  | j, d :: r => by
    show (startD ix m (j + 1) r).length + 1 = r.length + 1 + m
    rw [startD_len]
    omega
theorem startD_get (ix : Option Nat) (m : Nat) : ∀ (j : Nat) (ds : List D) (i : Nat) (s : Sl), (startD ix m j ds)[i]? = some s → (∃ d, ds[i]? = some d ∧ s = if ix = some (j + i) then .io d else .val d) ∨ s = .un
  | j, [], i, s, h => by
    unfold startD at h
    rw [List.getElem?_replicate] at h
    split at h
    · exact .inr (Option.some.inj h).symm
    · cases h
  | j, d :: r, 0, s, h => by
    simp [startD] at h
    exact .inl ⟨d, rfl, by rw [Nat.add_zero]; exact h.symm⟩
  | j, d :: r, i + 1, s, h => by
    have := startD_get ix m (j + 1) r i s (by simpa [startD] using h)
    rcases this with ⟨d', h1, h2⟩ | h
    · exact .inl ⟨d', by simpa using h1, by rw [show j + (i + 1) = j + 1 + i by omega]; exact h2⟩
    · exact .inr h
theorem startD_io (ix : Option Nat) (m : Nat) : ∀ (j : Nat) (ds : List D) (i : Nat) (d : D), ds[i]? = some d → ix = some (j + i) → (startD ix m j ds)[i]? = some (.io d)
  | j, [], i, d, h, _ => by simp at h
  | j, d :: r, 0, d', h, e => by
    simp at h
    subst h
    simp [startD]
    rw [Nat.add_zero] at e
    rw [e]
  | j, d :: r, i + 1, d', h, e => by
    have := startD_io ix m (j + 1) r i d' (by simpa using h) (by rw [e, show j + (i + 1) = j + 1 + i by omega])
    simpa [startD] using this
/-- a body's reading -/
def Reads (fi : FI) (m : Nat) (w : WS) : Prop := ∀ ds Qd X, ds.length = fi.n → fi.sp ds Qd X → w X ⟨fun σ => Qd (.d .none) (ioC fi.ix σ), fun r σ => Qd r (ioC fi.ix σ), fun _ => False, fun _ => False⟩ (startD fi.ix m 0 ds)
def ReadsN (fi : FI) (m : Nat) (w : WS) : Prop := ∀ ds Qd X, ds.length = fi.n → fi.sp ds Qd X → w noX ⟨fun σ => Qd (.d .none) (ioC fi.ix σ), fun r σ => Qd r (ioC fi.ix σ), fun _ => False, fun _ => False⟩ (startD fi.ix m 0 ds)

section
variable {K : PySem.W.Frag} {mg : Str → Option Value} {E E' : XK} {H : Hp} {w : WS} {fi : FI} {vs : List V} {Q : VK} {N : List Str} {m : Nat}
theorem start_get {i : Nat} {o : Option V} (h : (start N vs)[i]? = some o) : (∃ v, vs[i]? = some v ∧ o = some v) ∨ o = none := by
  unfold start at h
  by_cases hi : i < vs.length
  · rw [List.getElem?_append_left (by simpa using hi), List.getElem?_map, List.getElem?_eq_getElem hi] at h
    exact .inl ⟨vs[i], List.getElem?_eq_getElem hi, (Option.some.inj h).symm⟩
  · rw [List.getElem?_append_right (by simpa using hi), List.getElem?_replicate] at h
    split at h
    · exact .inr (Option.some.inj h).symm
    · cases h
theorem start_at {i : Nat} {v : V} (h : vs[i]? = some v) : (start N vs)[i]? = some (some v) := by
  unfold start
  have hi := (List.getElem?_eq_some_iff.mp h).1
  rw [List.getElem?_append_left (by simpa using hi), List.getElem?_map, h]
  rfl
theorem start_iv (hN : N.length = fi.n + m) {F : Hp} {ds : List D} (g : Grow F H) (hv : vs.length = fi.n) (hd : ds.length = fi.n) (args : ∀ j v d, vs[j]? = some v → ds[j]? = some d → ArgR K F H fi.ix j v d) :
    Iv K ⟨H, F, psOf fi.ix vs, []⟩ F H (start N vs) (startD fi.ix m 0 ds) := by
  have hps : ∀ p ∈ psOf fi.ix vs, ∃ j, fi.ix = some j ∧ p.1 = j ∧ vs[j]? = some (.ref p.2) := fun p hp => by
    unfold psOf at hp
    cases hix : fi.ix with
    | none => rw [hix] at hp; cases hp
    | some j =>
      rw [hix] at hp
      simp only at hp
      split at hp
      · rename_i a e
        rw [List.mem_singleton.mp hp]
        exact ⟨j, rfl, rfl, e⟩
      · cases hp
  have hoa : ∀ i a, OA (start N vs) (startD fi.ix m 0 ds) i a → fi.ix = some i ∧ vs[i]? = some (.ref a) := fun i a ⟨z1, d, z2⟩ => by
    rcases start_get z1 with ⟨v, h1, h2⟩ | h1
    · cases h2
      rcases z2 with z2 | z2
      · rcases startD_get _ _ _ _ _ _ z2 with ⟨d', _, e⟩ | e
        · split at e <;> cases e
        · cases e
      · rcases startD_get _ _ _ _ _ _ z2 with ⟨d', _, e⟩ | e
        · rw [Nat.zero_add] at e
          split at e
          · rename_i hix
            exact ⟨hix, h1⟩
          · cases e
        · cases e
    · cases h1
  refine ⟨⟨g, fun _ _ => rfl, fun _ _ e _ => e, fun _ e => e⟩, ?_, fun i o s h1 h2 => ?_, fun i j a z1 z2 => ?_, fun p hp => ?_, fun p hp => by cases hp⟩
  · rw [startD_len]
    unfold start
    rw [List.length_append, List.length_map, List.length_replicate]
    omega
  · rcases startD_get _ _ _ _ _ _ h2 with ⟨d, e1, e2⟩ | e
    · rw [Nat.zero_add] at e2
      rcases start_get h1 with ⟨v, e3, e4⟩ | e3
      · subst e4
        have r := args i v d e3 e1
        unfold ArgR at r
        split at e2
        · rename_i hix
          rw [if_pos hix] at r
          subst e2
          obtain ⟨a, rfl, f, o⟩ := r
          refine ⟨a, rfl, f, ?_, o⟩
          show a ∈ (psOf fi.ix vs).map (·.2)
          unfold psOf
          rw [hix]
          simp only [e3]
          exact List.mem_cons_self
        · rename_i hix
          rw [if_neg hix] at r
          subst e2
          exact ⟨v, rfl, r⟩
      · exfalso
        have hi := (List.getElem?_eq_some_iff.mp e1).1
        rw [hd, ← hv] at hi
        rw [start_at (List.getElem?_eq_getElem hi)] at h1
        rw [e3] at h1
        cases h1
    · subst e
      trivial
  · have := (hoa i a z1).1.symm.trans (hoa j a z2).1
    exact Option.some.inj this
  · obtain ⟨j, h1, h2, h3⟩ := hps p hp
    subst h2
    have hj : p.1 < ds.length := by rw [hd, ← hv]; exact (List.getElem?_eq_some_iff.mp h3).1
    exact ⟨start_at h3, ds[p.1], startD_io _ _ _ _ _ _ (List.getElem?_eq_getElem hj) (by rw [Nat.zero_add]; exact h1)⟩
theorem body_run (hN : N.length = fi.n + m) {F : Hp} {ds : List D} {Wx : XW} {Qd : Rv → D → Prop} (g : Grow F H) (hv : vs.length = fi.n) (hd : ds.length = fi.n) (args : ∀ j v d, vs[j]? = some v → ds[j]? = some d → ArgR K F H fi.ix j v d)
    (q : ∀ v r c F' H', Ext ⟨H, F, psOf fi.ix vs, []⟩ F' H' → RetR K H F' H' v r → (∀ p ∈ psOf fi.ix vs, F' p.2 = none ∧ OwnAt K F' H' p.2 c) → Qd r c → Q v H') (x : XOk mg ⟨H, F, psOf fi.ix vs, []⟩ Wx E)
    (h : w Wx ⟨fun σ => Qd (.d .none) (ioC fi.ix σ), fun r σ => Qd r (ioC fi.ix σ), fun _ => False, fun _ => False⟩ (startD fi.ix m 0 ds)) :
    tDS K mg E w { nx := fun _ H' => Q .non H', rt := Q } (start N vs) H := by
  have hps : ∀ p ∈ psOf fi.ix vs, ∃ j, fi.ix = some j ∧ p.1 = j ∧ vs[j]? = some (.ref p.2) := fun p hp => by
    unfold psOf at hp
    cases hix : fi.ix with
    | none => rw [hix] at hp; cases hp
    | some j =>
      rw [hix] at hp
      simp only at hp
      split at hp
      · rename_i a e
        rw [List.mem_singleton.mp hp]
        exact ⟨j, rfl, rfl, e⟩
      · cases hp
  have I := start_iv (K := K) (m := m) hN g hv hd args
  have fin : ∀ {v r σ' F' H' σd'}, Iv K ⟨H, F, psOf fi.ix vs, []⟩ F' H' σ' σd' → RvR K ⟨H, F, psOf fi.ix vs, []⟩ F' H' σ' σd' v r → Qd r (ioC fi.ix σd') → Q v H' := fun {v r σ' F' H' σd'} I' rr hq => by
    refine q v r _ F' H' I'.toExt ?_ (fun p hp => ?_) hq
    · cases r with
      | d y => exact rr
      | f y =>
        obtain ⟨a, e, f⟩ := rr
        exact ⟨a, e, f.fz, f.h0, f.at_⟩
    · obtain ⟨j, h1, h2, h3⟩ := hps p hp
      obtain ⟨p1, c, p2⟩ := I'.par p hp
      obtain ⟨a, e, f, _, o⟩ := I'.sl _ _ _ p1 p2
      cases e
      have : ioC fi.ix σd' = c := by
        unfold ioC
        rw [h1]
        simp only [← h2, p2]
      rw [this]
      exact ⟨f, o⟩
  exact ⟨_, F, _, Wx, _, I, x, h, ⟨fun σ' F' H' σd' I' _ hq => fin (r := .d .none) I' (Dp.non) hq, fun v r σ' F' H' σd' I' rr _ hq => fin I' rr hq, fun _ _ _ _ _ _ z => z.elim, fun _ _ _ _ _ _ z => z.elim⟩⟩
end

section
variable {P : Program} {w : World} {K : PySem.W.Frag} {mg : Str → Option Value} {base : Heap} {x qual : Str} {params : Arguments} {body : List Stmt} {scope : Scope} {dvs : List V} {kws : List (Str × V)} {f : Addr} {fd : FuncData} {N ps : List Str} {k m : Nat} {fi : FI} {ws : WS}
theorem def_x (F : FunD K x qual params body scope dvs kws f fd) (S : FnScope N ps scope) (hp : ps.length = fi.n) (hN : N.length = fi.n + m) (rd : Reads fi m ws)
    (hb : ∀ (cdv : Value) (A : Around) (outer : List Env) (s : Shared) (H : Hp) (E : XK), A.guards = some [] → Room k (A.deeper (envOfC qual scope s.heap.objs.size f cdv)) → DSs (cxOf (L2.CX P w) P w K mg base N qual scope f cdv A outer s H E) E body ws) :
    FnG P w K mg base (L2.CX P w) (k + 1) f fd ps (spD K mg fi) := by
  refine okG F S (fun vs H Q E h => ?_) (fun cdv A outer s H vs Q E gd hr h => ?_)
  · obtain ⟨_, _, _, _, _, hv, _⟩ := h
    rw [hv, hp]
  · obtain ⟨Fz, ds, Wx, Qd, g, hv, hd, args, hs, q, xo⟩ := h
    exact ⟨_, hb cdv A outer s H E gd hr, body_run hN g hv hd args q xo (rd ds Qd Wx hd hs)⟩
end
end DL
end L2
set_option Elab.async false
set_option maxRecDepth 100000
set_option maxHeartbeats 1000000
/-! The data layer, part 7: list comprehensions as expressions, several targets, changes of own lists, further calls. -/
namespace L2
open PySem PySem.Spec PyProof.Rows
namespace DL

def wtYes : WT := fun _ σd Q => Q true σd
section
variable {X : Cx} {E : XK} {e a c : Expr} {pos : Pos} {vs : List Nat}
abbrev DTs (X : Cx) (ifs : List Expr) (w : WT) : Prop := PTs X ifs (tDT X.K X.mg EF w)
theorem dts_nil : DTs X [] wtYes := ⟨fun pins s σ H Q I h => by
  obtain ⟨b, F, σd, W, Qd, I2, x, h, q⟩ := h
  exact pts_nil.run pins s σ H Q I (q true H F σd I2 (Grow.refl F) h)⟩
theorem dts_one {w : WT} (h : DT X EF c w) : DTs X [c] w := pts_one h
theorem de_lc {elt tg iter : Expr} {ifs : List Expr} {scope : Scope} {own : List (Str × Nat)} {wi : WI} {g : WG} {t : WT} {w : WE} (hc : X.calm = true) (hN : X.N.Nodup) (hi : DI X E tg iter wi) (ok : BlkOk X.N X.env.scope scope own) (hv : own.map (·.2) = vs)
    (hg : ∀ (s : Shared) (H : Hp) (C : Addr) (cl : List (Str × Addr)) (fp : List Addr), DG (X.blk s H scope (compEnvC scope cl C X.env) fp) vs tg g) (ht : ∀ (s : Shared) (H : Hp) (C : Addr) (cl : List (Str × Addr)) (fp : List Addr), DTs (X.blk s H scope (compEnvC scope cl C X.env) fp) ifs t)
    (he : ∀ (s : Shared) (H : Hp) (C : Addr) (cl : List (Str × Addr)) (fp : List Addr), DE (X.blk s H scope (compEnvC scope cl C X.env) fp) EF elt w) (hs : ∀ x, foldedSetIterable iter X.env x = pure x) :
    DE X E (.ListComp elt [⟨tg, iter, ifs, 0⟩] scope pos) (wLc wi vs g t w) := by
  subst hv
  exact (pe_lc hc hN hi ok hg ht he hs).imp fun _ _ _ h => lc_ok h
theorem ds_setLc {i : Nat} {y : Str} {py spos : Pos} {elt tg iter : Expr} {ifs : List Expr} {scope : Scope} {own : List (Str × Nat)} {wi : WI} {g : WG} {t : WT} {w : WE} (hc : X.calm = true) (hN : X.N.Nodup) (hy : X.N[i]? = some y) (hyl : X.env.scope.names.lookup y = some .local)
    (hsw : swapsWith (.ListComp elt [⟨tg, iter, ifs, 0⟩] scope pos) (some (.Name y py)) spos.line X.env = pure true) (hi : DI X E tg iter wi) (ok : BlkOk X.N X.env.scope scope own) (hv : own.map (·.2) = vs)
    (hg : ∀ (s : Shared) (H : Hp) (C : Addr) (cl : List (Str × Addr)) (fp : List Addr), DG (X.blk s H scope (compEnvC scope cl C X.env) fp) vs tg g) (ht : ∀ (s : Shared) (H : Hp) (C : Addr) (cl : List (Str × Addr)) (fp : List Addr), DTs (X.blk s H scope (compEnvC scope cl C X.env) fp) ifs t)
    (he : ∀ (s : Shared) (H : Hp) (C : Addr) (cl : List (Str × Addr)) (fp : List Addr), DE (X.blk s H scope (compEnvC scope cl C X.env) fp) EF elt w) (hs : ∀ x, foldedSetIterable iter X.env x = pure x) :
    DS X E (.Assign [.Name y py] (.ListComp elt [⟨tg, iter, ifs, 0⟩] scope pos) spos) (wSet i (wLc wi vs g t w)) := by
  subst hv
  refine (ps_setLc (wi := tDI X.K X.mg E wi) (g := tDG X.K (own.map (·.2)) g) (tt := tDT X.K X.mg EF t) (te := tD X.K X.mg EF w) hc hN hy hyl hsw hi ok hg ht he hs).imp fun D σ H ⟨b, F, σd, W, Dd, I, x, h, q⟩ => ?_
  exact lc_ok (K := X.K) (mg := X.mg) (E := E) ⟨b, F, σd, W, _, I, x, h, fun v H' F' r σd' I' g rr hr => q.nx _ F' H' _ (I'.asg rr hr.1) g hr.2⟩

/-! ### several targets -/
def wSets2 (i j : Nat) (w u : WE) : WS := fun X D' σd => wRs [w, u] X σd fun rs σ1 => match rs with
  | [r1, r2] => noIo σ1 i ∧ noIo σ1 j ∧ D'.nx ((σ1.set i (slOf r1)).set j (slOf r2))
  | _ => False
def wSets3 (i j l : Nat) (w u z : WE) : WS := fun X D' σd => wRs [w, u, z] X σd fun rs σ1 => match rs with
  | [r1, r2, r3] => noIo σ1 i ∧ noIo σ1 j ∧ noIo σ1 l ∧ D'.nx (((σ1.set i (slOf r1)).set j (slOf r2)).set l (slOf r3))
  | _ => False
end
section
variable {K : PySem.W.Frag} {mg : Str → Option Value} {E : XK} {b : Bs} {F F' H H' : Hp} {σ σ' : St} {σd σd' : SD} {X : XW}
theorem noIo_set {i j : Nat} {r : Rv} (h : noIo σd j) (hi : noIo σd i) : noIo (σd.set i (slOf r)) j := by
  unfold noIo at h hi ⊢
  by_cases z : i = j
  · subst z
    have hl : i < σd.length := by
      cases e : σd[i]? with
      | none => rw [e] at h; exact h.elim
      | some s => exact (List.getElem?_eq_some_iff.mp e).1
    rw [List.getElem?_set_self hl]
    cases r <;> exact trivial
  · rw [List.getElem?_set_ne z]
    exact h
theorem noIo_lt {i : Nat} (h : noIo σd i) : i < σd.length := by
  unfold noIo at h
  cases e : σd[i]? with
  | none => rw [e] at h; exact h.elim
  | some s => exact (List.getElem?_eq_some_iff.mp e).1
/-- the rest of several values, behind a store of the first one -/
theorem RvsR.asg {i : Nat} {v : V} {r : Rv} (hi : i < σ.length) (hd : i < σd.length) : ∀ {vs : List V} {rs : List Rv} {b : Bs}, (∀ y c, r = .f y → v = .ref c → ∃ p ∈ b.T, p.1 = c) → RvsR K F H σ σd b vs rs → RvsR K F H (σ.set i (some v)) (σd.set i (slOf r)) b vs rs
  | [], [], _, _, _ => trivial
  | u :: vs, .d x :: rs, b, n, h => ⟨h.1, RvsR.asg hi hd n h.2⟩
  | u :: vs, .f x :: rs, b, n, ⟨a, o, e, f, ho, h⟩ => ⟨a, o, e, f.asg (fun y c e1 e2 z => by
      obtain ⟨p, hp, e3⟩ := n y c e1 e2
      exact f.nt p hp (e3.trans z)) hi hd, ho, RvsR.asg hi hd (fun y c e1 e2 => let ⟨p, hp, e3⟩ := n y c e1 e2; ⟨p, List.mem_cons_of_mem _ hp, e3⟩) h⟩
theorem RvsR.dropT {t : Addr × HO} : ∀ {vs : List V} {rs : List Rv} {b : Bs} {T : List (Addr × HO)}, RvsR K F H σ σd { b with T := T ++ t :: b.T } vs rs → RvsR K F H σ σd { b with T := T ++ b.T } vs rs
  | [], [], _, _, _ => trivial
  | u :: vs, .d x :: rs, b, T, h => ⟨h.1, RvsR.dropT h.2⟩
  | u :: vs, .f x :: rs, b, T, ⟨a, o, e, f, ho, h⟩ => ⟨a, o, e, ⟨f.fz, f.h0, f.at_, f.no, fun p hp => f.nt p (by
      rcases List.mem_append.mp hp with hp | hp
      · exact List.mem_append_left _ hp
      · exact List.mem_append_right _ (List.mem_cons_of_mem _ hp))⟩, ho, RvsR.dropT (b := b) (T := (a, o) :: T) h⟩
theorem RvsR.step {v : V} {vs : List V} {r : Rv} {rs : List Rv} {i : Nat} (I : Iv K b F H σ σd) (h : RvsR K F H σ σd b (v :: vs) (r :: rs)) (n : noIo σd i) : Iv K b F H (σ.set i (some v)) (σd.set i (slOf r)) ∧ RvsR K F H (σ.set i (some v)) (σd.set i (slOf r)) b vs rs := by
  have hd := noIo_lt n
  have hi : i < σ.length := by rw [← I.len]; exact hd
  cases r with
  | d x => exact ⟨I.asg (r := .d x) h.1 n, RvsR.asg hi hd (fun y c e _ => by cases e) h.2⟩
  | f x =>
    obtain ⟨a, o, rfl, f, ho, h⟩ := h
    refine ⟨I.asg (r := .f x) ⟨a, rfl, f⟩ n, RvsR.dropT (T := []) (t := (a, o)) (RvsR.asg hi hd (fun y c e1 e2 => ?_) h)⟩
    cases e2
    exact ⟨(a, o), List.mem_cons_self, rfl⟩
theorem RvsR.two {vs : List V} {r1 r2 : Rv} (h : RvsR K F H σ σd b vs [r1, r2]) : ∃ v w, vs = [v, w] := by
  cases vs with
  | nil => cases r1 <;> exact h.elim
  | cons v t =>
    have h2 : ∃ b', RvsR K F H σ σd b' t [r2] := by
      cases r1 with
      | d x => exact ⟨_, h.2⟩
      | f x => obtain ⟨_, _, _, _, _, h⟩ := h; exact ⟨_, h⟩
    obtain ⟨b', h2⟩ := h2
    cases t with
    | nil => cases r2 <;> exact h2.elim
    | cons w t =>
      have h3 : ∃ b', RvsR K F H σ σd b' t [] := by
        cases r2 with
        | d x => exact ⟨_, h2.2⟩
        | f x => obtain ⟨_, _, _, _, _, h⟩ := h2; exact ⟨_, h⟩
      obtain ⟨b'', h3⟩ := h3
      cases t with
      | nil => exact ⟨v, w, rfl⟩
      | cons _ _ => exact h3.elim
theorem RvsR.three {vs : List V} {r1 r2 r3 : Rv} (h : RvsR K F H σ σd b vs [r1, r2, r3]) : ∃ v w z, vs = [v, w, z] := by
  cases vs with
  | nil => cases r1 <;> exact h.elim
  | cons v t =>
    have h2 : ∃ b', RvsR K F H σ σd b' t [r2, r3] := by
      cases r1 with
      | d x => exact ⟨_, h.2⟩
      | f x => obtain ⟨_, _, _, _, _, h⟩ := h; exact ⟨_, h⟩
    obtain ⟨b', h2⟩ := h2
    obtain ⟨w, z, rfl⟩ := h2.two
    exact ⟨v, w, z, rfl⟩
end
section
variable {X : Cx} {E : XK} {e a c d : Expr} {pos : Pos} {vs : List Nat}
theorem ds_par {i j : Nat} {x y : Str} {w u : WE} {px py pt : Pos} {kt k2 pt2} (hc : X.calm = true) (hN : X.N.Nodup) (hi : X.N[i]? = some x) (hj : X.N[j]? = some y) (hij : i ≠ j)
    (hx : X.env.scope.names.lookup x = some .local) (hy : X.env.scope.names.lookup y = some .local) (ha : DE X E a w) (hb : DE X E c u) (hs1 : starEach [a, c] X.env = (false, eval a X.env) :: starEach [c] X.env) (hs2 : starEach [c] X.env = (false, eval c X.env) :: starEach [] X.env)
    (hw : swappedStores [.Tuple [.Name x px, .Name y py] kt pt] (.Tuple [a, c] k2 pt2) X.env = pure (some [x, y]))
    (hs : swapsWithSole [.Tuple [.Name x px, .Name y py] kt pt] (.Tuple [a, c] k2 pt2) pos.line X.env = pure false) :
    DS X E (.Assign [.Tuple [.Name x px, .Name y py] kt pt] (.Tuple [a, c] k2 pt2) pos) (wSets2 i j w u) :=
  (ps_par hc hN hi hj hij hx hy (ta := tRs X.K X.mg E [w, u]) (pa_cons ha (pa_cons hb pa_nil hs2) hs1) hw hs).imp fun D' σ H ⟨b, F, σd, W, Dd, I, xo, h, q⟩ => by
    refine tRs_run I xo h fun vs H1 F1 rs σ1 I1 g1 rr h1 => ?_
    split at h1
    · obtain ⟨n1, n2, h1⟩ := h1
      obtain ⟨v, w', rfl⟩ := rr.two
      obtain ⟨I2, r2⟩ := RvsR.step I1 rr n1
      obtain ⟨I3, _⟩ := RvsR.step I2 r2 (noIo_set n2 n1)
      exact ⟨v, w', rfl, q.nx _ F1 H1 _ I3 g1 h1⟩
    · exact h1.elim
theorem ds_par3 {i j l : Nat} {x y z : Str} {w u t : WE} {px py pz pt : Pos} {kt k2 pt2} (hc : X.calm = true) (hN : X.N.Nodup) (hi : X.N[i]? = some x) (hj : X.N[j]? = some y) (hl : X.N[l]? = some z) (hij : i ≠ j) (hil : i ≠ l) (hjl : j ≠ l)
    (hx : X.env.scope.names.lookup x = some .local) (hy : X.env.scope.names.lookup y = some .local) (hz : X.env.scope.names.lookup z = some .local) (ha : DE X E a w) (hb : DE X E c u) (hd : DE X E d t)
    (hs1 : starEach [a, c, d] X.env = (false, eval a X.env) :: starEach [c, d] X.env) (hs2 : starEach [c, d] X.env = (false, eval c X.env) :: starEach [d] X.env) (hs3 : starEach [d] X.env = (false, eval d X.env) :: starEach [] X.env)
    (hw : swappedStores [.Tuple [.Name x px, .Name y py, .Name z pz] kt pt] (.Tuple [a, c, d] k2 pt2) X.env = pure (some [x, y, z]))
    (hs : swapsWithSole [.Tuple [.Name x px, .Name y py, .Name z pz] kt pt] (.Tuple [a, c, d] k2 pt2) pos.line X.env = pure false) :
    DS X E (.Assign [.Tuple [.Name x px, .Name y py, .Name z pz] kt pt] (.Tuple [a, c, d] k2 pt2) pos) (wSets3 i j l w u t) :=
  (ps_par3 hc hN hi hj hl hij hil hjl hx hy hz (ta := tRs X.K X.mg E [w, u, t]) (pa_cons ha (pa_cons hb (pa_cons hd pa_nil hs3) hs2) hs1) hw hs).imp fun D' σ H ⟨b, F, σd, W, Dd, I, xo, h, q⟩ => by
    refine tRs_run I xo h fun vs H1 F1 rs σ1 I1 g1 rr h1 => ?_
    split at h1
    · obtain ⟨n1, n2, n3, h1⟩ := h1
      obtain ⟨v, w', z', rfl⟩ := rr.three
      obtain ⟨I2, r2⟩ := RvsR.step I1 rr n1
      obtain ⟨I3, r3⟩ := RvsR.step I2 r2 (noIo_set n2 n1)
      obtain ⟨I4, _⟩ := RvsR.step I3 r3 (noIo_set (noIo_set n3 n1) (noIo_set n2 n1))
      exact ⟨v, w', z', rfl, q.nx _ F1 H1 _ I4 g1 h1⟩
    · exact h1.elim
/-- a target of several names gets data -/
def wAsg (w : WE) (g : WG) : WS := fun X D' σd => w X σd (dz fun d σ1 => g d σ1 D'.nx)
theorem ds_asg {tg : Expr} {w : WE} {g : WG} (he : DE X E e w) (hg : DG X vs tg g) (hs : swapsWithSole [tg] e pos.line X.env = pure false) (hw : swappedStores [tg] e X.env = pure none) (h1 : (assignEach [tg] X.env).map (·.2) = [assign tg X.env]) :
    DS X E (.Assign [tg] e pos) (wAsg w g) :=
  (ps_asg he hg hs hw h1).imp fun D' σ H ⟨b, F, σd, W, Dd, I, x, h, q⟩ => by
    refine tD_dz I x h fun v H1 F1 d σ1 I1 g1 r1 h1 => ⟨b, F1, σ1, d, _, I1, r1, h1, fun σ' σd' I2 _ h2 => q.nx σ' F1 H1 σd' I2 g1 h2⟩
end

/-! ### own lists changed in place -/
def mutL (σd : SD) (i : Nat) : Option (List D) := match σd[i]? with
  | some (.own (.list l)) => some l
  | some (.io (.list l)) => some l
  | _ => none
section
variable {K : PySem.W.Frag} {mg : Str → Option Value} {E : XK} {b : Bs} {F F' H H' : Hp} {σ σ' : St} {σd σd' : SD} {X : XW}
theorem Iv.mutL (I : Iv K b F H σ σd) {i : Nat} {l : List D} (e : mutL σd i = some l) : ∃ a xs, OA σ σd i a ∧ σ[i]? = some (some (.ref a)) ∧ H a = some (.lst xs) ∧ DpAll K F xs l ∧ F a = none := by
  unfold DL.mutL at e
  split at e
  · rename_i l' q
    cases e
    obtain ⟨o, h1, a, rfl, f, _, xs, h2, h3⟩ := I.get q
    exact ⟨a, xs, ⟨h1, _, .inl q⟩, h1, h2, h3, f⟩
  · rename_i l' q
    cases e
    obtain ⟨o, h1, a, rfl, f, _, xs, h2, h3⟩ := I.get q
    exact ⟨a, xs, ⟨h1, _, .inr q⟩, h1, h2, h3, f⟩
  · cases e
/-- the object of a slot is changed -/
theorem Iv.mut (I : Iv K b F H σ σd) {i : Nat} {a : Addr} {o : HO} {c : D} (oa : OA σ σd i a) (hc : OwnAt K F (upd H a o) a c) : Iv K b F (upd H a o) σ (putS σd i c) := by
  obtain ⟨h1, d, h2⟩ := oa
  have far : ∀ j k, OA σ σd j k → j ≠ i → k ≠ a := fun j k z n e => n (I.apart j i a (e ▸ z) ⟨h1, d, h2⟩)
  have fa : F a = none ∧ (b.H0 a = none ∨ a ∈ b.io) := by
    rcases h2 with h2 | h2
    · obtain ⟨a', e, f, h0, _⟩ := I.sl i _ _ h1 h2
      cases e
      exact ⟨f, .inl h0⟩
    · obtain ⟨a', e, f, h0, _⟩ := I.sl i _ _ h1 h2
      cases e
      exact ⟨f, .inr h0⟩
  have ext : Ext b F (upd H a o) := by
    refine ⟨fun x u e => ?_, I.old, fun x u e hx => ?_, fun x hx => ?_⟩
    · rw [upd_ne (ne_of_none e fa.1)]
      exact I.sub _ _ e
    · have : x ≠ a := fun z => by
        subst z
        rcases fa.2 with f | f
        · rw [f] at e; cases e
        · exact hx f
      rw [upd_ne this]
      exact I.keep x u e hx
    · by_cases z : x = a
      · rw [z, upd_same]; exact fun z => by cases z
      · rw [upd_ne z]; exact I.trk x hx
  have hi : i < σd.length := by
    rcases h2 with h2 | h2
    · exact (List.getElem?_eq_some_iff.mp h2).1
    · exact (List.getElem?_eq_some_iff.mp h2).1
  have hset : ∃ s, putS σd i c = σd.set i s ∧ ((s = .own c ∧ σd[i]? = some (.own d)) ∨ (s = .io c ∧ σd[i]? = some (.io d))) := by
    unfold putS
    rcases h2 with h2 | h2
    · rw [h2]; exact ⟨_, rfl, .inl ⟨rfl, rfl⟩⟩
    · rw [h2]; exact ⟨_, rfl, .inr ⟨rfl, rfl⟩⟩
  obtain ⟨s, es, hs⟩ := hset
  rw [es]
  have oaE : ∀ {j k}, OA σ (σd.set i s) j k → OA σ σd j k := fun {j k} ⟨z1, d', z2⟩ => by
    by_cases q : i = j
    · subst q
      exact ⟨z1, d, h2⟩
    · rw [List.getElem?_set_ne q] at z2
      exact ⟨z1, d', z2⟩
  refine ⟨ext, by rw [List.length_set]; exact I.len, fun j v t e1 e2 => ?_, fun j k e z1 z2 => I.apart j k e (oaE z1) (oaE z2), fun p hp => ?_, fun p hp => ?_⟩
  · by_cases q : i = j
    · subst q
      rw [List.getElem?_set_self hi] at e2
      cases e2
      rw [h1] at e1
      cases e1
      rcases hs with ⟨rfl, h3⟩ | ⟨rfl, h3⟩
      · obtain ⟨a', e', f, h0, _⟩ := I.sl i _ _ h1 h3
        cases e'
        exact ⟨a, rfl, f, h0, hc⟩
      · obtain ⟨a', e', f, h0, _⟩ := I.sl i _ _ h1 h3
        cases e'
        exact ⟨a, rfl, f, h0, hc⟩
    · rw [List.getElem?_set_ne q] at e2
      have r := I.sl j v t e1 e2
      cases t with
      | un => trivial
      | val d => exact r
      | own d2 =>
        obtain ⟨k, e, f, h0, r⟩ := r
        subst e
        exact ⟨k, rfl, f, h0, r.mono (Grow.refl F) (upd_ne (far j k ⟨e1, d2, .inl e2⟩ (Ne.symm q)))⟩
      | io d2 =>
        obtain ⟨k, e, f, h0, r⟩ := r
        subst e
        exact ⟨k, rfl, f, h0, r.mono (Grow.refl F) (upd_ne (far j k ⟨e1, d2, .inr e2⟩ (Ne.symm q)))⟩
  · obtain ⟨p1, d', p2⟩ := I.par p hp
    by_cases q : i = p.1
    · rw [← q] at p1 p2 ⊢
      rcases hs with ⟨_, h3⟩ | ⟨rfl, h3⟩
      · rw [h3] at p2; cases p2
      · exact ⟨p1, c, List.getElem?_set_self hi⟩
    · rw [List.getElem?_set_ne q]
      exact ⟨p1, d', p2⟩
  · obtain ⟨t1, t2, t3, t4⟩ := I.tmp p hp
    exact ⟨by rw [upd_ne (Ne.symm (t4 i a ⟨h1, d, h2⟩))]; exact t1, t2, t3, fun j k z => t4 j k (oaE z)⟩
end

/-- xs.append(e) -/
def wApp (i : Nat) (w : WE) : WE := fun X σd Q => (∃ l, mutL σd i = some l) ∧ w X σd (dz fun d σ1 => ∃ l, mutL σ1 i = some l ∧ l.length < sizeLine ∧ Q (.d .none) (putS σ1 i (.list (l ++ [d]))))
/-- xs.pop() -/
def wPop (i : Nat) : WE := fun _ σd Q => ∃ l d, mutL σd i = some l ∧ l[l.length - 1]? = some d ∧ Q (.d d) (putS σd i (.list l.dropLast))
/-- xs.pop(k) -/
def wPopAt (i : Nat) (o : Opd) : WE := fun X σd Q => (∃ l, mutL σd i = some l) ∧ wO o X σd fun a σ1 => ∃ l j k d, rs σ1 a = some (.int j) ∧ mutL σ1 i = some l ∧ -(2 ^ 63) ≤ j ∧ j < 2 ^ 63 ∧ seqIndex? j l.length = some k ∧ l[k]? = some d ∧ Q (.d d) (putS σ1 i (.list (l.eraseIdx k)))
/-- xs[j] = e -/
def wSub (i : Nat) (o : Opd) (w : WE) : WS := fun X D' σd => w X σd (dz fun d σ1 => (∃ l, mutL σ1 i = some l) ∧ wO o X σ1 fun a σ2 => ∃ l j k, rs σ2 a = some (.int j) ∧ mutL σ2 i = some l ∧ ixN l.length j = some k ∧ D'.nx (putS σ2 i (.list (l.set k d))))
/-- xs.index(e) -/
def wIdx (i : Nat) (o : Opd) : WE := fun X σd Q => (∃ l, rs σd (.b i) = some (.list l)) ∧ wO o X σd fun a σ1 => ∃ (l : List Int) (y : Int) (j : Nat), rs σ1 (.b i) = some (.list (l.map .int)) ∧ rs σ1 a = some (.int y) ∧ l[j]? = some y ∧ (∀ m, m < j → l[m]? ≠ some y) ∧ Q (.d (.int (j : Nat))) σ1
def pIndex : P2
  | .list l, d, Q => ∃ j, flatD d = true ∧ l.all flatD = true ∧ l.findIdx? (fun y => eqF y d) = some j ∧ Q (.d (.int (j : Nat)))
  | _, _, _ => False

section
variable {X : Cx} {E : XK} {e a c : Expr} {pos : Pos}
theorem mutL_get {K : PySem.W.Frag} {b : Bs} {F H : Hp} {σ : St} {σd : SD} (I : Iv K b F H σ σd) {i : Nat} {l : List D} (h : mutL σd i = some l) : ∃ v, σ[i]? = some (some v) := by
  obtain ⟨a, _, _, h, _⟩ := I.mutL h
  exact ⟨_, h⟩
theorem de_append {i : Nat} {x : Str} {w : WE} {p apos cpos : Pos} (hN : X.N[i]? = some x) (hv : Vis X.env.scope x) (hd : (x == ("__debug__" : Str)) = false) (hcd : (x == ("__classdict__" : Str)) = false) (he : DE X E e w)
    (hbase : attributeBase (.Name x p) "append" X.env (eval (.Name x p) X.env) = eval (.Name x p) X.env)
    (hfew : ((backTo cpos (starEach (e :: []) X.env)).all (fun x => !x.1) && (backToKw cpos (keywordEach [] X.env)).all (fun x => x.1.isSome)
      && decide ((e :: []).length + ([] : List Keyword).length + (if ([] : List Keyword).isEmpty then 0 else 1) < 30)) = true)
    (hline : (apos.endLine == cpos.line) = true) (hs : starEach (e :: []) X.env = (false, eval e X.env) :: starEach [] X.env) (hpl : (backTo cpos (starEach [] X.env)).any (·.1) = false) :
    DE X E (.Call (.Attribute (.Name x p) "append" apos) [e] [] cpos) (wApp i w) :=
  (pe_bm (o := .Name x p) PySem.F.plainAttrs_list PySem.F.slot_list_append PySem.F.type_list_append mt_append (pe_var hN hv hd hcd) (pa_cons he pa_nil hs) hbase hfew hline hs hpl).imp fun σ H Q ⟨b, F, σd, W, Qd, I, xo, ⟨⟨l0, e0⟩, h⟩, q⟩ => by
    obtain ⟨a0, xs0, oa0, h0, h0', _⟩ := I.mutL e0
    refine ⟨.ref a0, h0, .inl ⟨rfl, xs0, SqL.of h0'⟩, tD_dz I xo h fun v H1 F1 d σ1 I1 g1 r1 ⟨l, e1, hz, h1⟩ => ?_⟩
    obtain ⟨a1, xs, oa1, hσ, hH, dp, _⟩ := I1.mutL e1
    rw [h0] at hσ
    cases hσ
    refine ⟨a0, xs, v, rfl, rfl, hH, by rw [dpa_len dp]; exact hz, ?_⟩
    exact q _ _ F1 (.d .none) _ (I1.mut oa1 (c := .list (l ++ [d])) ⟨xs ++ [v], upd_same, dpa_app dp (.cons r1 .nil)⟩) g1 Dp.non h1
theorem de_pop {i : Nat} {x : Str} {p apos cpos : Pos} (hN : X.N[i]? = some x) (hv : Vis X.env.scope x) (hd : (x == ("__debug__" : Str)) = false) (hcd : (x == ("__classdict__" : Str)) = false)
    (hbase : attributeBase (.Name x p) "pop" X.env (eval (.Name x p) X.env) = eval (.Name x p) X.env) (hline : (apos.endLine == cpos.line) = true) :
    DE X E (.Call (.Attribute (.Name x p) "pop" apos) [] [] cpos) (wPop i) :=
  (pe_bm0 (o := .Name x p) PySem.F.plainAttrs_list PySem.F.slot_list_pop PySem.F.type_list_pop mt_pop (pe_var hN hv hd hcd) hbase hline).imp fun σ H Q ⟨b, F, σd, W, Qd, I, xo, ⟨l, d, e0, hl, h⟩, q⟩ => by
    obtain ⟨a0, xs0, oa0, h0, h0', dp, _⟩ := I.mutL e0
    obtain ⟨v, hv, r⟩ := dpa_get dp hl
    refine ⟨.ref a0, h0, .inl ⟨rfl, xs0, SqL.of h0'⟩, a0, xs0, v, rfl, rfl, h0', by rw [dpa_len dp]; exact hv, ?_⟩
    exact q _ _ F (.d d) _ (I.mut oa0 (c := .list l.dropLast) ⟨xs0.dropLast, upd_same, dpa_dropLast dp⟩) (Grow.refl F) r h
theorem de_popAt {i : Nat} {x : Str} {o : Opd} {p apos cpos : Pos} (hN : X.N[i]? = some x) (hv : Vis X.env.scope x) (hd : (x == ("__debug__" : Str)) = false) (hcd : (x == ("__classdict__" : Str)) = false) (he : DO X E e o)
    (hbase : attributeBase (.Name x p) "pop" X.env (eval (.Name x p) X.env) = eval (.Name x p) X.env)
    (hfew : ((backTo cpos (starEach (e :: []) X.env)).all (fun x => !x.1) && (backToKw cpos (keywordEach [] X.env)).all (fun x => x.1.isSome)
      && decide ((e :: []).length + ([] : List Keyword).length + (if ([] : List Keyword).isEmpty then 0 else 1) < 30)) = true)
    (hline : (apos.endLine == cpos.line) = true) (hs : starEach (e :: []) X.env = (false, eval e X.env) :: starEach [] X.env) (hpl : (backTo cpos (starEach [] X.env)).any (·.1) = false) :
    DE X E (.Call (.Attribute (.Name x p) "pop" apos) [e] [] cpos) (wPopAt i o) :=
  (pe_bm (o := .Name x p) PySem.F.plainAttrs_list PySem.F.slot_list_pop PySem.F.type_list_pop mt_popAt (pe_var hN hv hd hcd) (pa_cons he pa_nil hs) hbase hfew hline hs hpl).imp fun σ H Q ⟨b, F, σd, W, Qd, I, xo, ⟨⟨l0, e0⟩, h⟩, q⟩ => by
    obtain ⟨a0, xs0, oa0, h0, h0', _⟩ := I.mutL e0
    refine ⟨.ref a0, h0, .inl ⟨rfl, xs0, SqL.of h0'⟩, tO_run I xo h fun v H1 F1 av σ1 I1 g1 r1 ⟨l, j, k, d, e1, e2, b1, b2, hk, hl, h1⟩ => ?_⟩
    obtain ⟨a1, xs, oa1, hσ, hH, dp, _⟩ := I1.mutL e2
    rw [h0] at hσ
    cases hσ
    obtain ⟨y, hy, r⟩ := dpa_get dp hl
    rw [(I1.bv r1 e1).int]
    refine ⟨a0, xs, j, k, y, rfl, rfl, hH, b1, b2, by rw [dpa_len dp]; exact hk, hy, ?_⟩
    exact q _ _ F1 (.d d) _ (I1.mut oa1 (c := .list (l.eraseIdx k)) ⟨xs.eraseIdx k, upd_same, dpa_erase k dp⟩) g1 r h1
theorem de_index {i : Nat} {x : Str} {o : Opd} {p apos cpos : Pos} (hN : X.N[i]? = some x) (hv : Vis X.env.scope x) (hd : (x == ("__debug__" : Str)) = false) (hcd : (x == ("__classdict__" : Str)) = false) (he : DO X E e o)
    (hbase : attributeBase (.Name x p) "index" X.env (eval (.Name x p) X.env) = eval (.Name x p) X.env)
    (hfew : ((backTo cpos (starEach (e :: []) X.env)).all (fun x => !x.1) && (backToKw cpos (keywordEach [] X.env)).all (fun x => x.1.isSome)
      && decide ((e :: []).length + ([] : List Keyword).length + (if ([] : List Keyword).isEmpty then 0 else 1) < 30)) = true)
    (hline : (apos.endLine == cpos.line) = true) (hs : starEach (e :: []) X.env = (false, eval e X.env) :: starEach [] X.env) (hpl : (backTo cpos (starEach [] X.env)).any (·.1) = false) :
    DE X E (.Call (.Attribute (.Name x p) "index" apos) [e] [] cpos) (wIdx i o) :=
  (pe_bm (o := .Name x p) PySem.F.plainAttrs_list PySem.F.slot_list_index PySem.F.type_list_index mt_index (pe_var hN hv hd hcd) (pa_cons he pa_nil hs) hbase hfew hline hs hpl).imp fun σ H Q ⟨b, F, σd, W, Qd, I, xo, ⟨⟨l0, e0⟩, h⟩, q⟩ => by
    obtain ⟨v0, h0⟩ := I.slot e0
    obtain ⟨a0, xs0, ev, s1, _⟩ := (I.bv (x := .b i) h0 e0).lst I.toExt
    subst ev
    refine ⟨.ref a0, h0, .inl ⟨rfl, xs0, s1⟩, tO_run I xo h fun v H1 F1 av σ1 I1 g1 r1 ⟨l, y, j, e1, e2, hj, hno, h1⟩ => ?_⟩
    obtain ⟨a1, xs, ev, s2, dp⟩ := (I1.bv (x := .b i) h0 e1).lst I1.toExt
    cases ev
    rw [dpa_ints dp] at s2
    rw [(I1.bv r1 e2).int]
    refine ⟨a0, l.map V.int, .int y, j, .int y, rfl, rfl, s2, rfl, by simp [flatV], by rw [List.getElem?_map, hj]; rfl, by simp [eqV], fun m z hm hz => ?_, q _ _ F1 (.d _) _ I1 g1 (Dp.int _) h1⟩
    rw [List.getElem?_map] at hz
    cases e3 : l[m]? with
    | none => rw [e3] at hz; cases hz
    | some u =>
      rw [e3] at hz
      cases hz
      have : u ≠ y := fun z => hno m hm (by rw [e3, z])
      simp [eqV, this]
theorem ds_sub {i : Nat} {x : Str} {o : Opd} {w : WE} {ix : Expr} {p tpos : Pos} (hN : X.N[i]? = some x) (hv : Vis X.env.scope x) (hd : (x == ("__debug__" : Str)) = false) (hcd : (x == ("__classdict__" : Str)) = false) (he : DE X E e w) (hi : DO X E ix o)
    (ha : ∀ v, assign (.Subscript (.Name x p) ix tpos) X.env v = (do
      let ov ← holding [v] (eval (.Name x p) X.env)
      let iv ← holding [v, ov] (eval ix X.env)
      standAt tpos
      holding [v, ov, iv] (setItem ov iv v)
      release [v, ov, iv] []))
    (hs : swapsWithSole [.Subscript (.Name x p) ix tpos] e pos.line X.env = pure false) (hw : swappedStores [.Subscript (.Name x p) ix tpos] e X.env = pure none) (h1 : (assignEach [.Subscript (.Name x p) ix tpos] X.env).map (·.2) = [assign (.Subscript (.Name x p) ix tpos) X.env]) :
    DS X E (.Assign [.Subscript (.Name x p) ix tpos] e pos) (wSub i o w) :=
  (ps_asg he (pg_sub (pe_var hN hv hd hcd) hi set_list ha) hs hw h1).imp fun D' σ H ⟨b, F, σd, W, Dd, I, xo, h, q⟩ => by
    refine tD_dz I xo h fun v H1 F1 d σ1 I1 g1 r1 ⟨⟨l0, e0⟩, h1⟩ => ?_
    obtain ⟨a0, xs0, oa0, h0, h0', _⟩ := I1.mutL e0
    refine ⟨.ref a0, h0, tO_run I1 xo h1 fun u H2 F2 av σ2 I2 g2 r2 ⟨l, j, k, e1, e2, hk, h2⟩ => ?_⟩
    obtain ⟨a1, xs, oa1, hσ, hH, dp, _⟩ := I2.mutL e2
    rw [h0] at hσ
    cases hσ
    rw [(I2.bv r2 e1).int]
    refine ⟨a0, xs, j, k, rfl, rfl, hH, by rw [dpa_len dp]; exact hk, ?_⟩
    exact q.nx _ F2 _ _ (I2.mut oa1 (c := .list (l.set k d)) ⟨xs.set k v, upd_same, dpa_set k dp (dp_mono g2 r1)⟩) (g1.trans g2) h2
/-- x += e -/
def wAug (i : Nat) (o : Opd) : WS := fun X D' σd => (∃ d, rs σd (.b i) = some d ∧ match d with
    | .int j => wO o X σd fun a σ1 => ∃ k, rs σ1 a = some (.int k) ∧ noIo σ1 i ∧ D'.nx (σ1.set i (.val (.int (j + k))))
    | .list _ => wO o X σd fun a σ1 => ∃ l m, mutL σ1 i = some l ∧ rs σ1 a = some (.list m) ∧ l.length + m.length ≤ sizeLine ∧ D'.nx (putS σ1 i (.list (l ++ m)))
    | _ => False)
def wAugSub (i : Nat) (o : Opd) : WS := fun X D' σd => (∃ j, rs σd (.b i) = some (.int j) ∧ wO o X σd fun a σ1 => ∃ k, rs σ1 a = some (.int k) ∧ noIo σ1 i ∧ D'.nx (σ1.set i (.val (.int (j - k)))))
/-- xs += ys, ys any list that is read -/
def rExtA (K : PySem.W.Frag) : R2 := fun x y H Q => ∃ l b xs zs, x = .ref l ∧ y = .ref b ∧ H l = some (.lst xs) ∧ SqL K H b zs ∧ xs.length + zs.length ≤ sizeLine ∧ Q (.ref l) (upd H l (.lst (xs ++ zs)))
end
end DL
end L2
set_option Elab.async false
set_option maxRecDepth 100000
set_option maxHeartbeats 1000000
/-! The data layer, part 8: dicts, +=, sorted, ranges as lists, isinstance, constants of the module, raise. -/
namespace L2
open PySem PySem.Spec PyProof.Rows
namespace DL

/-! ### keys -/
mutual
def beqK : D → D → Bool
  | .int a, .int b => a == b
  | .str a, .str b => a == b
  | .tuple a, .tuple b => beqKs a b
  | _, _ => false
def beqKs : List D → List D → Bool
  | [], [] => true
  | a :: r, b :: t => beqK a b && beqKs r t
  | _, _ => false
end
theorem beqK_key (a b : Key) : beqK (keyD a) (keyD b) = decide (a = b) := by
  cases a <;> cases b <;> simp [keyD, beqK] <;> rfl
theorem beqKs_key : ∀ a b : List Key, beqKs (a.map keyD) (b.map keyD) = decide (a = b)
  | [], [] => by simp [beqKs]
  | [], _ :: _ => by simp [beqKs]
  | _ :: _, [] => by simp [beqKs]
  | a :: r, b :: t => by
    rw [List.map_cons, List.map_cons, beqKs, beqK_key, beqKs_key r t]
    by_cases h : a = b <;> by_cases h2 : r = t <;> simp [h, h2]
theorem beqK_keyT (a b : List Key) : beqK (keyT a) (keyT b) = decide (a = b) := by
  unfold keyT
  rw [beqK, beqKs_key]
def valD (kvs : List (D × D)) (k : D) : Option D := (kvs.find? fun p => beqK p.1 k).map (·.2)
def putD (kvs : List (D × D)) (k v : D) : List (D × D) := if (kvs.any fun p => beqK p.1 k) = true then kvs.map (fun p => if beqK p.1 k = true then (p.1, v) else p) else kvs ++ [(k, v)]
section
variable {K : PySem.W.Frag} {F : Hp} {κ : Type} [DecidableEq κ] {f : κ → D} (hf : ∀ a b, beqK (f a) (f b) = decide (a = b))
include hf
theorem pair_val {es : List (κ × V)} {kvs : List (D × D)} (h : Paired (fun p q => q.1 = f p.1 ∧ Dp K F p.2 q.2) es kvs) (k : κ) :
    (valV es k = none ∧ valD kvs (f k) = none) ∨ ∃ v d, valV es k = some v ∧ valD kvs (f k) = some d ∧ Dp K F v d := by
  induction h with
  | nil => exact .inl ⟨rfl, rfl⟩
  | @cons p q ps qs r t ih =>
    obtain ⟨q1, q2⟩ := q
    obtain ⟨rfl, r2⟩ := r
    by_cases e : p.1 = k
    · refine .inr ⟨p.2, q2, valV_pos e, ?_, r2⟩
      simp [valD, List.find?_cons, hf, e]
    · rw [valV_neg e]
      have : valD ((f p.1, q2) :: qs) (f k) = valD qs (f k) := by simp [valD, List.find?_cons, hf, e]
      rw [this]
      exact ih
theorem pair_any {es : List (κ × V)} {kvs : List (D × D)} (h : Paired (fun p q => q.1 = f p.1 ∧ Dp K F p.2 q.2) es kvs) (k : κ) : (kvs.any fun q => beqK q.1 (f k)) = es.any fun p => decide (p.1 = k) := by
  induction h with
  | nil => rfl
  | @cons p q ps qs r t ih => rw [List.any_cons, List.any_cons, ih, r.1, hf]
theorem pair_put {es : List (κ × V)} {kvs : List (D × D)} (h : Paired (fun p q => q.1 = f p.1 ∧ Dp K F p.2 q.2) es kvs) (k : κ) {v : V} {d : D} (r : Dp K F v d) :
    Paired (fun p q => q.1 = f p.1 ∧ Dp K F p.2 q.2) (putK es k v) (putD kvs (f k) d) := by
  unfold putK putD
  rw [pair_any hf h k]
  split
  · rename_i hh
    clear hh
    induction h with
    | nil => exact .nil
    | @cons p q ps qs r1 t ih =>
      rw [List.map_cons, List.map_cons]
      refine .cons ?_ ih
      rw [r1.1, hf]
      by_cases e : p.1 = k
      · rw [if_pos e, if_pos (decide_eq_true e)]
        exact ⟨rfl, r⟩
      · rw [if_neg e, if_neg (by simpa using e)]
        exact r1
  · rename_i hh
    clear hh
    induction h with
    | nil => exact .cons ⟨rfl, r⟩ .nil
    | cons r1 t ih => exact .cons r1 ih
end
theorem paired_len {α β : Type} {R : α → β → Prop} : ∀ {l : List α} {m : List β}, Paired R l m → l.length = m.length
  | _, _, .nil => rfl
  | _, _, .cons _ t => by rw [List.length_cons, List.length_cons, paired_len t]
def keyOf : D → Option Key
  | .int i => some (.inl i)
  | .str s => some (.inr s)
  | _ => none
theorem keyOf_eq {d : D} {k : Key} (h : keyOf d = some k) : d = keyD k := by
  cases d <;> simp [keyOf] at h <;> subst h <;> rfl
theorem key_bv {K : PySem.W.Frag} {F H : Hp} {v : V} {k : Key} (r : BV K F H v (keyD k)) : v = kV k := by
  cases k with
  | inl i => exact r.int
  | inr s => exact r.str

/-- {}, of keys that are ints and texts, or of tuples -/
def wDnew : WE := fun _ σd Q => Q (.f (.dict [])) σd ∨ Q (.f (.dict [(.none, .none)])) σd
section
variable {K : PySem.W.Frag} {mg : Str → Option Value} {E : XK} {b : Bs} {F F' H H' : Hp} {σ σ' : St} {σd σd' : SD} {W : XW}
theorem Iv.frO (I : Iv K b F H σ σd) {p : Addr} (hp : H p = none) {o : HO} {x : D} (r : OwnAt K F (upd H p o) p x) : Fr1 K b F (upd H p o) σ σd p x := by
  refine ⟨?_, ?_, r, fun i z => ?_, fun t ht z => ?_⟩
  · cases e : F p with
    | none => rfl
    | some o => rw [I.sub _ _ e] at hp; cases hp
  · cases e : b.H0 p with
    | none => rfl
    | some o => exact absurd hp (I.trk p (by rw [e]; exact fun z => by cases z))
  · obtain ⟨z1, d, z2⟩ := z
    rcases z2 with z2 | z2
    · obtain ⟨a, e, _, _, q⟩ := I.sl i _ _ z1 z2
      cases e
      obtain ⟨o, ho, _⟩ := q.some
      rw [hp] at ho; cases ho
    · obtain ⟨a, e, _, _, q⟩ := I.sl i _ _ z1 z2
      cases e
      obtain ⟨o, ho, _⟩ := q.some
      rw [hp] at ho; cases ho
  · have := (I.tmp t ht).1
    rw [z, hp] at this; cases this
/-- a new object -/
theorem Ends1.own {Qd : Rv → Prop} {Q : VK} (e : Ends1 K b F σ σd Qd Q) (I : Iv K b F H σ σd) {p : Addr} (hp : H p = none) {o : HO} {x : D} (r : OwnAt K F (upd H p o) p x) (q : Qd (.f x)) : Q (.ref p) (upd H p o) :=
  e _ _ F (.f x) (I.laid _ hp) (Grow.refl F) ⟨p, rfl, I.frO hp r⟩ q
theorem _root_.L2.PE.or {X : Cx} {e : Expr} {t t' : TE} (h : PE X e t) (h' : PE X e t') : PE X e (fun σ H Q => t σ H Q ∨ t' σ H Q) := ⟨fun pins s σ H Q I q => by
  rcases q with q | q
  · exact h.run pins s σ H Q I q
  · exact h'.run pins s σ H Q I q⟩
end
section
variable {X : Cx} {E : XK} {e a c : Expr} {pos : Pos}
theorem de_dnew : DE X E (.Dict [] [] pos) wDnew :=
  (PE.or pe_dnewK pe_dnewT).imp fun σ H Q ⟨b, F, σd, W, Qd, I, x, h, q⟩ => by
    rcases h with h | h
    · exact .inl fun p hp => q _ _ F (.f (.dict [])) σd (I.laid _ hp) (Grow.refl F) ⟨p, rfl, I.frO hp (.inl ⟨[], upd_same, .nil⟩)⟩ h
    · exact .inr fun p hp => q _ _ F (.f (.dict [(.none, .none)])) σd (I.laid _ hp) (Grow.refl F) ⟨p, rfl, I.frO hp (.inr ⟨[], [], rfl, upd_same, .nil⟩)⟩ h
end

/-! ### x[k] = v, of a list or a dict -/
def mutK (σd : SD) (i : Nat) : Option (List (D × D)) := match σd[i]? with
  | some (.own (.dict l)) => some l
  | some (.io (.dict l)) => some l
  | _ => none
/-- the keys are ints or texts -/
def isKD : List (D × D) → Prop
  | [] => True
  | p :: _ => p.1 ≠ .none
section
variable {K : PySem.W.Frag} {mg : Str → Option Value} {E : XK} {b : Bs} {F F' H H' : Hp} {σ σ' : St} {σd σd' : SD} {X : XW}
theorem Iv.mutK (I : Iv K b F H σ σd) {i : Nat} {l : List (D × D)} (e : mutK σd i = some l) (hl : isKD l) : ∃ a es, OA σ σd i a ∧ σ[i]? = some (some (.ref a)) ∧ H a = some (.dK es) ∧ Paired (fun (p : Key × V) (q : D × D) => q.1 = keyD p.1 ∧ Dp K F p.2 q.2) es l ∧ F a = none := by
  have fin : ∀ {a : Addr}, OwnAt K F H a (.dict l) → ∃ es, H a = some (.dK es) ∧ Paired (fun (p : Key × V) (q : D × D) => q.1 = keyD p.1 ∧ Dp K F p.2 q.2) es l := fun {a} r => by
    rcases r with ⟨es, h1, h2⟩ | ⟨es, r, rfl, h1, h2⟩
    · exact ⟨es, h1, h2⟩
    · exact absurd rfl hl
  unfold DL.mutK at e
  split at e
  · rename_i l' q
    cases e
    obtain ⟨o, h1, a, rfl, f, _, r⟩ := I.get q
    obtain ⟨es, h2, h3⟩ := fin r
    exact ⟨a, es, ⟨h1, _, .inl q⟩, h1, h2, h3, f⟩
  · rename_i l' q
    cases e
    obtain ⟨o, h1, a, rfl, f, _, r⟩ := I.get q
    obtain ⟨es, h2, h3⟩ := fin r
    exact ⟨a, es, ⟨h1, _, .inr q⟩, h1, h2, h3, f⟩
  · cases e
end
def wSubD (i : Nat) (o : Opd) (w : WE) : WS := fun X D' σd => w X σd (dz fun d σ1 => (∃ l, mutK σ1 i = some l ∧ isKD l) ∧ wO o X σ1 fun a σ2 => ∃ l k, rs σ2 a = some (keyD k) ∧ mutK σ2 i = some l ∧ isKD l ∧ l.length < sizeLine ∧ D'.nx (putS σ2 i (.dict (putD l (keyD k) d))))
section
variable {X : Cx} {E : XK} {e : Expr} {pos : Pos}
theorem ds_subD {i : Nat} {x : Str} {o : Opd} {w : WE} {ix : Expr} {p tpos : Pos} (hu : X.A.units + 1 < cLine) (hN : X.N[i]? = some x) (hv : Vis X.env.scope x) (hd : (x == ("__debug__" : Str)) = false) (hcd : (x == ("__classdict__" : Str)) = false) (he : DE X E e w) (hi : DO X E ix o)
    (ha : ∀ v, assign (.Subscript (.Name x p) ix tpos) X.env v = (do
      let ov ← holding [v] (eval (.Name x p) X.env)
      let iv ← holding [v, ov] (eval ix X.env)
      standAt tpos
      holding [v, ov, iv] (setItem ov iv v)
      release [v, ov, iv] []))
    (hs : swapsWithSole [.Subscript (.Name x p) ix tpos] e pos.line X.env = pure false) (hw : swappedStores [.Subscript (.Name x p) ix tpos] e X.env = pure none) (h1 : (assignEach [.Subscript (.Name x p) ix tpos] X.env).map (·.2) = [assign (.Subscript (.Name x p) ix tpos) X.env]) :
    DS X E (.Assign [.Subscript (.Name x p) ix tpos] e pos) (wSubD i o w) :=
  (ps_asg he (pg_sub (pe_var hN hv hd hcd) hi (set_dict hu) ha) hs hw h1).imp fun D' σ H ⟨b, F, σd, W, Dd, I, xo, h, q⟩ => by
    refine tD_dz I xo h fun v H1 F1 d σ1 I1 g1 r1 ⟨⟨l0, e0, k0⟩, h1⟩ => ?_
    obtain ⟨a0, es0, oa0, h0, h0', _⟩ := I1.mutK e0 k0
    refine ⟨.ref a0, h0, tO_run I1 xo h1 fun u H2 F2 av σ2 I2 g2 r2 ⟨l, k, e1, e2, k2, hl, h2⟩ => ?_⟩
    obtain ⟨a1, es, oa1, hσ, hH, dp, _⟩ := I2.mutK e2 k2
    rw [h0] at hσ
    cases hσ
    rw [key_bv (I2.bv r2 e1)]
    refine ⟨a0, _, rfl, .inl ⟨es, k, hH, rfl, by rw [paired_len dp]; exact hl, rfl⟩, ?_⟩
    exact q.nx _ F2 _ _ (I2.mut oa1 (c := .dict (putD l (keyD k) d)) (.inl ⟨putK es k v, upd_same, pair_put beqK_key dp k (dp_mono g2 r1)⟩)) (g1.trans g2) h2
end
end DL
end L2
set_option Elab.async false
set_option maxRecDepth 100000
set_option maxHeartbeats 1000000
/-! The data layer, part 9: +=, sorted, ranges as lists, isinstance, constants of the module, raise. -/
namespace L2
open PySem PySem.Spec PyProof.Rows
namespace DL

/-! ### x += e -/
theorem list_iaddW (l b : Addr) (items items2 : Array Value) (n n2 : Nat) (sl2 : Array (Option Value)) (hs0 : ¬(!items.isEmpty && Builtin.List.listTooLong (items.size + items2.size)) = true) (hs1 : items.size ≤ sizeLine) (hs2 : items.size + items2.size ≤ sizeLine + 1) :
    Meets (Builtin.«list.__iadd__» ⟨[.ref l, .ref b], []⟩) (fun _ R s => s.heap.get? l = some { cls := .type "list", dict := none, data := .seq items n, slots := #[] } ∧
      s.heap.get? b = some { cls := .type "list", dict := none, data := .seq items2 n2, slots := sl2 } ∧
      R (.ok (.ret (Value.ref l))) { s with heap := s.heap.update l (Obj.mapSeq fun x => x ++ items2), toks := s.toks }) :=
  .of_wp fun prog w A R s h => by
    obtain ⟨hp, g, d, tk, os⟩ := s
    obtain ⟨hl, hb, h⟩ := h
    have f1 := AutoSeq1.idx_int
    have f2 := AutoSeq1.sub_tuple_tuple
    have f3 := AutoSeq1.sub_list_list
    have f4 := AutoSeq1.sub_tuple_list
    have f5 := AutoSeq1.sub_list_tuple
    have hz' : (items ++ items2).size ≤ sizeLine + 1 := by
      rw [Array.size_append]
      exact hs2
    wp_walk using (wpAny_updateSeq hl rfl (hz := hs1) (_hz' := hz')), wpAny_loadPart' hl, wpAny_loadPart' hb
    exact ⟨_, rfl, h⟩
theorem ip_extA {X : Cx} : PIp X .Add (rExtA X.K) := by
  intro pins s σ H x y v u Q I rx ry h
  obtain ⟨l, b, xs, zs, rfl, rfl, hH, hB, hz, q⟩ := h
  cases rx
  cases ry
  obtain ⟨z, its, n, r, hl, e⟩ := I.lstM hH
  obtain ⟨its2, r2, ⟨⟨cls2, dd2, data2, sl2⟩, n2, e2, d1, d2, d3⟩, z2⟩ := I.list hB
  have hl2 := r2.length
  simp only at d1 d2 d3
  subst d1 d2 d3
  have hsz : its.toArray.size + its2.toArray.size ≤ sizeLine := by
    rw [List.size_toArray, List.size_toArray]
    omega
  have hlong : ¬ (!its.toArray.isEmpty && Builtin.List.listTooLong (its.toArray.size + its2.toArray.size)) = true := by
    rw [notLongL hsz, Bool.and_false]
    exact Bool.false_ne_true
  refine iadd_road ⟨_, e, rfl⟩ ⟨_, e2, rfl⟩ (call_meets PySem.F.slot_list_iadd ⟨_, e, rfl⟩ PySem.F.entry_list_iadd (PySem.F.args_list_iadd_2 _ _)
    (list_iaddW l b its.toArray its2.toArray n n2 sl2 hlong (by omega) (by omega)) ⟨e, e2, ?_⟩)
  refine ⟨.ref l, _, I.lset (its' := its ++ its2) (t' := s.toks) hH e (by simp) (r.append r2) ?_, rfl, q⟩
  rw [List.length_append]
  omega
theorem PIp.or {X : Cx} {op : Operator} {r r' : TIp} (h : PIp X op r) (h' : PIp X op r') : PIp X op (fun x y H Q => r x y H Q ∨ r' x y H Q) := by
  intro pins s σ H x y v u Q I rx ry q
  rcases q with q | q
  · exact h pins s σ H x y v u Q I rx ry q
  · exact h' pins s σ H x y v u Q I rx ry q
section
variable {K : PySem.W.Frag} {mg : Str → Option Value} {E : XK} {b : Bs} {F F' H H' : Hp} {σ σ' : St} {σd σd' : SD} {W : XW}
theorem set_self {i : Nat} {v : V} (h : σ[i]? = some (some v)) : σ.set i (some v) = σ := by
  apply List.ext_getElem?
  intro j
  by_cases e : i = j
  · subst e
    rw [List.getElem?_set_self (List.getElem?_eq_some_iff.mp h).1, h]
  · rw [List.getElem?_set_ne e]
end
section
variable {X : Cx} {E : XK} {e a c : Expr} {pos : Pos}
theorem ds_aug {i : Nat} {x : Str} {o : Opd} {pos' : Pos} (hN : X.N.Nodup) (hi : X.N[i]? = some x) (hx : Loc X.env.scope x) (he : DO X E e o) (hf : X.fn x = true ∨ X.env.scope.names.lookup x = some .local) :
    DS X E (.AugAssign (.Name x pos') .Add e pos) (wAug i o) :=
  (ps_aug hN hi hx he (PIp.or ip_add ip_extA) hf).imp fun D' σ H ⟨b, F, σd, W, Dd, I, xo, ⟨d, e0, h⟩, q⟩ => by
    obtain ⟨v, hv⟩ := I.slot e0
    refine ⟨v, hv, ?_⟩
    cases d with
    | int j =>
      have hj : v = .int j := (I.bv (v := v) (x := .b i) hv e0).int
      subst hj
      refine tO_run I xo h fun u H1 F1 av σ1 I1 g1 r1 ⟨k, e1, n1, h1⟩ => ?_
      rw [(I1.bv r1 e1).int]
      exact .inl ⟨j, k, rfl, rfl, q.nx _ F1 H1 _ (I1.asg (r := .d (.int (j + k))) (Dp.int _) n1) g1 h1⟩
    | list l0 =>
      refine tO_run I xo h fun u H1 F1 av σ1 I1 g1 r1 ⟨l, m, e1, e2, hz, h1⟩ => ?_
      obtain ⟨a1, xs, oa1, hσ, hH, dp, _⟩ := I1.mutL e1
      rw [hv] at hσ
      cases hσ
      obtain ⟨c1, ys, rfl, s1, s2⟩ := (I1.bv r1 e2).lst I1.toExt
      refine .inr ⟨a1, c1, xs, ys, rfl, rfl, hH, s1, by rw [dpa_len dp, dpa_len s2]; exact hz, ?_⟩
      show D'.nx (σ.set i (some (.ref a1))) _
      rw [set_self hv]
      exact q.nx _ F1 _ _ (I1.mut oa1 (c := .list (l ++ m)) ⟨xs ++ ys, upd_same, dpa_app dp s2⟩) g1 h1
    | _ => exact h.elim
theorem ds_augSub {i : Nat} {x : Str} {o : Opd} {pos' : Pos} (hN : X.N.Nodup) (hi : X.N[i]? = some x) (hx : Loc X.env.scope x) (he : DO X E e o) (hf : X.fn x = true ∨ X.env.scope.names.lookup x = some .local) :
    DS X E (.AugAssign (.Name x pos') .Sub e pos) (wAugSub i o) :=
  (ps_aug hN hi hx he ip_sub hf).imp fun D' σ H ⟨b, F, σd, W, Dd, I, xo, ⟨j, e0, h⟩, q⟩ => by
    obtain ⟨v, hv⟩ := I.slot e0
    refine ⟨v, hv, ?_⟩
    have hj : v = .int j := (I.bv (v := v) (x := .b i) hv e0).int
    subst hj
    refine tO_run I xo h fun u H1 F1 av σ1 I1 g1 r1 ⟨k, e1, n1, h1⟩ => ?_
    rw [(I1.bv r1 e1).int]
    exact ⟨j, k, rfl, rfl, q.nx _ F1 H1 _ (I1.asg (r := .d (.int (j - k))) (Dp.int _) n1) g1 h1⟩
end

/-! ### sorted -/
def insI (x : Int) : List Int → List Int
  | [] => [x]
  | y :: r => if x ≤ y then x :: y :: r else y :: insI x r
def sortI : List Int → List Int
  | [] => []
  | x :: r => insI x (sortI r)
theorem insI_perm (x : Int) : ∀ l, (insI x l).Perm (x :: l)
  | [] => .refl _
  | y :: r => by
    unfold insI
    split
    · exact .refl _
    · exact ((insI_perm x r).cons y).trans (.swap x y r)
theorem sortI_perm : ∀ l, (sortI l).Perm l
  | [] => .refl _
  | x :: r => (insI_perm x (sortI r)).trans ((sortI_perm r).cons x)
theorem insI_sorted (x : Int) : ∀ l, l.Pairwise (· ≤ ·) → (insI x l).Pairwise (· ≤ ·)
  | [], _ => List.pairwise_singleton _ _
  | y :: r, h => by
    obtain ⟨h1, h2⟩ := List.pairwise_cons.mp h
    unfold insI
    split
    · rename_i hxy
      refine List.pairwise_cons.mpr ⟨fun z hz => ?_, h⟩
      rcases List.mem_cons.mp hz with rfl | hz
      · exact hxy
      · have := h1 z hz
        omega
    · rename_i hxy
      refine List.pairwise_cons.mpr ⟨fun z hz => ?_, insI_sorted x r h2⟩
      rcases List.mem_cons.mp ((insI_perm x r).mem_iff.mp hz) with rfl | hz
      · omega
      · exact h1 z hz
theorem sortI_sorted : ∀ l, (sortI l).Pairwise (· ≤ ·)
  | [] => List.Pairwise.nil
  | x :: r => insI_sorted x _ (sortI_sorted r)
theorem sorted_uniq : ∀ {l m : List Int}, l.Perm m → l.Pairwise (· ≤ ·) → m.Pairwise (· ≤ ·) → l = m
  | [], m, p, _, _ => (List.nil_perm.mp p).symm
  | x :: r, [], p, _, _ => absurd p.length_eq (by simp)
  | x :: r, y :: t, p, h1, h2 => by
    obtain ⟨a1, a2⟩ := List.pairwise_cons.mp h1
    obtain ⟨b1, b2⟩ := List.pairwise_cons.mp h2
    have e : x = y := by
      have m1 : x ∈ y :: t := p.mem_iff.mp List.mem_cons_self
      have m2 : y ∈ x :: r := p.mem_iff.mpr List.mem_cons_self
      rcases List.mem_cons.mp m1 with e | m1
      · exact e
      · rcases List.mem_cons.mp m2 with e | m2
        · exact e.symm
        · have := a1 y m2
          have := b1 x m1
          omega
    subst e
    rw [sorted_uniq (List.Perm.cons_inv p) a2 b2]
theorem sortI_uniq {l m : List Int} (p : m.Perm l) (h : m.Pairwise (· ≤ ·)) : m = sortI l := sorted_uniq (p.trans (sortI_perm l).symm) h (sortI_sorted l)
/-- sorted of ints, or of a dict with fewer than 64 keys that are ints -/
def pSorted : PL
  | [.list l], Q => ∃ ns, intsD l = some ns ∧ Q (.f (.list ((sortI ns).map .int)))
  | [.dict kvs], Q => ∃ ns, intsD (kvs.map (·.1)) = some ns ∧ ns.length < 64 ∧ Q (.f (.list ((sortI ns).map .int)))
  | _, _ => False
abbrev rSrt (K : PySem.W.Frag) : List V → Hp → VK → Prop := fun xs H Q => rSortedI K xs H Q ∨ ∃ (a : Addr) (kvs : List (Key × V)) (ks : List Int), xs = [.ref a] ∧ Rd H a (.dK kvs) ∧ kvs.map (·.1) = ks.map Sum.inl ∧ ks.length < 64 ∧
    ∀ (ys : List Int) (p : Addr), ys.Perm ks → ys.Pairwise (· ≤ ·) → H p = none → Q (.ref p) (upd H p (.lst (ys.map V.int)))
theorem _root_.L2.CallR.or2 {X : Cx} {f : Value} {r r' : List V → Hp → VK → Prop} (h : CallR X f r) (h' : CallR X f r') : CallR X f (fun xs H Q => r xs H Q ∨ r' xs H Q) := h.or h'
theorem cr_srt {X : Cx} (hc : X.calm = true) : CallR X (.builtin "sorted") (rSrt X.K) := cr_sortedI.or (call_sortedDI hc)
theorem pair_ints {K : PySem.W.Frag} {F : Hp} : ∀ {es : List (Key × V)} {kvs : List (D × D)} {ns : List Int}, Paired (fun (p : Key × V) (q : D × D) => q.1 = keyD p.1 ∧ Dp K F p.2 q.2) es kvs → intsD (kvs.map (·.1)) = some ns → es.map (·.1) = ns.map Sum.inl
  | _, _, ns, .nil, h => by cases h; rfl
  | p :: es, q :: kvs, ns, .cons r t, h => by
    rw [List.map_cons, r.1] at h
    obtain ⟨k, v⟩ := p
    cases k with
    | inl i =>
      simp only [keyD, intsD] at h
      cases e : intsD (kvs.map (·.1)) with
      | none => rw [e] at h; cases h
      | some ms =>
        rw [e] at h
        cases h
        rw [List.map_cons, List.map_cons, pair_ints t e]
    | inr s => simp [keyD, intsD] at h
theorem ok_sorted {K : PySem.W.Frag} : PLOk K (rSrt K) pSorted := by
  intro b F H σ σd xs ds Q Qd I rx h q
  unfold pSorted at h
  split at h
  · obtain ⟨ns, e, h⟩ := h
    obtain ⟨x, hxs, rz⟩ := bvs_one rx
    subst hxs
    replace rx := rz
    obtain ⟨a, xs, rfl, s1, s2⟩ := rx.lst I.toExt
    rw [intsD_eq e] at s2
    rw [dpa_ints s2] at s1
    refine .inl ⟨a, ns, rfl, s1, fun ns' p p1 p2 hp => ?_⟩
    rw [sortI_uniq p1 p2]
    exact q.list I hp (ints_dpa _) h
  · rename_i kvs
    obtain ⟨ns, e, hl, h⟩ := h
    obtain ⟨x, hxs, rz⟩ := bvs_one rx
    subst hxs
    rcases rz with r | ⟨a, rfl, r⟩
    · cases r
    · rcases r with ⟨es, h1, h2⟩ | ⟨es, r, rfl, h1, h2⟩
      · refine .inr ⟨a, es, ns, rfl, .inl h1, pair_ints h2 e, hl, fun ys p p1 p2 hp => ?_⟩
        rw [sortI_uniq p1 p2]
        exact q.list I hp (ints_dpa _) h
      · simp [intsD] at e
  · exact h.elim

/-! ### list(range(..)) -/
def wLstRg1 (o : Opd) : WE := fun X σd Q => wO o X σd fun a σ1 => ∃ n, rs σ1 a = some (.int n) ∧ RgOk 0 n ∧ Q (.f (.list (rangeD 0 n.toNat))) σ1
def wLstRg2 (o u : Opd) : WE := fun X σd Q => wO o X σd fun a σ1 => wO u X σ1 fun c σ2 => ∃ m n, rs σ2 a = some (.int m) ∧ rs σ2 c = some (.int n) ∧ RgOk m n ∧ Q (.f (.list (rangeD m (n - m).toNat))) σ2
section
variable {K : PySem.W.Frag} {mg : Str → Option Value} {b : Bs} {F F' H H' : Hp} {σ σ' : St} {σd σd' : SD} {W : XW}
theorem rg_dpa {m n : Int} : DpAll K F (rgV m n) (rangeD m (n - m).toNat) := by
  unfold rgV rangeD
  generalize (n - m).toNat = k
  induction k with
  | zero => exact .nil
  | succ k ih =>
    rw [List.range_succ, List.map_append, List.map_append]
    exact dpa_app ih (.cons (.int _) .nil)
end
section
variable {X : Cx} {E : XK} {e a c : Expr} {pos p p2 pos2 : Pos}
theorem de_lstRg1 {o : Opd} (hc : X.calm = true) (hl : Gl X "list") (ml : X.mg "list" = none) (hg : Gl X "range") (hm : X.mg "range" = none) (ha : DO X E a o) (na : starEach [a] X.env = (false, eval a X.env) :: starEach [] X.env)
    (nb : starEach [Expr.Call (.Name "range" p2) [a] [] pos2] X.env = (false, eval (.Call (.Name "range" p2) [a] [] pos2) X.env) :: starEach [] X.env) :
    DE X E (.Call (.Name "list" p) [.Call (.Name "range" p2) [a] [] pos2] [] pos) (wLstRg1 o) :=
  (pe_listRg hc hl ml (prg_1 hg hm ha na) nb).imp fun σ H Q ⟨b, F, σd, W, Qd, I, x, h, q⟩ => by
    refine tO_run I x h fun v H1 F1 av σ1 I1 g1 r1 ⟨n, e1, hr, h1⟩ => ?_
    refine ⟨n, (I1.bv r1 e1).int, hr, fun p hp => ?_⟩
    have := @rg_dpa X.K F1 0 n
    rw [Int.sub_zero] at this
    exact q _ _ F1 (.f (.list _)) σ1 (I1.laid _ hp) g1 ⟨p, rfl, I1.fr1 hp this⟩ h1
theorem de_lstRg2 {o u : Opd} (hc : X.calm = true) (hl : Gl X "list") (ml : X.mg "list" = none) (hg : Gl X "range") (hm : X.mg "range" = none) (ha : DO X E a o) (hb : DO X E c u) (na : starEach [a, c] X.env = (false, eval a X.env) :: starEach [c] X.env)
    (nc : starEach [c] X.env = (false, eval c X.env) :: starEach [] X.env) (np : (backTo pos2 (starEach [c] X.env)).any (·.1) = false)
    (nb : starEach [Expr.Call (.Name "range" p2) [a, c] [] pos2] X.env = (false, eval (.Call (.Name "range" p2) [a, c] [] pos2) X.env) :: starEach [] X.env) :
    DE X E (.Call (.Name "list" p) [.Call (.Name "range" p2) [a, c] [] pos2] [] pos) (wLstRg2 o u) :=
  (pe_listRg hc hl ml (prg_2 hg hm ha hb na nc np) nb).imp fun σ H Q ⟨b, F, σd, W, Qd, I, x, h, q⟩ => by
    refine tO_run I x h fun v H1 F1 av σ1 I1 g1 r1 h1 => tO_run I1 x h1 fun w H2 F2 aw σ2 I2 g2 r2 ⟨m, n, e1, e2, hr, h2⟩ => ?_
    refine ⟨m, n, (I2.bv (r1.mono g2) e1).int, (I2.bv r2 e2).int, hr, fun p hp => ?_⟩
    exact q _ _ F2 (.f (.list _)) σ2 (I2.laid _ hp) (g1.trans g2) ⟨p, rfl, I2.fr1 hp rg_dpa⟩ h2
end

/-! ### isinstance(x, T) -/
def wIsi (T : String) (o : Opd) : WE := fun X σd Q => wO o X σd fun a σ1 => ∃ d, rs σ1 a = some d ∧ Q (.d (.bool (isiB (tyD d) T))) σ1
section
variable {X : Cx} {E : XK} {e a c : Expr} {pos p p2 pos2 : Pos}
theorem de_isi {o : Opd} {T : String} {y : Str} (hT : T = "int" ∨ T = "bool" ∨ T = "str" ∨ T = "tuple" ∨ T = "list") (hg : Gl X "isinstance") (hm : X.mg "isinstance" = none) (gy : Gl X y) (my : X.mg y = none) (by_ : bootBuiltins y = some (.type T)) (hy : y ≠ "__name__") (hyd : (y == ("__debug__" : Str)) = false)
    (ha : DO X E a o) (na : starEach [a, .Name y p2] X.env = (false, eval a X.env) :: starEach [.Name y p2] X.env) (hpl : (backTo pos (starEach [.Name y p2] X.env)).any (·.1) = false) :
    DE X E (.Call (.Name "isinstance" p) [a, .Name y p2] [] pos) (wIsi T o) :=
  (pe_callB call_isi hg hm boot_isinstance (pa_cons ha (pa_cons (pe_bltn gy my by_ (v := .ty T) rfl hy hyd) pa_nil rfl) na) (by decide) (by decide) na hpl).imp fun σ H Q ⟨b, F, σd, W, Qd, I, x, h, q⟩ => by
    refine tO_run I x h fun v H1 F1 av σ1 I1 g1 r1 ⟨d, e1, h1⟩ => ?_
    exact ⟨v, .ty T, _, _, _, rfl, .ty T, tyD_of I1.sub (I1.bv r1 e1), isi_kit d hT, q _ H1 F1 (.d (.bool _)) σ1 I1 g1 (Dp.bl _) h1⟩
end

/-! ### raise X('..') -/
def wRaise (nm : Str) : WS := fun X _ _ => X nm
section
variable {X : Cx} {E : XK} {C : Addr}
theorem ds_raise {x m : Str} {j : Nat} {p p2 pos pos2 : Pos} (hc : X.calm = true) (tk : Takes X (fun cls d _ H => E cls d H)) (q : PySem.W.excIn X.K C He.veBase "ValueError.__new__" = true) (gC : X.mg x = some (.ref C)) (kC : PySem.W.keepIn X.K (.ref C) = true) (r : Raises X (.ref C)) (hg : Gl X x) (hdb : (x == ("__debug__" : Str)) = false) :
    DS X E (.Raise (some (.Call (.Name x p) [.Constant (.str m) j p2] [] pos)) none pos2) (wRaise x) :=
  (ps_raise hc tk (pmk_own PySem.F.excBase_ValueError q gC kC r hg hdb)).imp fun D' σ H ⟨b, F, σd, W, Dd, I, xo, h, _⟩ => xo x C F H h gC I.toExt
end
end DL
end L2
set_option Elab.async false
set_option maxRecDepth 100000
set_option maxHeartbeats 4000000
/-! The data layer, part 14: sorted(set(xs)), ints. -/
namespace L2
open PySem PySem.Spec PyProof.Rows
namespace DL

/-- the empty set's object -/
abbrev so0 (w : World) : Obj := { cls := .type "set", dict := none, data := .set #[] 0 (.fresh 0 0 (!w.params.followText "set-order")) }
section
variable {P : Program} {w : World} {A : Around} {E : Value → Shared → Prop} {s : Shared}
theorem set_lstI {l : Addr} {items : Array Value} (ns : List Int) {Q : Value → Shared → Prop} (hh : A.handled = none) (hl : s.heap.IsList l items) (hit : IntsAre items.toList ns) (hb : ns.length + 1 < scanBound)
    (fin : ∀ (h' : Heap) (tk c : Nat), SetR w h' s.heap.objs.size (fun j => decide (j ∈ ns)) c → c ≤ ns.length → (∀ b o, s.heap.get? b = some o → h'.get? b = some o) → Q (.ref s.heap.objs.size) { s with heap := h', toks := tk }) :
    wpAny (model P w) A (call (.type "set") [.ref l]) Q E s := by
  have size : items.size = ns.length := by
    rw [← Array.length_toList]
    exact IntsAre.length hit
  have at_ : ∀ (i : Nat) (v : Value), items[i]? = some v → ∃ k t, ns[i]? = some k ∧ v = .int k t := fun i v hv => by
    have lt : i < ns.length := by
      rw [← size]
      exact (Array.getElem?_eq_some_iff.mp hv).1
    obtain ⟨t, e⟩ := PyProof.Rows.IntsAre.int_at hit i v (by
      rw [Array.getElem?_toList]
      exact hv)
    refine ⟨ns[i], t, List.getElem?_eq_getElem lt, ?_⟩
    rw [e, List.getD_eq_getElem?_getD, List.getElem?_eq_getElem lt]
    rfl
  obtain ⟨c, tl, hmro⟩ := F.called_set.mro
  have t1 := F.called_set.made
  have t2 := F.called_set.sub
  refine wpAny_call (codeAny_of_tree ?_)
  show wpAny _ _ (callAny (.type "set") ⟨[.ref l], []⟩) _ _ _
  refine wpAny_pure ⟨Code.quiet_builtin _ (by decide +kernel), codeAny_builtin F.entry_type_call ?_⟩
  rw [Around.under_plain (weight_type_call_type "set" [.ref l] []) rfl]
  have t3 := F.called_set.notType
  have t4 := F.called_set.canCreate
  have t5 := F.typeCall_set_1 (.ref l)
  repeat (any_goals (first | assumption | wp_step))
  have made := code_set_led1 (P := P) (w := w) (A := A.in1) (s := s) (.ref l) (E := E) (Q₁ := fun obj s1 => obj = .ref s.heap.objs.size ∧ s1 = { s with heap := s.heap.push (so0 w) }) ⟨rfl, rfl⟩
  refine codeAny_mono made fun r s1 hr => ?_
  rcases r with e | fl
  · exact hr
  cases fl with
  | ret obj =>
    obtain ⟨rfl, rfl⟩ := hr
    have new : (s.heap.push (so0 w)).get? s.heap.objs.size = some (so0 w) := Heap.get?_push_size _ rfl
    have ty : Shared.TypeIs { s with heap := s.heap.push (so0 w) } (.ref s.heap.objs.size) "set" := ⟨_, new, rfl⟩
    have u1 := F.called_set.init.lookup
    have u2 := F.called_set.init.bind (.ref s.heap.objs.size)
    repeat (any_goals (first | assumption | wp_step))
    let W : Value → Shared → Prop := fun r s2 => r = .none ∧ ∃ h' tk c, s2 = { s with heap := h', toks := tk } ∧ SetR w h' s.heap.objs.size (fun j => decide (j ∈ ns)) c ∧ c ≤ ns.length ∧
        ∀ b o, s.heap.get? b = some o → h'.get? b = some o
    refine codeAny_mono (codeAny_call_builtin (R := wants W E) F.called_set.init.plain F.entry_set_init (check_set_init_1 ty ?_)) fun r2 s2 hr2 => ?_
    · obtain ⟨ol, hol, hcl, nl, hdl⟩ := hl
      obtain ⟨ocls, odict, odata, oslots⟩ := ol
      simp only at hcl hdl
      subst hcl
      subst hdl
      have ol1 : (s.heap.push (so0 w)).get? l = some { cls := .type "list", dict := odict, data := .seq items nl, slots := oslots } := Heap.get?_push_of_some _ hol
      have f1 := PySem.F.sub_list_set
      have f2 := PySem.F.sub_list_frozenset
      have f3 : (Value.type "list" == Value.type "dict") = false := by decide
      have il : (s.heap.push (so0 w)).IsList l items := ⟨_, ol1, rfl, nl, rfl⟩
      unfold Builtin.«set.__init__» noKeywords Builtin.Frozenset.updateFrom
      generalize hPI : pyIter = PI
      wp_walk
      subst hPI
      refine wpAny_pyIter_list il (wpAny_bind (wpAny_runValue ?_))
      have lt0 : l < s.heap.objs.size := Heap.lt_size hol
      have hn3 : A.in1.in1.in1.handled = none := by simp [hh]
      have z1 : (s.heap.push (so0 w)).objs.size = s.heap.objs.size + 1 := Heap.size_push ..
      have ne1 : l ≠ (s.heap.push (so0 w)).objs.size := by
        rw [z1]
        exact Nat.ne_of_lt (Nat.lt_succ_of_lt lt0)
      have nin : s.heap.objs.size ∉ [(s.heap.push (so0 w)).objs.size, l] := by
        rw [z1]
        intro z
        rcases List.mem_cons.mp z with z | z
        · exact Nat.ne_of_lt (Nat.lt_succ_self _) z
        · exact Nat.ne_of_gt lt0 (List.mem_singleton.mp z)
      have walk := (Walks.list (prog := P) (w := w) hn3 (s.heap.push (so0 w)).objs.size l ne1 items).toS
      refine set_update_ints walk s.heap.objs.size nin ns size hb at_ items.size 0 _ (by omega) (Nat.zero_le _) ⟨⟨_, Heap.get?_push_size _ rfl, rfl, rfl⟩, il.push _⟩ ⟨0, Nat.le_refl 0, setR_new_at (Heap.get?_push_of_some _ new)⟩ fun s3 c3 hm hc hS => ?_
      obtain ⟨h', g2, d', tk', os'⟩ := s3
      have e1 : g2 = s.gens := hm.gens
      have e2 : d' = s.drawn := hm.drawn
      have e3 : os' = s.os := hm.os
      subst e1 e2 e3
      rw [size] at hc
      refine wpAny_pure (wpAny_pure ⟨rfl, h', tk', c3, rfl, hS, hc, fun b o e => ?_⟩)
      have b0 : b < s.heap.objs.size := Heap.lt_size e
      refine hm.heap b o (fun z => ?_) (Heap.get?_push_of_some _ (Heap.get?_push_of_some _ e))
      rcases List.mem_cons.mp z with z | z
      · exact Nat.ne_of_lt b0 z
      · have z2 := List.mem_singleton.mp z
        rw [z1] at z2
        exact Nat.ne_of_lt (Nat.lt_succ_of_lt b0) z2
    · rcases r2 with e | fl2
      · exact hr2
      cases fl2 with
      | ret r =>
        obtain ⟨rfl, h', tk, c', rfl, g1, g2, g3⟩ := hr2
        repeat (any_goals (first | assumption | wp_step))
        exact fin _ _ _ g1 g2 g3
      | _ => exact hr2.elim
  | _ => exact hr.elim
end
end DL
end L2
set_option Elab.async false
set_option maxRecDepth 100000
set_option maxHeartbeats 4000000
/-! The data layer, part 15: sorted(set(xs)), ints. -/
namespace L2
open PySem PySem.Spec PyProof.Rows
namespace DL
section
variable {P : Program} {w : World} {A : Around} {E : Value → Shared → Prop} {s : Shared}

theorem raw_ints : ∀ (l : List Value), (∀ v ∈ l, ∃ k tk, v = Value.int k tk) → IntsAre l (l.map SrtO.iv)
  | [], _ => .nil
  | v :: l, h => by
    obtain ⟨k, tk, rfl⟩ := h v List.mem_cons_self
    exact .cons k tk (raw_ints l fun u hu => h u (List.mem_cons_of_mem _ hu))
/-- sorted(set), any number of ints below 4096 -/
theorem srt_set {S : Int → Bool} {n : Nat} {a : Addr} {Q : Value → Shared → Prop} (R : SetR w s.heap a S n) (hh : A.handled = none)
    (fin : ∀ s' p (out : List Value) (c : Nat), (∀ b o, s.heap.get? b = some o → s'.heap.get? b = some o) → s'.gens = s.gens → s'.os = s.os → s.heap.objs.size ≤ p → s'.heap.get? p = some (seqObj "list" out.toArray c) →
      IntsAre out (out.map SrtO.iv) → (out.map SrtO.iv).Pairwise (· ≤ ·) → (out.map SrtO.iv).Nodup → (∀ k, k ∈ out.map SrtO.iv ↔ S k = true) → out.length = n → Q (.ref p) s') :
    wpAny (model P w) A (call (.builtin "sorted") [.ref a]) Q E s := by
  obtain ⟨o, es, ep, t, ho, hex, hd, good, nd, mem, hb, hf, hn, ris, led⟩ := R
  have n16 : n ≤ sizeLine := by
    rw [← hn, sizeLine_eq]
    unfold scanBound at hb
    omega
  refine Calls.call_function_entry kind_sorted plain_sorted entry_sorted (args_sorted1 _) ?_
  unfold Builtin.«sorted»
  refine wpAny_bind (m := checkCount "sorted" 1 1 _) (wpAny_pure (wpAny_bind (collect_set (A := A.in1) hh ⟨o, ho, hex.1, hd⟩ hf hb ris led fun s1 vs k1 hz g1 o1 pm => ?_)))
  have len : vs.length = n := by
    rw [pm.length_eq, List.length_map, Array.length_toList]
    exact hn
  have allI : IntsAre vs (vs.map SrtO.iv) := raw_ints vs fun v hv => by
    obtain ⟨e, he, q⟩ := List.mem_map.mp (pm.mem_iff.mp hv)
    obtain ⟨k, tk, h1, _⟩ := good e he
    exact ⟨k, tk, q.symm.trans h1⟩
  have keys : (vs.map SrtO.iv).Perm (es.toList.map L2.keyOf) := by
    have q := pm.map SrtO.iv
    rw [List.map_map] at q
    exact q
  refine wpAny_bind (wpAny_newList ?_ (by rw [len]; exact n16))
  have L0 : (s1.heap.push (seqObj "list" vs.toArray 0)).get? s1.heap.objs.size = some (seqObj "list" vs.toArray 0) := Heap.get?_push_size _ rfl
  refine wpAny_bind (wpAny_holding (wpAny_call_entry slot_list_sort ⟨_, L0, rfl⟩ entry_list_sort (SrtO.list_sort_ord SrtO.swo_int L0 (by rw [len]; exact n16) (fun h2 => SrtO.ints_sortable allI h2) fun out h1 h2 => ⟨_, rfl, ?_⟩) (args_list_sort _)))
  obtain ⟨b1, b2, b3⟩ := SrtO.ints_out allI h1 h2
  obtain ⟨c, hc⟩ := sortedHeap_at (vs := vs) (out := out.toArray) L0
  have pn := b2.trans keys
  refine wpAny_pure ⟨_, rfl, fin _ s1.heap.objs.size out c (fun b u e => ?_) g1 o1 hz hc b1 b3 (pn.nodup_iff.mpr nd) (fun k => by rw [pn.mem_iff, ← mem k]) ?_⟩
  · have q := k1 b u e
    have lt := Heap.lt_size q
    exact (sortedHeap_old (Nat.ne_of_lt lt) (by rw [size_push']; exact Nat.lt_succ_of_lt lt)).trans (Heap.get?_push_of_some _ q)
  · rw [h2.perm.length_eq]
    exact len
end

/-! ### sorted(set(xs)) as an expression -/
def dedI : List Int → List Int
  | [] => []
  | x :: r => if x ∈ r then dedI r else x :: dedI r
theorem ded_mem (k : Int) : ∀ l, k ∈ dedI l ↔ k ∈ l
  | [] => Iff.rfl
  | x :: r => by
    unfold dedI
    split
    · rename_i h
      rw [ded_mem k r]
      constructor
      · exact fun z => List.mem_cons_of_mem _ z
      · intro z
        rcases List.mem_cons.mp z with rfl | z
        · exact h
        · exact z
    · rw [List.mem_cons, List.mem_cons, ded_mem k r]
theorem ded_nodup : ∀ l, (dedI l).Nodup
  | [] => List.nodup_nil
  | x :: r => by
    unfold dedI
    split
    · exact ded_nodup r
    · rename_i h
      exact List.nodup_cons.mpr ⟨fun z => h ((ded_mem x r).mp z), ded_nodup r⟩
theorem ded_len : ∀ l, (dedI l).length ≤ l.length
  | [] => Nat.le_refl _
  | x :: r => by
    unfold dedI
    split
    · exact Nat.le_succ_of_le (ded_len r)
    · exact Nat.succ_le_succ (ded_len r)
/-- sorted(set(xs)) -/
def srtSet (l : List Int) : List Int := sortI (dedI l)
theorem srtSet_mem (k : Int) (l : List Int) : k ∈ srtSet l ↔ k ∈ l := by
  unfold srtSet
  rw [(sortI_perm _).mem_iff, ded_mem]
theorem perm_of_mem : ∀ {l m : List Int}, l.Nodup → m.Nodup → (∀ k, k ∈ l ↔ k ∈ m) → l.Perm m
  | [], m, _, _, h => by
    cases m with
    | nil => exact .nil
    | cons y t => exact absurd ((h y).mpr List.mem_cons_self) (by simp)
  | x :: r, m, h1, h2, h => by
    obtain ⟨a1, a2⟩ := List.nodup_cons.mp h1
    have hx : x ∈ m := (h x).mp List.mem_cons_self
    have p := List.perm_cons_erase hx
    refine (List.Perm.cons x (perm_of_mem a2 (h2.erase x) fun k => ?_)).trans p.symm
    constructor
    · intro z
      have : k ≠ x := fun e => a1 (e ▸ z)
      exact (List.mem_erase_of_ne this).mpr ((h k).mp (List.mem_cons_of_mem _ z))
    · intro z
      have zz := List.mem_of_mem_erase z
      have : k ≠ x := fun e => by
        subst e
        exact absurd z (fun q => (List.Nodup.not_mem_erase h2) q)
      rcases List.mem_cons.mp ((h k).mpr zz) with e | e
      · exact absurd e this
      · exact e
theorem srtSet_uniq {l m : List Int} (p : m.Pairwise (· ≤ ·)) (nd : m.Nodup) (h : ∀ k, k ∈ m ↔ k ∈ l) : m = srtSet l :=
  sortI_uniq (perm_of_mem nd (ded_nodup l) fun k => by rw [h, ded_mem]) p
def wSrtSet (o : Opd) : WE := fun X σd Q => wO o X σd fun a σ1 => ∃ l ns, rs σ1 a = some (.list l) ∧ intsD l = some ns ∧ ns.length + 1 < 4096 ∧ Q (.f (.list ((srtSet ns).map .int))) σ1
section
variable {X : Cx} {E : XK} {a : Expr} {p p2 pos pos2 : Pos}
theorem de_srtSet {o : Opd} (hc : X.calm = true) (gs : Gl X "sorted") (ms : X.mg "sorted" = none) (gt : Gl X "set") (mt : X.mg "set" = none) (ha : DO X E a o) (na : starEach [a] X.env = (false, eval a X.env) :: starEach [] X.env)
    (nb : starEach [Expr.Call (.Name "set" p2) [a] [] pos2] X.env = (false, eval (.Call (.Name "set" p2) [a] [] pos2) X.env) :: starEach [] X.env) :
    DE X E (.Call (.Name "sorted" p) [.Call (.Name "set" p2) [a] [] pos2] [] pos) (wSrtSet o) := by
  refine ⟨fun pins s σ H Q I ⟨b, F, σd, W, Qd, I0, x, h, q⟩ => ?_⟩
  have inner : wpAny (model X.prog X.w) X.A (eval (.Call (.Name "set" p2) [a] [] pos2) X.env) (fun v s2 => ∃ (F1 H1 : Hp) (σ1 : SD) (ns : List Int) (t : Addr) (c : Nat), v = .ref t ∧ Inv X pins σ H1 s2 ∧ SetR X.w s2.heap t (fun j => decide (j ∈ ns)) c ∧ Iv X.K b F1 H1 σ σ1 ∧ Grow F F1 ∧ ns.length + 1 < 4096 ∧
      Qd (.f (.list ((srtSet ns).map .int))) σ1) X.xe s := by
    refine Call_ (ld_blt I gt mt PyProof.Rows.boot_set (PyProof.Rows.callWith_type1 (one_arg (R := fun v H1 => ∃ F1 σ1 l ns, Iv X.K b F1 H1 σ σ1 ∧ Grow F F1 ∧ BV X.K F1 H1 v (.list l) ∧ intsD l = some ns ∧ ns.length + 1 < 4096 ∧ Qd (.f (.list ((srtSet ns).map .int))) σ1)
      ha I (tO_run I0 x h fun v H1 F1 av σ1 I1 g1 r1 ⟨l, ns, e1, e2, e3, h1⟩ => ⟨F1, σ1, l, ns, I1, g1, I1.bv r1 e1, e2, e3, h1⟩) (fun v s2 y H2 I2 r2 ⟨F1, σ1, l, ns, I1, g1, bv, e2, e3, h1⟩ => ?_) na) na))
    obtain ⟨c, xs, rfl, s1, s2'⟩ := bv.lst I1.toExt
    rw [intsD_eq e2] at s2'
    rw [dpa_ints s2'] at s1
    cases r2
    obtain ⟨its, rv, pl, hz⟩ := I2.list s1
    refine set_lstI ns (I2.ok.hd hc) pl.isList (by simpa using ints_of_vals rv) e3 fun h' tk c' R _ keep => ?_
    exact ⟨F1, H2, σ1, ns, _, c', rfl, I2.kept keep, R, I1, g1, e3, h1⟩
  refine wpAny_Call_Name_kw (ld_blt I gs ms boot_sorted ?_)
  refine Calls.callWith_builtin rfl (Calls.evalArgs_plain ?_)
  refine Calls.spliced_cons (wpAny_mono inner (fun v s2 z => ?_) fun _ _ z => z)
  obtain ⟨F1, H1, σ1, ns, t, c, rfl, I2, R, I1, g1, e3, h1⟩ := z
  refine Calls.spliced_nil ?_
  refine srt_set R (I2.ok.hd hc) fun s' p out c' k g os hp hg hi hs nd hm hl => ?_
  have hlen : ((out.map SrtO.iv).map V.int).length ≤ sizeLine := by
    rw [List.length_map, List.length_map, hl, sizeLine_eq]
    obtain ⟨_, _, _, _, _, _, _, _, _, _, hb, _, hn, _⟩ := R
    unfold scanBound at hb
    omega
  have hn : H1 p = none := I2.hok.fresh hp
  have J : Inv X pins σ (upd H1 p (.lst ((out.map SrtO.iv).map V.int))) { s2 with heap := s'.heap, gens := s'.gens, drawn := s'.drawn, toks := s'.toks } :=
    I2.call (ch := []) (Un.laid k hp hn) (I2.hok.laid k hp ⟨hlen, out, c', vals_of_ints hi, hg⟩) (by rw [g]; exact I2.bare) (fun _ z => nomatch z)
  have e : s' = { s2 with heap := s'.heap, gens := s'.gens, drawn := s'.drawn, toks := s'.toks } := by
    obtain ⟨h1, h2, h3, h4, h5⟩ := s'
    have os : h5 = s2.os := os
    rw [os]
  rw [e]
  have eq : out.map SrtO.iv = srtSet ns := srtSet_uniq hs nd fun k => by
    rw [hm k]
    exact decide_eq_true_iff
  rw [eq] at J
  exact ⟨.ref p, _, J, rfl, q _ _ F1 (.f (.list _)) σ1 (I1.laid _ hn) g1 ⟨p, rfl, I1.fr1 hn (ints_dpa _)⟩ h1⟩
end
end DL
end L2
set_option Elab.async false
set_option maxRecDepth 100000
set_option maxHeartbeats 4000000
/-! The data layer, part 19: sorted(set(xs)), pairs of ints. -/
namespace L2
open PySem PySem.Spec PyProof.Rows
namespace DL
abbrev Pr : Type := Int × Int
def prOf : List Int → Pr
  | [x, y] => (x, y)
  | _ => (0, 0)
def prL (p : Pr) : List Int := [p.1, p.2]
def pairD (p : Pr) : D := .tuple [.int p.1, .int p.2]
/-- ascending, no two alike -/
abbrev SrtP (l : List Pr) : Prop := l.Pairwise fun p q => SrtO.lexB p q = true
section
variable {P : Program} {w : World} {A : Around} {E : Value → Shared → Prop} {s : Shared}
theorem isPair_of {h : Heap} {b : Addr} {x y : Int} (t : IsT P w h [x, y] b) : Srt.IsPair h (.ref b) x y := by
  obtain ⟨_, xs, e, ⟨o, ho, hc, n, hd⟩, i⟩ := tupInts_of t
  cases e
  have two : ∃ t u, xs.toList = [.int x t, .int y u] := by
    generalize xs.toList = l at i
    cases i with
    | cons x t i =>
      cases i with
      | cons y u i =>
        cases i
        exact ⟨t, u, rfl⟩
  obtain ⟨t, u, e⟩ := two
  have e2 : xs = #[.int x t, .int y u] := by
    have := congrArg List.toArray e
    simpa using this
  rw [e2] at hd
  exact ⟨b, o, t, u, n, rfl, ho, hc, hd⟩
/-- sorted(set), pairs of ints -/
theorem srt_setP {a : Addr} {L : List (Addr × List Int)} {es : Array (Int × Value)} {ep : Nat} {t : SetTable} {Q : Value → Shared → Prop} (R : SetTR P w s.heap a L es ep t) (hh : A.handled = none) (two : ∀ q ∈ L, ∃ x y : Int, q.2 = [x, y])
    (fin : ∀ s' p (out : List Value) (c : Nat) (L' : List (Addr × List Int)), (∀ b o, s.heap.get? b = some o → s'.heap.get? b = some o) → s'.gens = s.gens → s'.os = s.os → s.heap.objs.size ≤ p → s'.heap.get? p = some (seqObj "list" out.toArray c) →
      out = L'.map (fun q => Value.ref q.1) → (∀ q, q ∈ L' ↔ q ∈ L) → L'.length = L.length → SrtP (L'.map fun q => prOf q.2) → Q (.ref p) s') :
    wpAny (model P w) A (call (.builtin "sorted") [.ref a]) Q E s := by
  obtain ⟨o, ho, hex, hd⟩ := R.ob
  have few := R.few
  have size := R.size
  refine Calls.call_function_entry kind_sorted plain_sorted entry_sorted (args_sorted1 _) ?_
  unfold Builtin.«sorted»
  refine wpAny_bind (m := checkCount "sorted" 1 1 _) (wpAny_pure (wpAny_bind (collect_set (A := A.in1) hh ⟨o, ho, hex.1, hd⟩ R.fits (by unfold scanBound; omega) R.tab.ris R.led fun s1 vs k1 hz g1 o1 pm => ?_)))
  have rows : es.toList.map (·.2) = L.map fun q => Value.ref q.1 := by
    rw [R.rows]
    unfold rowsOf
    rw [List.map_map]
    rfl
  rw [rows] at pm
  have len : vs.length < 64 := by
    rw [pm.length_eq, List.length_map]
    exact few
  refine wpAny_bind (wpAny_newList ?_ (by rw [sizeLine_eq]; omega))
  have L0 : (s1.heap.push (seqObj "list" vs.toArray 0)).get? s1.heap.objs.size = some (seqObj "list" vs.toArray 0) := Heap.get?_push_size _ rfl
  have tup : ∀ q ∈ L, IsT P w (s1.heap.push (seqObj "list" vs.toArray 0)) q.2 q.1 := fun q hq => isT_keep (R.tup q hq) fun b u e => Heap.get?_push_of_some _ (k1 b u e)
  let k : Value → Pr := fun v => prOf (TS.intsOf (s1.heap.push (seqObj "list" vs.toArray 0)) v)
  have kq : ∀ q ∈ L, k (.ref q.1) = prOf q.2 := fun q hq => congrArg prOf (tupInts_of (tup q hq)).ints
  have pairs : ∀ v ∈ vs, Srt.IsPair (s1.heap.push (seqObj "list" vs.toArray 0)) v (k v).1 (k v).2 := fun v hv => by
    obtain ⟨q, hq, rfl⟩ := List.mem_map.mp (pm.mem_iff.mp hv)
    obtain ⟨x, y, e⟩ := two q hq
    have t0 := tup q hq
    have z : k (.ref q.1) = (x, y) := by rw [kq q hq, e]; rfl
    rw [e] at t0
    show Srt.IsPair _ (.ref q.1) (k (.ref q.1)).1 (k (.ref q.1)).2
    rw [z]
    exact isPair_of t0
  refine wpAny_bind (wpAny_holding (wpAny_call_entry slot_list_sort ⟨_, L0, rfl⟩ entry_list_sort (SrtO.list_sort_ord (SrtO.swo_lex k) L0 (by rw [sizeLine_eq]; omega)
    (fun h2 => SrtO.pairs_sortableO (s := { s1 with heap := s1.heap.push (seqObj "list" vs.toArray 0) }) (by omega) pairs fun o e => by
      rw [L0] at e
      cases e
      intro c
      exact absurd (Value.type.inj c) (by decide)) fun out h1 h2 => ⟨_, rfl, ?_⟩) (args_list_sort _)))
  obtain ⟨c, hc⟩ := sortedHeap_at (vs := vs) (out := out.toArray) L0
  have pm2 : out.Perm (L.map fun q => Value.ref q.1) := h2.perm.trans pm
  -- the values are the rows, in some order
  have ord : ∀ us : List Value, (∀ v ∈ us, ∃ q ∈ L, v = Value.ref q.1) → ∃ L1 : List (Addr × List Int), us = L1.map (fun q => Value.ref q.1) ∧ ∀ q ∈ L1, q ∈ L := fun us => by
    induction us with
    | nil => exact fun _ => ⟨[], rfl, fun q h => nomatch h⟩
    | cons v us ih =>
      intro h
      obtain ⟨q, hq, rfl⟩ := h v List.mem_cons_self
      obtain ⟨L1, rfl, h1⟩ := ih fun u hu => h u (List.mem_cons_of_mem _ hu)
      exact ⟨q :: L1, rfl, fun r hr => by
        rcases List.mem_cons.mp hr with rfl | hr
        · exact hq
        · exact h1 r hr⟩
  obtain ⟨L', e', sub⟩ := ord out fun v hv => by
    obtain ⟨q, hq, e⟩ := List.mem_map.mp (pm2.mem_iff.mp hv)
    exact ⟨q, hq, e.symm⟩
  have one : ∀ q ∈ L, ∀ r ∈ L, q.1 = r.1 → q = r := fun q hq r hr e => by
    have a1 := R.tup q hq
    have a2 := R.tup r hr
    rw [e] at a1
    exact Prod.ext e (a1.inj a2)
  have mem : ∀ q, q ∈ L' ↔ q ∈ L := fun q => ⟨sub q, fun hq => by
    have : Value.ref q.1 ∈ out := pm2.mem_iff.mpr (List.mem_map.mpr ⟨q, hq, rfl⟩)
    rw [e'] at this
    obtain ⟨r, hr, e⟩ := List.mem_map.mp this
    injection e with e
    rw [← one r (sub r hr) q hq e]
    exact hr⟩
  have len2 : L'.length = L.length := by
    have := pm2.length_eq
    rw [e', List.length_map, List.length_map] at this
    exact this
  have nref : (L.map fun q => Value.ref q.1).Nodup := List.pairwise_map.mpr (List.Pairwise.imp_of_mem (fun {q r} hq hr hne e => by
    injection e with e
    exact hne (one q hq r hr e)) (nodup_of_map R.nd))
  have ndo : (L'.map fun q => Value.ref q.1).Nodup := by
    rw [← e']
    exact pm2.nodup_iff.mpr nref
  have srt : SrtP (L'.map fun q => prOf q.2) := by
    rw [e'] at h1
    refine List.pairwise_map.mpr (List.Pairwise.imp_of_mem (fun {q r} hq hr h => ?_) (List.pairwise_map.mp h1 |>.and (List.pairwise_map.mp ndo)))
    obtain ⟨h, ne⟩ := h
    have hq := sub q hq
    have hr := sub r hr
    have h : SrtO.lexB (k (.ref r.1)) (k (.ref q.1)) = false := h
    rw [kq q hq, kq r hr] at h
    have ne2 : prOf q.2 ≠ prOf r.2 := fun z => by
      obtain ⟨x, y, e1⟩ := two q hq
      obtain ⟨x2, y2, e2⟩ := two r hr
      rw [e1, e2] at z
      injection z with z1 z2
      have : q.2 = r.2 := by rw [e1, e2, z1, z2]
      have nd := R.nd
      have : q = r := by
        have inj : ∀ (l : List (Addr × List Int)), (l.map (·.2)).Nodup → ∀ q ∈ l, ∀ r ∈ l, q.2 = r.2 → q = r := by
          intro l
          induction l with
          | nil => exact fun _ q hq => nomatch hq
          | cons u l ih =>
            intro nd q hq r hr e
            have nd := List.nodup_cons.mp nd
            rcases List.mem_cons.mp hq with q1 | q1
            · rcases List.mem_cons.mp hr with r1 | r1
              · rw [q1, r1]
              · exact absurd (List.mem_map.mpr ⟨r, r1, by rw [← e, q1]⟩) nd.1
            · rcases List.mem_cons.mp hr with r1 | r1
              · exact absurd (List.mem_map.mpr ⟨q, q1, by rw [e, r1]⟩) nd.1
              · exact ih nd.2 q q1 r r1 e
        exact inj L nd q hq r hr this
      exact ne (by rw [this])
    rw [SrtO.lexB_iff]
    have h := SrtO.lexB_no.mp h
    generalize prOf q.2 = u at h ne2 ⊢
    generalize prOf r.2 = v at h ne2 ⊢
    obtain ⟨u1, u2⟩ := u
    obtain ⟨v1, v2⟩ := v
    dsimp only at h ⊢
    by_cases z : u1 = v1
    · by_cases z2 : u2 = v2
      · rw [z, z2] at ne2
        exact absurd rfl ne2
      · omega
    · omega
  refine wpAny_pure ⟨_, rfl, fin _ s1.heap.objs.size out c L' (fun b u e => ?_) g1 o1 hz hc e' mem len2 srt⟩
  have q := k1 b u e
  have lt := Heap.lt_size q
  exact (sortedHeap_old (Nat.ne_of_lt lt) (by rw [size_push']; exact Nat.lt_succ_of_lt lt)).trans (Heap.get?_push_of_some _ q)
end
/-- sorted(s), s a set of pairs -/
def rSortedP (K : PySem.W.Frag) (P : Program) (w : World) : List V → Hp → VK → Prop := fun vs H Q => ∃ (a : Addr) (L : List (Addr × List Int)), vs = [V.ref a] ∧ H a = some (SetTO P w a L) ∧ (∀ p ∈ L, SqT K H p.1 (p.2.map V.int)) ∧ (∀ q ∈ L, ∃ x y : Int, q.2 = [x, y]) ∧
  ∀ (L' : List (Addr × List Int)) (p : Addr), (∀ q, q ∈ L' ↔ q ∈ L) → L'.length < 64 → SrtP (L'.map fun q => prOf q.2) → H p = none → Q (.ref p) (upd H p (.lst (L'.map fun q => V.ref q.1)))
theorem cr_sortedP {X : Cx} (hc : X.calm = true) : CallR X (.builtin "sorted") (rSortedP X.K X.prog X.w) := by
  intro pins s σ H vs us Q I r h
  obtain ⟨a, L, rfl, ha, hk, two, q⟩ := h
  have R0 : SetT0 X.prog X.w s.heap a L := (I.hok a _ ha).1
  obtain ⟨es, ep, t, R⟩ := R0.full fun p hp => I.isT (hk p hp)
  rw [Vals.ref1 r]
  refine srt_setP R (I.ok.hd hc) two fun s' p out c L' k g o hp hg hout mem len srt => ?_
  have few : L'.length < 64 := by rw [len]; exact R.few
  have hlen : (L'.map fun q => V.ref q.1).length ≤ sizeLine := by rw [List.length_map, sizeLine_eq]; omega
  have hn : H p = none := I.hok.fresh hp
  have hv : Vals (L'.map fun q => V.ref q.1) out := by rw [hout]; exact vals_of_refs L'
  have J : Inv X pins σ (upd H p (.lst (L'.map fun q => V.ref q.1))) { s with heap := s'.heap, gens := s'.gens, drawn := s'.drawn, toks := s'.toks } :=
    I.call (ch := []) (Un.laid k hp hn) (I.hok.laid k hp ⟨hlen, out, c, hv, hg⟩) (by rw [g]; exact I.bare) (fun _ z => nomatch z)
  have e : s' = { s with heap := s'.heap, gens := s'.gens, drawn := s'.drawn, toks := s'.toks } := by
    obtain ⟨h1, h2, h3, h4, h5⟩ := s'
    have os : h5 = s.os := o
    rw [os]
  rw [e]
  exact ⟨.ref p, _, J, rfl, q L' p mem few srt hn⟩
def wSrtSetP (o : Opd) : WE := fun X σd Q => wO o X σd fun a σ1 => ∃ ps : List Pr, rs σ1 a = some (.list (ps.map pairD)) ∧ ps.length < 64 ∧ ∀ ys, SrtP ys → (∀ p, p ∈ ys ↔ p ∈ ps) → Q (.f (.list (ys.map pairD))) σ1
/-- the tuples that a list of pairs holds -/
theorem dpa_pairs {K : PySem.W.Frag} {F : Hp} : ∀ {vs : List V} {ps : List Pr}, DpAll K F vs (ps.map pairD) → ∃ ks : List (Addr × List Int), vs = ks.map (fun q => V.ref q.1) ∧ ks.map (·.2) = ps.map prL ∧ ∀ q ∈ ks, SqT K F q.1 (q.2.map V.int)
  | _, [], .nil => ⟨[], rfl, rfl, fun q h => nomatch h⟩
  | _, p :: ps, .cons h t => by
    obtain ⟨ks, rfl, e, hk⟩ := dpa_pairs t
    cases h with
    | tup hs ha =>
      rename_i a xs
      have : xs = (prL p).map V.int := dpa_ints (ns := prL p) ha
      rw [this] at hs
      exact ⟨(a, prL p) :: ks, rfl, by rw [List.map_cons, e]; rfl, fun q hq => by
        rcases List.mem_cons.mp hq with rfl | hq
        · exact hs
        · exact hk q hq⟩
theorem pairs_dpa {K : PySem.W.Frag} {F : Hp} : ∀ L : List (Addr × List Int), (∀ q ∈ L, SqT K F q.1 (q.2.map V.int)) → (∀ q ∈ L, ∃ x y : Int, q.2 = [x, y]) → DpAll K F (L.map fun q => V.ref q.1) ((L.map fun q => prOf q.2).map pairD)
  | [], _, _ => .nil
  | q :: L, h, two => by
    refine .cons ?_ (pairs_dpa L (fun r hr => h r (List.mem_cons_of_mem _ hr)) fun r hr => two r (List.mem_cons_of_mem _ hr))
    obtain ⟨x, y, e⟩ := two q List.mem_cons_self
    have hs := h q List.mem_cons_self
    rw [e] at hs
    show Dp K F (V.ref q.1) (pairD (prOf q.2))
    rw [e]
    exact .tup hs (ints_dpa [x, y])
section
variable {X : Cx} {E : XK} {a : Expr} {p p2 pos pos2 : Pos}
theorem de_srtSetP {o : Opd} (hc : X.calm = true) (hu : X.A.units + 64 < cLine) (gs : Gl X "sorted") (ms : X.mg "sorted" = none) (gt : Gl X "set") (mt : X.mg "set" = none) (ha : DO X E a o) (na : starEach [a] X.env = (false, eval a X.env) :: starEach [] X.env)
    (nb : starEach [Expr.Call (.Name "set" p2) [a] [] pos2] X.env = (false, eval (.Call (.Name "set" p2) [a] [] pos2) X.env) :: starEach [] X.env) :
    DE X E (.Call (.Name "sorted" p) [.Call (.Name "set" p2) [a] [] pos2] [] pos) (wSrtSetP o) := by
  refine (pe_callB (cr_sortedP hc) gs ms boot_sorted (pa_cons (pe_callTy (cr_setOfT hc hu) gt mt PyProof.Rows.boot_set (pa_cons ha pa_nil na) (by decide) (by decide) na rfl) pa_nil nb) (by decide) (by decide) nb rfl).imp fun σ H Q ⟨b, F, σd, W, Qd, I, x, h, q⟩ => ?_
  refine tO_run I x h fun v H1 F1 av σ1 I1 g1 r1 ⟨ps, e1, few, h1⟩ => ?_
  obtain ⟨c, xs, rfl, s1, s2⟩ := (I1.bv r1 e1).lst I1.toExt
  obtain ⟨ks, rfl, e2, hk⟩ := dpa_pairs s2
  have kl : ks.length = ps.length := by
    have := congrArg List.length e2
    simpa using this
  have ktwo : ∀ q ∈ ks, ∃ p ∈ ps, q.2 = prL p := fun q hq => by
    have : q.2 ∈ ks.map (·.2) := List.mem_map.mpr ⟨q, hq, rfl⟩
    rw [e2] at this
    obtain ⟨p, hp, e⟩ := List.mem_map.mp this
    exact ⟨p, hp, e.symm⟩
  refine ⟨c, ks, rfl, s1, fun q hq => Grow.sqt I1.sub (hk q hq), by rw [kl]; exact few, fun a L hn sub all => ?_⟩
  have J1 := I1.laid (SetTO X.prog X.w a L) hn
  refine ⟨a, L, rfl, upd_same, fun q hq => Grow.sqt J1.sub (hk q (sub q hq)), fun q hq => ?_, fun L' p mem few2 srt hp => ?_⟩
  · obtain ⟨p, _, e⟩ := ktwo q (sub q hq)
    exact ⟨p.1, p.2, e⟩
  have J2 := J1.laid (.lst (L'.map fun q => V.ref q.1)) hp
  have dp : DpAll X.K F1 (L'.map fun q => V.ref q.1) ((L'.map fun q => prOf q.2).map pairD) := pairs_dpa L' (fun q hq => hk q (sub q ((mem q).mp hq))) fun q hq => by
    obtain ⟨p, _, e⟩ := ktwo q (sub q ((mem q).mp hq))
    exact ⟨p.1, p.2, e⟩
  refine q _ _ F1 (.f (.list _)) σ1 J2 g1 ⟨p, rfl, J1.fr1 hp dp⟩ (h1 _ srt fun p => ?_)
  rw [List.mem_map]
  constructor
  · rintro ⟨q, hq, rfl⟩
    obtain ⟨p, hp, e⟩ := ktwo q (sub q ((mem q).mp hq))
    rw [e]
    exact hp
  · intro hp
    have : prL p ∈ ks.map (·.2) := by
      rw [e2]
      exact List.mem_map.mpr ⟨p, hp, rfl⟩
    obtain ⟨q, hq, e⟩ := List.mem_map.mp this
    have := all q hq
    obtain ⟨r, hr, e3⟩ := List.mem_map.mp this
    exact ⟨r, (mem r).mpr hr, by rw [e3, e]; rfl⟩
/-- one reading or another -/
def weAlt (w u : WE) : WE := fun X σd Q => w X σd Q ∨ u X σd Q
theorem de_alt {e : Expr} {w u : WE} (h1 : DE X E e w) (h2 : DE X E e u) : DE X E e (weAlt w u) := ⟨fun pins s σ H Q I q => by
  obtain ⟨b, F, σd, W, Qd, I2, x, q, e⟩ := q
  rcases q with q | q
  · exact h1.run pins s σ H Q I ⟨b, F, σd, W, Qd, I2, x, q, e⟩
  · exact h2.run pins s σ H Q I ⟨b, F, σd, W, Qd, I2, x, q, e⟩⟩
end
end DL
end L2
set_option Elab.async false
set_option maxRecDepth 100000
set_option maxHeartbeats 1000000
/-! The data layer, part 16: xs[::k], k 1 or -1. -/
namespace L2
open PySem PySem.Spec PyProof.Rows
namespace DL
section
variable {prog : Program} {w : World} {A : Around} {E : Value → Shared → Prop} {s : Shared}
/-- the steps that are read -/
def StepOk (k : Int) : Prop := k = 1 ∨ k = -1
def byStep {α : Type} (l : List α) (k : Int) : List α := if k = 1 then l else l.reverse
theorem applied_k {sl : Addr} {vl vu vs : Value} {k : Int} {n : Nat} {Q : Int × Int × Nat → Shared → Prop} (hs : s.heap.IsSliceOf sl vl vu vs) (pl : IsPart vl none) (pu : IsPart vu none) (ps : IsPart vs (some k)) (hk : StepOk k)
    (h : Q ((if k = 1 then 0 else (n : Int) - 1), k, n) s) : wpAny (model prog w) A (Builtin.Slice.sliceApplied (.ref sl) (pure (n : Int))) Q E s := by
  obtain ⟨os, hos, hcs, hds⟩ := id hs
  unfold Builtin.Slice.sliceApplied Builtin.Slice.sliceFields
  refine wpAny_bind (wpAny_bind (wpAny_field hos hds (x := vl) rfl (wpAny_bind (wpAny_field hos hds (x := vu) rfl (wpAny_bind (wpAny_field hos hds (x := vs) rfl (wpAny_pure ?_)))))))
  refine wpAny_bind (HT.slicePart_ ps ?_)
  have k0 : ¬ ((k == 0) = true) := fun z => by
    have := eq_of_beq z
    rcases hk with rfl | rfl <;> cases this
  show wpAny _ _ (if (k == 0) = true then _ else _) _ _ s
  rw [if_neg k0]
  refine wpAny_bind (HT.slicePart_ pl (wpAny_bind (HT.slicePart_ pu (wpAny_bind (wpAny_pure ?_)))))
  show wpAny _ _ (match Builtin.Slice.sliceAdjust none none k (n : Int) with | (lo, hi) => pure (lo, k, Builtin.Slice.slicePlaces lo hi k)) _ _ s
  rcases hk with rfl | rfl
  · have e : Builtin.Slice.slicePlaces 0 (n : Int) 1 = n := by
      have := HT.places_gen 0 n
      rw [Nat.sub_zero] at this
      exact this
    show wpAny _ _ (pure ((0 : Int), (1 : Int), Builtin.Slice.slicePlaces 0 (n : Int) 1)) _ _ s
    rw [e]
    exact wpAny_pure h
  · have e : Builtin.Slice.slicePlaces ((n : Int) - 1) (-1) (-1) = n := by
      unfold Builtin.Slice.slicePlaces
      have h1 : ¬ ((-1 : Int) > 0) := by decide
      rw [if_neg h1]
      by_cases hn : ((n : Int) - 1) > -1
      · rw [if_pos hn, show (-(-1) : Int) = 1 by decide, Int.ediv_one]
        omega
      · rw [if_neg hn]
        omega
    show wpAny _ _ (pure ((n : Int) - 1, (-1 : Int), Builtin.Slice.slicePlaces ((n : Int) - 1) (-1) (-1))) _ _ s
    rw [e]
    exact wpAny_pure h
theorem fm_congr {α β : Type} {f g : α → Option β} : ∀ {l : List α}, (∀ x ∈ l, f x = g x) → l.filterMap f = l.filterMap g
  | [], _ => rfl
  | x :: l, h => by
    rw [List.filterMap_cons, List.filterMap_cons, h x List.mem_cons_self, fm_congr fun y hy => h y (List.mem_cons_of_mem _ hy)]
theorem pick_rev (xs : Array Value) : ((List.range xs.size).filterMap fun (m : Nat) => xs[((xs.size : Int) - 1 + (m : Int) * -1).toNat]?).toArray = xs.toList.reverse.toArray := by
  have e : ((List.range xs.size).filterMap fun (m : Nat) => xs[((xs.size : Int) - 1 + (m : Int) * -1).toNat]?) = ((List.range xs.size).map fun k => xs.size - 1 - k).filterMap (xs[·]?) := by
    rw [List.filterMap_map]
    refine fm_congr fun m hm => ?_
    have hm := List.mem_range.mp hm
    have : ((xs.size : Int) - 1 + (m : Int) * -1).toNat = xs.size - 1 - m := by omega
    rw [this]
    rfl
  rw [e, PySem.W.krv_range, List.filterMap_reverse, PySem.W.krv_all]
theorem tup_step {t sl : Addr} {items : Array Value} {vl vu vs : Value} {k : Int} {Q : Value → Shared → Prop} (ht : IsTup s.heap t items) (hs : s.heap.IsSliceOf sl vl vu vs) (pl : IsPart vl none) (pu : IsPart vu none) (ps : IsPart vs (some k)) (hk : StepOk k)
    (h1 : k = 1 → Q (.ref t) s) (h2 : k = -1 → Q (.ref s.heap.objs.size) { s with heap := s.heap.push { cls := .type "tuple", data := .seq items.toList.reverse.toArray } }) (hz : items.size ≤ sizeLine) :
    wpAny (model prog w) A (getItem (.ref t) (.ref sl)) Q E s := by
  obtain ⟨os, hos, hcs, hds⟩ := id hs
  have ty : s.TypeIs (.ref sl) "slice" := ⟨os, hos, hcs⟩
  have ok : sizeOk (.seq items.toList.reverse.toArray) := by
    show items.toList.reverse.toArray.size ≤ sizeLine
    rw [List.size_toArray, List.length_reverse, Array.length_toList]
    exact hz
  unfold getItem
  try with_reducible refine wpAny_holding ?_
  first | refine wpAny_bind (wpAny_pure ?_) | skip
  refine wpAny_bind (wpAny_sequenceKey ht.typeIs (by decide) ?_)
  refine wpAny_bind (wpAny_callSpecial?_slot (name := Str.ofString "__getitem__") ht.typeIs PyProof.Rows.slot_tuple_getitem (wpAny_call_entry PyProof.Rows.slot_tuple_getitem ht.typeIs
    entry_tuple_getitem ?_ (args_tuple_getitem _ _)))
  show wpAny _ _ (Builtin.Tuple.tupleItemsOf (.ref t) >>= _) _ _ s
  refine wpAny_bind (tupleItemsOf_ ht (wpAny_bind (wpAny_typeOf ty ?_)))
  rw [if_pos (by decide)]
  refine wpAny_bind (applied_k hs pl pu ps hk ?_)
  rcases hk with rfl | rfl
  · have yes : ((0 : Int) == 0 && (1 : Int) == 1 && items.size == items.size) = true := by simp
    show wpAny _ _ (if ((0 : Int) == 0 && (1 : Int) == 1 && items.size == items.size) = true then _ else _) _ _ s
    rw [if_pos yes]
    refine wpAny_bind ?_
    show wpAny _ _ (typeOf (.ref t) >>= fun T => pure (T == .type "tuple")) _ _ s
    refine wpAny_bind (wpAny_typeOf ht.typeIs (wpAny_pure ?_))
    have q := h1 rfl
    first
      | rw [if_pos (by decide)]
      | simp only [beq_self_eq_true, if_true]
    first
      | exact wpAny_bind (wpAny_rule (wpAny_pure ⟨_, rfl, wpAny_pure q⟩))
      | exact wpAny_bind (wpAny_rule (wpAny_bind (wpAny_pure (wpAny_pure ⟨_, rfl, wpAny_pure q⟩))))
  · have no : ¬ ((((items.size : Int) - 1) == 0 && (-1 : Int) == 1 && items.size == items.size) = true) := by
      rw [show ((-1 : Int) == 1) = false by decide]
      simp
    show wpAny _ _ (if (((items.size : Int) - 1) == 0 && (-1 : Int) == 1 && items.size == items.size) = true then _ else _) _ _ s
    rw [if_neg no]
    have e : (List.filterMap (fun (m : Nat) => items[((if (-1 : Int) = 1 then 0 else (items.size : Int) - 1) + (m : Int) * -1).toNat]?) (List.range items.size)).toArray = items.toList.reverse.toArray := pick_rev items
    rw [e]
    have q := h2 rfl
    first
      | exact wpAny_bind (m := Builtin.Tuple.tupleExact _) (wpAny_newObj_type (wpAny_pure ⟨_, rfl, wpAny_pure q⟩) ok)
      | exact wpAny_bind (m := Builtin.Tuple.tupleExact _) (wpAny_newObj_type (wpAny_bind (wpAny_pure (wpAny_pure ⟨_, rfl, wpAny_pure q⟩))) ok)
      | exact wpAny_bind (wpAny_bind (m := Builtin.Tuple.tupleExact _) (wpAny_newObj_type (wpAny_pure (wpAny_pure ⟨_, rfl, wpAny_pure q⟩)) ok))
      | exact wpAny_bind (wpAny_bind (m := Builtin.Tuple.tupleExact _) (wpAny_newObj_type (wpAny_pure ⟨_, rfl, wpAny_pure q⟩) ok))
theorem pick_one (xs : Array Value) : slicePick xs none none (some 1) = xs.toList.toArray := by
  unfold slicePick
  have e : sliceBounds none none (some 1) xs.size = (0, (xs.size : Int), 1) := rfl
  rw [e]
  have r : sliceRange 0 (xs.size : Int) 1 = List.range xs.size := by
    have := sliceRange_one 0 xs.size
    rw [Nat.sub_zero] at this
    refine this.trans ?_
    rw [show ((0 + ·) : Nat → Nat) = id from funext fun k => Nat.zero_add k, List.map_id]
  show ((sliceRange 0 (xs.size : Int) 1).filterMap (xs[·]?)).toArray = _
  rw [r, PySem.W.krv_all]
end
/-- e[::k] -/
def wStep (o u : Opd) : WE := fun X σd Q => wO o X σd fun a σ1 => wO u X σ1 fun c σ2 => ∃ d k, rs σ2 a = some d ∧ rs σ2 c = some (.int k) ∧ StepOk k ∧ match d with
  | .list l => Q (.f (.list (byStep l k))) σ2
  | .tuple l => Q (.d (.tuple (byStep l k))) σ2
  | _ => False
theorem byStep_dpa {K : PySem.W.Frag} {F : Hp} {vs : List V} {ds : List D} (h : DpAll K F vs ds) (k : Int) : DpAll K F (byStep vs k) (byStep ds k) := by
  unfold byStep
  split
  · exact h
  · exact dpa_rev h
section
variable {X : Cx} {E : XK} {e st : Expr} {p3 pos : Pos}
theorem de_step {o u : Opd} (he : DO X E e o) (hk : DO X E st u) : DE X E (.Subscript e (.Slice none none (some st) p3) pos) (wStep o u) := by
  refine ⟨fun pins s σ H Q I ⟨b, F, σd, W, Qd, I0, x, h, q⟩ => ?_⟩
  refine Subscript_ (thn (he.run pins s σ H _ I (tO_run I0 x h fun v H1 F1 av σ1 I1 g1 r1 h1 => show ∃ F1 σ1 av, Iv X.K b F1 H1 σ σ1 ∧ Grow F F1 ∧ AVr X.K F1 σ v av ∧ wO u W σ1 _ from ⟨F1, σ1, av, I1, g1, r1, h1⟩))
    fun v s1 ⟨y, H1, J1, rv, F1, σ1, av, I1, g1, r1, h1⟩ => ?_)
  refine wpAny_Slice (thn (po_none.run pins s1 σ H1 (fun o H2 => o = none ∧ H2 = H1) J1 ⟨rfl, rfl⟩) fun vl s2 ⟨l, H2, J2, pl, el, e2⟩ => ?_)
  subst el e2
  refine thn (po_none.run pins s2 σ H2 (fun o H3 => o = none ∧ H3 = H2) J2 ⟨rfl, rfl⟩) fun vu s3 ⟨u', H3, J3, pu, eu, e3⟩ => ?_
  subst eu e3
  have hst : PO X (some st) (tPart (tO X.K X.mg E u)) := po_some hk
  refine thn (hst.run pins s3 σ H3 (fun o H4 => ∃ k F2 σ2 d, o = some k ∧ Iv X.K b F2 H4 σ σ2 ∧ Grow F F2 ∧ BV X.K F2 H4 y d ∧ StepOk k ∧ (match d with
    | .list l => Qd (.f (.list (byStep l k))) σ2
    | .tuple l => Qd (.d (.tuple (byStep l k))) σ2
    | _ => False)) J3 (tO_run I1 x h1 fun w H4 F2 aw σ2 I2 g2 r2 ⟨d, k, e1, e2, hk, h2⟩ => ⟨k, (I2.bv r2 e2).int, k, F2, σ2, d, rfl, I2, g1.trans g2, I2.bv (r1.mono g2) e1, hk, h2⟩)) fun vs s4 ⟨o, H4, J4, ps, k, F2, σ2, d, eo, I2, g2, bv, hk, h2⟩ => ?_
  subst eo
  have J5 : Inv X pins σ H4 { s4 with heap := s4.heap.push { cls := .type "slice", data := .fields #[vl, vu, vs] } } := J4.kept (t' := s4.toks) fun b ob q => Heap.get?_push_of_some _ q
  show wpAny (model X.prog X.w) X.A (subscriptTail e (.Slice none none (some st) p3) v (.ref s4.heap.objs.size)) (EP X pins σ Q) X.xe { s4 with heap := s4.heap.push { cls := .type "slice", data := .fields #[vl, vu, vs] } }
  have so := Heap.IsSliceOf.new s4.heap vl vu vs
  split at h2
  · rename_i l
    obtain ⟨a, xs, rfl, s1', s2'⟩ := bv.lst I2.toExt
    cases rv
    obtain ⟨its, r, pl', hz⟩ := J5.list s1'
    have hsz : its.toArray.size ≤ sizeLine := by
      rw [List.size_toArray, ← r.length]
      exact hz
    refine tail_any (ops := [.ref a, .ref s4.heap.objs.size]) pl'.isList.typeIs PySem.slot_list_getitem.lookup ?_ (by with_unfolding_all rfl)
    refine wpAny_getItem_list_slice pl'.isList so pl pu ps (fun z => by
      rcases hk with rfl | rfl <;> cases z) ?_ hsz
    have pick : slicePick its.toArray none none (some k) = (byStep its k).toArray := by
      rcases hk with rfl | rfl
      · rw [pick_one]; rfl
      · rw [PySem.W.krv_pick]; rfl
    rw [pick]
    have rr : Vals (byStep xs k) (byStep its k) := by
      unfold byStep
      split
      · exact r
      · exact r.reverse
    have hn := J5.hok.fresh (Nat.le_refl _)
    refine ⟨.ref _, _, J5.laid (t' := s4.toks) (o := .lst (byStep xs k)) (fun b ob q => Heap.get?_push_of_some _ q) (Nat.le_refl _) ⟨?_, _, 0, rr, Heap.get?_push_size _ rfl⟩, rfl, q _ _ F2 (.f (.list _)) σ2 (I2.laid _ hn) g2 ⟨_, rfl, I2.fr1 hn (byStep_dpa s2' k)⟩ h2⟩
    have : (byStep xs k).length = xs.length := by
      unfold byStep
      split
      · rfl
      · exact List.length_reverse
    rw [this]
    exact hz
  · rename_i l
    obtain ⟨a, xs, rfl, s0, s1', s2'⟩ := bv.tup I2.toExt
    cases rv
    obtain ⟨its, r, pt, hz⟩ := J5.tuple s1'
    have hsz : its.toArray.size ≤ sizeLine := by
      rw [List.size_toArray, ← r.length]
      exact hz
    refine tail_any (ops := [.ref a, .ref s4.heap.objs.size]) pt.typeIs PyProof.Rows.slot_tuple_getitem.lookup ?_ (by with_unfolding_all rfl)
    refine tup_step pt so pl pu ps hk (fun z => ?_) (fun z => ?_) hsz
    · subst z
      exact ⟨.ref a, H4, J5, rfl, q _ _ F2 (.d (.tuple _)) σ2 I2 g2 (Dp.tup s0 s2') h2⟩
    · subst z
      have hn := J5.hok.fresh (Nat.le_refl _)
      refine ⟨.ref _, _, J5.laid (t' := s4.toks) (o := .tup xs.reverse) (fun b ob q => Heap.get?_push_of_some _ q) (Nat.le_refl _) ⟨?_, _, r.reverse, IsTup.new _ _⟩, rfl,
        q _ _ (upd F2 _ (.tup xs.reverse)) (.d (.tuple _)) σ2 (I2.alloc _ hn) (g2.trans (I2.growq _ hn)) (Dp.tup (.inl (.inl upd_same)) (dpa_mono (I2.growq _ hn) (dpa_rev s2'))) h2⟩
      rw [List.length_reverse]
      exact hz
  · exact h2.elim
end
end DL
end L2
set_option Elab.async false
set_option maxRecDepth 100000
set_option maxHeartbeats 1000000
/-! The data layer, part 10: from the tree of an expression to what it does. -/
namespace L2
open PySem PySem.Spec PyProof.Rows
namespace DL

/-! ### more operations -/
def pIs (neg : Bool) : P2 := fun d e Q => match e with
  | .none => isDct d = false ∧ Q (.d (.bool (if neg then !isN d else isN d)))
  | .bool k => ∃ j, d = .bool j ∧ Q (.d (.bool (if neg then !decide (j = k) else decide (j = k))))
  | _ => False
abbrev rIs2 : R2 := fun x y H Q => (y = .non ∧ Q (.bl (decide (x = .non))) H) ∨ rIsB x y H Q
abbrev rNotIs2 : R2 := fun x y H Q => (y = .non ∧ Q (.bl (!decide (x = .non))) H) ∨ rNotB x y H Q
theorem ok_is {K : PySem.W.Frag} : P2Ok K rIs2 (pIs false) := by
  intro b F H σ σd x y d e Q Qd I rx ry h q
  unfold pIs at h
  split at h
  · exact .inl (ok_isN b F H σ σd x y d .none Q Qd I rx ry ⟨h.1, rfl, h.2⟩ q)
  · obtain ⟨j, rfl, h⟩ := h
    rw [rx.bool, ry.bool]
    exact .inr ⟨_, _, rfl, rfl, q.same I (.bl _) h⟩
  · exact h.elim
theorem ok_isnot {K : PySem.W.Frag} : P2Ok K rNotIs2 (pIs true) := by
  intro b F H σ σd x y d e Q Qd I rx ry h q
  unfold pIs at h
  split at h
  · exact .inl (ok_notN b F H σ σd x y d .none Q Qd I rx ry ⟨h.1, rfl, h.2⟩ q)
  · obtain ⟨j, rfl, h⟩ := h
    rw [rx.bool, ry.bool]
    exact .inr ⟨_, _, rfl, rfl, q.same I (.bl _) h⟩
  · exact h.elim
/-- tuple * int, any number of times that fits -/
def rRepW (K : PySem.W.Frag) : R2 := fun x y H Q => ∃ l k xs, x = .ref l ∧ y = .int k ∧ SqT K H l xs ∧ xs ≠ [] ∧ 2 ≤ k ∧ k.toNat * xs.length ≤ sizeLine ∧ ∀ p, H p = none → Q (.ref p) (upd H p (.tup (List.replicate k.toNat xs).flatten))
theorem op_repW {X : Cx} : OpR X (binaryOp .Mult) (rRepW X.K) := by
  intro pins s σ H x y v u Q I rx ry h
  obtain ⟨l, k, xs, rfl, rfl, hT, hne, h1, hz, q⟩ := h
  cases rx
  obtain ⟨t, rfl⟩ := ry
  obtain ⟨its, r, ⟨⟨cls, dd, data, sl⟩, ho, hc, n, hd⟩, hs⟩ := I.tuple hT
  simp only at hc hd
  subst hc hd
  have hle : its.length = xs.length := r.length.symm
  have hpos : 0 < xs.length := by
    cases xs with
    | nil => exact absurd rfl hne
    | cons a b => exact Nat.succ_pos _
  have hi : its.toArray.isEmpty = false := by
    cases its with
    | nil =>
      rw [← hle] at hpos
      exact absurd hpos (by simp)
    | cons a b => rfl
  have hsz0 : its.toArray.size = xs.length := by rw [List.size_toArray, hle]
  have hk : k.toNat ≤ sizeLine := Nat.le_trans (Nat.le_mul_of_pos_right _ hpos) hz
  rw [sizeLine_eq] at hz hk
  have hm : ((its.toArray.size : Nat) : Int) * k = ((k.toNat * xs.length : Nat) : Int) := by
    rw [hsz0, Int.natCast_mul, Int.toNat_of_nonneg (by omega), Int.mul_comm]
  have c0 : (decide (k < -(2 ^ 63)) || decide (k ≥ 2 ^ 63)) = false := by
    rw [decide_eq_false (by omega), decide_eq_false (by omega)] <;> rfl
  have c1 : (its.toArray.isEmpty || k == 1) = false := by
    rw [hi, Bool.false_or]
    exact beq_eq_false_iff_ne.mpr (by omega)
  have c2 : (decide (k ≤ 0) || its.toArray.isEmpty) = false := by
    rw [hi, Bool.or_false]
    exact decide_eq_false (by omega)
  have c4 : Builtin.Tuple.tupleTooMany (((its.toArray.size : Nat) : Int) * k) = false := by
    unfold Builtin.Tuple.tupleTooMany
    rw [hm, sizeLine_eq]
    exact decide_eq_false (by omega)
  have flen : (List.replicate k.toNat its).flatten.length ≤ sizeLine := by
    rw [PyProof.Rows.lm_len_rep_flat, hle, sizeLine_eq]
    exact hz
  refine wpAny_binaryOp_repeat_ref (T := "tuple") (U := "int") (by decide) ⟨_, ho, rfl⟩ (fun s' => typeIs_int s' k t) noFill_tuple_mul F.fills_int_mul F.slot_int_rmul repeat_tuple F.slot_int_index.lookup
    (call_meets F.slot_int_rmul (typeIs_int s k t) F.entry_int_rmul (F.args_int_rmul_2 _ _) (int_rmul_tuple k t l its.toArray n dd sl)
      ⟨ho, rfl, ⟨_, ho, rfl⟩, call_meets F.slot_tuple_mul ⟨_, ho, rfl⟩ F.entry_tuple_mul (F.args_tuple_mul_2 _ _)
        (tuple_mulW l its.toArray n dd sl k t c0 c1 c2 (by rw [hm]; omega) c4 (by rw [size_rep, List.size_toArray]; exact flen)) ⟨ho, ?_⟩⟩)
  rw [size_rep]
  refine ⟨.ref s.heap.objs.size, _, I.laid (t' := s.toks) (o := .tup (List.replicate k.toNat xs).flatten) (fun b ob q => Heap.get?_push_of_some _ q) (Nat.le_refl _) ?_, rfl, q _ (I.hok.fresh (Nat.le_refl _))⟩
  refine ⟨?_, _, r.rep k.toNat, IsTup.new _ _⟩
  rw [PyProof.Rows.lm_len_rep_flat, sizeLine_eq]
  exact hz
def pMulA : P2
  | .int i, .int j, Q => IntMulOk i j ∧ Q (.d (.int (i * j)))
  | .tuple l, .int k, Q => l ≠ [] ∧ 2 ≤ k ∧ k.toNat * l.length ≤ sizeLine ∧ Q (.d (.tuple (List.replicate k.toNat l).flatten))
  | _, _, _ => False
abbrev rMulA (K : PySem.W.Frag) : R2 := fun x y H Q => rI IntMulOk (fun i j => .int (i * j)) x y H Q ∨ rRepW K x y H Q
theorem rep_dpa {K : PySem.W.Frag} {F : Hp} {vs : List V} {ds : List D} (h : DpAll K F vs ds) : ∀ k : Nat, DpAll K F (List.replicate k vs).flatten (List.replicate k ds).flatten
  | 0 => .nil
  | k + 1 => by
    rw [List.replicate_succ, List.replicate_succ, List.flatten_cons, List.flatten_cons]
    exact dpa_app h (rep_dpa h k)
theorem ok_mulA {K : PySem.W.Frag} : P2Ok K (rMulA K) pMulA := by
  intro b F H σ σd x y d e Q Qd I rx ry h q
  unfold pMulA at h
  split at h
  · rw [rx.int, ry.int]
    exact .inl ⟨_, _, rfl, rfl, h.1, q.same I (.int _) h.2⟩
  · obtain ⟨h1, h2, h3, h⟩ := h
    obtain ⟨a, xs, rfl, _, s1, s2⟩ := rx.tup I.toExt
    rw [ry.int]
    refine .inr ⟨a, _, xs, rfl, rfl, s1, fun z => ?_, h2, by rw [dpa_len s2]; exact h3, fun p hp => q.tup I hp (rep_dpa s2 _) h⟩
    subst z
    cases s2
    exact h1 rfl
  · exact h.elim

/-! ### the static part -/
/-- what a global name stands for -/
inductive GE where
  | fn (fi : FI)
  | fnZ (fi : FI) (j : Nat)
  | blt
  | cst (d : D)
  | exc
structure Sx where
  sc : Scope
  N : List Str
  fnc : Str → Bool
  G : List (Str × GE)
def kindB (sc : Scope) (x : Str) (k : NameKind) : Bool := decide (sc.names.lookup x = some k)
def visB (sc : Scope) (x : Str) : Bool := (kindB sc x .local || (kindB sc x .cell || kindB sc x .free)) && (!(x == ("__debug__" : Str)) && !(x == ("__classdict__" : Str)))
def ixOf : List Str → Str → Option Nat
  | [], _ => none
  | y :: r, x => if y = x then some 0 else (ixOf r x).map (· + 1)
theorem ixOf_ok : ∀ {N : List Str} {x : Str} {i : Nat}, ixOf N x = some i → N[i]? = some x
  | [], _, _, h => by cases h
  | y :: r, x, i, h => by
    unfold ixOf at h
    split at h
    · cases h
      rename_i e
      rw [e]
      rfl
    · cases e : ixOf r x with
      | none => rw [e] at h; cases h
      | some j =>
        rw [e] at h
        cases h
        rw [List.getElem?_cons_succ]
        exact ixOf_ok e
/-- the slot of a name that may be read -/
def rdIx (S : Sx) (x : Str) : Option Nat := if visB S.sc x = true then ixOf S.N x else none
/-- the slot of a name that may be set -/
def wrIx (S : Sx) (x : Str) : Option Nat := if (kindB S.sc x .local || (kindB S.sc x .cell && S.fnc x)) = true then ixOf S.N x else none
/-- a global name -/
def glE (S : Sx) (x : Str) : Option GE := if (kindB S.sc x .globalImplicit && (!(x == ("__debug__" : Str)) && !decide (x = "__name__"))) = true then S.G.lookup x else none
def isBlt (S : Sx) (x : Str) : Bool := match glE S x with
  | some .blt => true
  | _ => false

def GOk (X : Cx) (x : Str) : GE → Prop
  | .fnZ fi _ => ∃ k f fd ps, FnG X.prog X.w X.K X.mg X.base (L2.CX X.prog X.w) k f fd ps (spD X.K X.mg fi) ∧ Room k X.A ∧ X.mg x = some (.ref f) ∧ PySem.W.keepIn X.K (.ref f) = true ∧ Binds X.K fd ps []
  | .fn fi => ∃ k f fd ps, FnG X.prog X.w X.K X.mg X.base (L2.CX X.prog X.w) k f fd ps (spD X.K X.mg fi) ∧ Room k X.A ∧ X.mg x = some (.ref f) ∧ PySem.W.keepIn X.K (.ref f) = true ∧ Binds X.K fd ps []
  | .blt => X.mg x = none
  | .cst d => ∃ v u, X.mg x = some u ∧ RelV v u ∧ ∀ F, Dp X.K F v d
  | .exc => ∃ C, X.mg x = some (.ref C) ∧ PySem.W.excIn X.K C He.veBase "ValueError.__new__" = true ∧ PySem.W.keepIn X.K (.ref C) = true ∧ Raises X (.ref C)
structure SOk (X : Cx) (E : XK) (S : Sx) : Prop where
  n : X.N = S.N
  sc : X.env.scope = S.sc
  nd : S.N.Nodup
  calm : X.calm = true
  fnc : ∀ x, S.fnc x = true → X.fn x = true
  g : ∀ x y, S.G.lookup x = some y → GOk X x y
  units : X.A.units + 64 < cLine
  gd : X.A.guards = some []
  pas : Passes (L2.CX X.prog X.w) X E

section
variable {X : Cx} {E : XK} {S : Sx} (o : SOk X E S) {x : Str}
include o
theorem SOk.rd {i : Nat} (h : rdIx S x = some i) : X.N[i]? = some x ∧ Vis X.env.scope x ∧ (x == ("__debug__" : Str)) = false ∧ (x == ("__classdict__" : Str)) = false := by
  unfold rdIx at h
  split at h
  · rename_i hv
    unfold visB kindB at hv
    simp only [Bool.and_eq_true, Bool.or_eq_true, decide_eq_true_eq, Bool.not_eq_true'] at hv
    rw [o.n, o.sc]
    exact ⟨ixOf_ok h, hv.1, hv.2.1, hv.2.2⟩
  · cases h
theorem SOk.wr {i : Nat} (h : wrIx S x = some i) : X.N[i]? = some x ∧ Loc X.env.scope x ∧ (X.fn x = true ∨ X.env.scope.names.lookup x = some .local) := by
  unfold wrIx at h
  split at h
  · rename_i hv
    unfold kindB at hv
    simp only [Bool.and_eq_true, Bool.or_eq_true, decide_eq_true_eq] at hv
    rw [o.n, o.sc]
    refine ⟨ixOf_ok h, ?_, ?_⟩
    · rcases hv with hv | hv
      · exact .inl hv
      · exact .inr hv.1
    · rcases hv with hv | hv
      · exact .inr hv
      · exact .inl (o.fnc x hv.2)
  · cases h
theorem SOk.gl {y : GE} (h : glE S x = some y) : Gl X x ∧ GOk X x y ∧ (x == ("__debug__" : Str)) = false ∧ x ≠ "__name__" := by
  unfold glE at h
  split at h
  · rename_i hv
    unfold kindB at hv
    simp only [Bool.and_eq_true, decide_eq_true_eq, Bool.not_eq_true', decide_eq_false_iff_not] at hv
    refine ⟨?_, o.g x y h, hv.2.1, hv.2.2⟩
    unfold Gl Env.kindOf
    rw [o.sc]
    exact hv.1
  · cases h
theorem SOk.blt (h : isBlt S x = true) : Gl X x ∧ X.mg x = none ∧ (x == ("__debug__" : Str)) = false ∧ x ≠ "__name__" := by
  unfold isBlt at h
  split at h
  · rename_i e
    exact o.gl e
  · cases h
end

/-! ### trees -/
def noStar : Expr → Bool
  | .Starred .. => false
  | _ => true
theorem star_of {e : Expr} (h : noStar e = true) (es : List Expr) (env : Env) : starEach (e :: es) env = (false, eval e env) :: starEach es env := by
  cases e <;> first | rfl | cases h
theorem stars_false {env : Env} {pos : Pos} : ∀ {es : List Expr}, es.all noStar = true → (backTo pos (starEach es env)).any (·.1) = false
  | [], _ => rfl
  | e :: es, h => by
    rw [List.all_cons, Bool.and_eq_true] at h
    rw [star_of h.1]
    show (false || (backTo pos (starEach es env)).any (·.1)) = false
    rw [stars_false h.2]
    rfl
def noSlice : Expr → Bool
  | .Slice .. => false
  | _ => true
theorem plain_ix {e : Expr} (h : noSlice e = true) : PlainIx e := by
  intro o i
  cases e <;> first | rfl | cases h
def noSet : Expr → Bool
  | .Set .. => false
  | _ => true
theorem marks_of {op : CmpOp} {e : Expr} (h : noSet e = true) : behindInMarks op e = false := by
  cases e <;> first | rfl | cases h
theorem marks2_of {op op' : CmpOp} {c e : Expr} (h : noSet e = true) : lastMarks [op, op'] [c, e] = false := by
  show behindInMarks op' e = false
  exact marks_of h
theorem folded_of {e : Expr} (h : noSet e = true) (env : Env) (x : Value) : foldedSetIterable e env x = pure x := by
  cases e <;> first | rfl | cases h
/-- a test that is no not, and, or, if, comparison -/
def plainT : Expr → Bool
  | .UnaryOp .Not _ _ => false
  | .BoolOp .. => false
  | .IfExp .. => false
  | .Compare .. => false
  | _ => true
theorem isTrue_of {e : Expr} (h : plainT e = true) (env : Env) (whole : Sem Value) : isTrue e env whole = (do let v ← whole; standAt e.pos; holding [v] (truthy v)) := by
  cases e with
  | UnaryOp op a p => cases op <;> first | rfl | cases h
  | _ => first | rfl | cases h

/-- what a comparison does -/
def cmpP : CmpOp → Option P2
  | .Eq => some pEq
  | .NotEq => some pNe
  | .Lt => some pLt
  | .LtE => some pLe
  | .Gt => some pGt
  | .GtE => some pGe
  | .Is => some (pIs false)
  | .IsNot => some (pIs true)
  | .In => some (pIn false)
  | .NotIn => some (pIn true)
theorem cmp_ok {X : Cx} (hu : X.A.units + 64 < cLine) {op : CmpOp} {p : P2} (h : cmpP op = some p) : ∃ r, OpR X (compareOp op) r ∧ P2Ok X.K r p := by
  cases op <;> cases h
  · exact ⟨_, op_eqM hu, ok_eq⟩
  · exact ⟨_, op_neM hu, ok_ne⟩
  · exact ⟨_, op_lt, ok_b⟩
  · exact ⟨_, op_le, ok_b⟩
  · exact ⟨_, op_gt, ok_b⟩
  · exact ⟨_, op_ge, ok_b⟩
  · exact ⟨_, op_isN.or op_isBl, ok_is⟩
  · exact ⟨_, op_notN.or op_notBl, ok_isnot⟩
  · exact ⟨_, op_in_seq, ok_in⟩
  · exact ⟨_, op_notIn_seq, ok_in⟩
def binP : Operator → Option P2
  | .Add => some pAdd
  | .Sub => some pSub
  | .Mult => some pMulA
  | .FloorDiv => some pFdiv
  | .Mod => some pMod
  | .Pow => some pPow
  | _ => none
theorem bin_ok {X : Cx} {op : Operator} {p : P2} (h : binP op = some p) : ∃ r, OpR X (binaryOp op) r ∧ P2Ok X.K r p := by
  cases op <;> cases h
  · exact ⟨_, op_addD, ok_add⟩
  · exact ⟨_, op_sub, ok_i⟩
  · exact ⟨_, op_mulA.or op_repW, ok_mulA⟩
  · exact ⟨_, op_modN, ok_ic⟩
  · exact ⟨_, op_pow, ok_ic⟩
  · exact ⟨_, op_fdivA, ok_ic⟩
/-- repr of a list or a tuple -/
def pRepr : PL
  | [d], Q => (match d with
    | .list _ => True
    | .tuple _ => True
    | _ => False) ∧ d.showable = true ∧ d.hasDict = false ∧ d.depth ≤ 60 ∧ d.shown.length ≤ sizeLine ∧ Q (.d (.str d.shown))
  | _, _ => False
theorem no_dct {d : D} (h : d.hasDict = false) : ∀ kvs, d ≠ .dict kvs := fun kvs e => by
  subst e
  simp [PyData.hasDict] at h
theorem ok_repr {K : PySem.W.Frag} : PLOk K (rRepr K) pRepr := by
  intro b F H σ σd xs ds Q Qd I rx h q
  unfold pRepr at h
  split at h
  · rename_i d
    obtain ⟨x, hxs, rz⟩ := bvs_one rx
    subst hxs
    obtain ⟨hk, hs, hn, dp, hz, hq⟩ := h
    have hd := rz.dp I.toExt (no_dct hn)
    have ha : ∃ a, x = .ref a := by
      split at hk
      · obtain ⟨a, _, e, _⟩ := rz.lst I.toExt
        exact ⟨a, e⟩
      · obtain ⟨a, _, e, _⟩ := rz.tup I.toExt
        exact ⟨a, e⟩
      · exact hk.elim
    obtain ⟨a, rfl⟩ := ha
    exact ⟨a, d, rfl, hd, hs, hn, dp, hz, q.same I (.str _) hq⟩
  · exact h.elim
/-- a built-in function of values -/
def bltP (x : Str) : Option PL :=
  if x = "len" then some pLen else if x = "abs" then some pAbs else if x = "sum" then some pSum else if x = "any" then some pAny else if x = "all" then some pAll else if x = "max" then some pMax
  else if x = "min" then some pMin else if x = "sorted" then some pSorted else if x = "int" then some pInt else if x = "list" then some pList else if x = "tuple" then some pTup else if x = "repr" then some pRepr else none
theorem blt_ok {X : Cx} (hc : X.calm = true) (gd : X.A.guards = some []) (hu : X.A.units + 64 < cLine) {x : Str} {p : PL} (h : bltP x = some p) :
    (∃ id r, CallR X (.builtin id) r ∧ PLOk X.K r p ∧ bootBuiltins x = some (.builtin id)) ∨ (∃ T r, CallR X (.type T) r ∧ PLOk X.K r p ∧ bootBuiltins x = some (.type T)) := by
  unfold bltP at h
  split at h
  · rename_i e; subst e; cases h; exact .inl ⟨_, _, call_len, ok_len, PySem.boot_len⟩
  split at h
  · rename_i e; subst e; cases h; exact .inl ⟨_, _, call_abs, ok_abs, boot_abs⟩
  split at h
  · rename_i e; subst e; cases h; exact .inl ⟨_, _, cr_sum hc, ok_sum, boot_sum⟩
  split at h
  · rename_i e; subst e; cases h; exact .inl ⟨_, _, cr_any hc, ok_any, boot_any⟩
  split at h
  · rename_i e; subst e; cases h; exact .inl ⟨_, _, cr_all hc, ok_all, boot_all⟩
  split at h
  · rename_i e; subst e; cases h; exact .inl ⟨_, _, cr_maxA hc, ok_max, boot_max⟩
  split at h
  · rename_i e; subst e; cases h; exact .inl ⟨_, _, cr_minA hc, ok_min, boot_min⟩
  split at h
  · rename_i e; subst e; cases h; exact .inl ⟨_, _, cr_srt hc, ok_sorted, boot_sorted⟩
  split at h
  · rename_i e; subst e; cases h; exact .inr ⟨_, _, call_int1, ok_int, PyProof.Rows.boot_int⟩
  split at h
  · rename_i e; subst e; cases h; exact .inr ⟨_, _, call_list_of, ok_list, PyProof.Rows.boot_list⟩
  split at h
  · rename_i e; subst e; cases h; exact .inr ⟨_, _, call_tuple_of, ok_tup, PyProof.Rows.boot_tuple⟩
  split at h
  · rename_i e; subst e; cases h; exact .inl ⟨_, _, call_repr gd hu, ok_repr, PyProof.Rows.boot_repr⟩
  · cases h
/-- the name of a built-in class that isinstance asks for -/
def tyName (x : Str) : Option String := if x = "int" then some "int" else if x = "bool" then some "bool" else if x = "str" then some "str" else if x = "tuple" then some "tuple" else if x = "list" then some "list" else none
theorem tyName_ok {x : Str} {T : String} (h : tyName x = some T) : (T = "int" ∨ T = "bool" ∨ T = "str" ∨ T = "tuple" ∨ T = "list") ∧ bootBuiltins x = some (.type T) := by
  unfold tyName at h
  split at h
  · rename_i e; subst e; cases h; exact ⟨.inl rfl, PyProof.Rows.boot_int⟩
  split at h
  · rename_i e; subst e; cases h; exact ⟨.inr (.inl rfl), PyProof.Rows.boot_bool⟩
  split at h
  · rename_i e; subst e; cases h; exact ⟨.inr (.inr (.inl rfl)), PyProof.Rows.boot_str⟩
  split at h
  · rename_i e; subst e; cases h; exact ⟨.inr (.inr (.inr (.inl rfl))), PyProof.Rows.boot_tuple⟩
  split at h
  · rename_i e; subst e; cases h; exact ⟨.inr (.inr (.inr (.inr rfl))), PyProof.Rows.boot_list⟩
  · cases h
end DL
end L2
set_option Elab.async false
set_option maxRecDepth 100000
set_option maxHeartbeats 1000000
/-! The data layer, part 11: the reading of an expression's tree, and that it holds. -/
namespace L2
open PySem PySem.Spec PyProof.Rows
namespace DL

section
variable {X : Cx} {E : XK} {x : Str} {k : Nat} {f : Addr} {fd : FuncData} {ps : List Str} {p pos : Pos}
theorem de_call0 {fi : FI} (gd : X.A.guards = some []) (F : FnG X.prog X.w X.K X.mg X.base (L2.CX X.prog X.w) k f fd ps (spD X.K X.mg fi)) (hr : Room k X.A) (hg : Gl X x) (hm : X.mg x = some (.ref f)) (hk : PySem.W.keepIn X.K (.ref f) = true) (hb : Binds X.K fd ps []) (hx : Passes (L2.CX X.prog X.w) X E)
    (hdb : (x == ("__debug__" : Str)) = false) : DE X E (.Call (.Name x p) [] [] pos) (wCall fi []) :=
  (pe_call0G F gd hr hg hm hk hb hx hdb).imp fun _ _ _ h => call_ok h
end

abbrev EvR := Sx → (Expr → WE) × (Expr → WT)
def opr (S : Sx) (E : Expr → WE) (e : Expr) : Opd := match e with
  | .Name x _ => match rdIx S x with
    | some i => .br i
    | none => .ex (E e)
  | e => .ex (E e)
def constE : Const → WE
  | .int i => wC (.int i)
  | .str x => wC (.str x)
  | .bool b => wC (.bool b)
  | .none => wC .none
  | _ => wFalse
def nameE (S : Sx) (x : Str) : WE := match rdIx S x with
  | some i => wN i
  | none => match glE S x with
    | some (.cst d) => wC d
    | _ => wFalse
def boolE (op : BoolOp) : List WE → WE
  | [] => wFalse
  | [w] => w
  | w :: u :: r => match op with
    | .And => weAnd w (boolE op (u :: r))
    | .Or => weOr w (boolE op (u :: r))
def boolT (op : BoolOp) : List WT → WT
  | [] => wtFalse
  | [w] => w
  | w :: u :: r => match op with
    | .And => wtAnd w (boolT op (u :: r))
    | .Or => wtOr w (boolT op (u :: r))
def sbE (S : Sx) (E : Expr → WE) : Option Expr → SlB
  | none => .no
  | some e => .ex (opr S E e)
def wiF : WI := fun _ _ _ => False
def isTup : Expr → Bool
  | .Tuple .. => true
  | _ => false
/-- what is walked -/
def evI (S : Sx) (E : Expr → WE) (tg it : Expr) : WI := match it with
  | .Call (.Name f p) args [] pos => if (isBlt S f && args.all noStar) = true then
      (if f = "range" then (match args with
        | [a] => wiRng1 (opr S E a)
        | [a, c] => wiRng2 (opr S E a) (opr S E c)
        | _ => wiF)
      else if f = "enumerate" then (match args with
        | [a] => if isTup tg = true then wiEnum (E a) else wiF
        | _ => wiF)
      else if f = "zip" then (match args with
        | [a, c] => if isTup tg = true then wiZip (E a) (E c) else wiF
        | _ => wiF)
      else wiSeq (E (.Call (.Name f p) args [] pos)))
    else wiSeq (E (.Call (.Name f p) args [] pos))
  | e => wiSeq (E e)
/-- a target -/
def evG : Nat → Sx → List Nat → Expr → WG
  | 0, _, _, _ => wgF
  | n + 1, S, vs, tg => match tg with
    | .Name x _ => match wrIx S x with
      | some i => if i ∈ vs then wgN i else wgF
      | none => wgF
    | .Tuple es _ _ => if es.all noStar = true then wgT es.length (es.foldr (fun e gs => wgCons (evG n S vs e) gs) wgNil) else wgF
    | _ => wgF
def ownOf (N : List Str) (sc : Scope) : List (Str × Nat) := sc.names.filterMap fun p => if p.2 = .local ∨ p.2 = .cell then (ixOf N p.1).map fun i => (p.1, i) else none
def blkB (sc scope : Scope) : Bool := decide (scope.kind = .function) && ((scope.names.all fun p => decide (scope.names.lookup p.1 = some p.2)) && (scope.names.all fun p => !decide (p.2 = .free) || (kindB sc p.1 .cell || kindB sc p.1 .free)))
def blkS (S : Sx) (scope : Scope) : Sx := { S with sc := relS scope S.sc, fnc := fun x => kindB scope x .cell }
def testsE (T : Expr → WT) : List Expr → WT
  | [] => wtYes
  | [c] => T c
  | _ => wtFalse
def lcE (r : EvR) (S : Sx) (elt tg it : Expr) (ifs : List Expr) (scope : Scope) : WE :=
  if (blkB S.sc scope && noSet it) = true then
    wLc (evI S (r S).1 tg it) ((ownOf S.N scope).map (·.2)) (evG 3 (blkS S scope) ((ownOf S.N scope).map (·.2)) tg) (testsE (r (blkS S scope)).2 ifs) ((r (blkS S scope)).1 elt)
  else wFalse
/-- list(e) -/
def lstE (S : Sx) (E : Expr → WE) (args : List Expr) : WE := match args with
  | [.Call (.Name y p) [a] [] q] => if y = "range" then (if (isBlt S y && noStar a) = true then wLstRg1 (opr S E a) else wFalse) else wL pList [opr S E (.Call (.Name y p) [a] [] q)]
  | [.Call (.Name y p) [a, c] [] q] => if y = "range" then (if (isBlt S y && (noStar a && noStar c)) = true then wLstRg2 (opr S E a) (opr S E c) else wFalse) else wL pList [opr S E (.Call (.Name y p) [a, c] [] q)]
  | [e] => wL pList [opr S E e]
  | _ => wFalse
/-- sorted(e) -/
def srtE (S : Sx) (E : Expr → WE) (args : List Expr) : WE := match args with
  | [.Call (.Name y p) [a] [] q] => if y = "set" then (if (isBlt S y && noStar a) = true then weAlt (wSrtSet (opr S E a)) (wSrtSetP (opr S E a)) else wFalse) else wL pSorted [opr S E (.Call (.Name y p) [a] [] q)]
  | [e] => wL pSorted [opr S E e]
  | _ => wFalse
def isiE (S : Sx) (E : Expr → WE) (args : List Expr) : WE := match args with
  | [a, .Name y _] => (match tyName y with
    | some T => if isBlt S y = true then wIsi T (opr S E a) else wFalse
    | none => wFalse)
  | _ => wFalse
/-- operands of which all but one are frozen -/
def oprsZ (S : Sx) (E : Expr → WE) (j : Nat) : Nat → List Expr → List Opd
  | _, [] => []
  | i, e :: es => (if i = j then opr S E e else .ex (E e)) :: oprsZ S E j (i + 1) es
def callE (S : Sx) (E : Expr → WE) (x : Str) (args : List Expr) : WE :=
  if args.all noStar = true then (match glE S x with
    | some (.fn fi) => wCall fi (args.map (opr S E))
    | some (.fnZ fi j) => wCall fi (oprsZ S E j 0 args)
    | some .blt => if x = "isinstance" then isiE S E args else if x = "list" then lstE S E args else if x = "sorted" then srtE S E args else (match bltP x, args with
      | some p, _ :: _ => wL p (args.map (opr S E))
      | _, _ => wFalse)
    | _ => wFalse)
  else wFalse
def methE (S : Sx) (E : Expr → WE) (x m : Str) (apos cpos : Pos) (args : List Expr) : WE :=
  if (args.all noStar && (apos.endLine == cpos.line)) = true then (match rdIx S x with
    | some i => if m = "append" then (match args with
        | [e] => wApp i (E e)
        | _ => wFalse)
      else if m = "pop" then (match args with
        | [] => wPop i
        | [e] => wPopAt i (opr S E e)
        | _ => wFalse)
      else if m = "index" then (match args with
        | [e] => wIdx i (opr S E e)
        | _ => wFalse)
      else wFalse
    | none => wFalse)
  else wFalse
def subE (S : Sx) (E : Expr → WE) (a ix : Expr) : WE := match ix with
  | .Slice lo hi none _ => wSl (opr S E a) (sbE S E lo) (sbE S E hi)
  | .Slice none none (some st) _ => wStep (opr S E a) (opr S E st)
  | ix => if noSlice ix = true then w2 pIx (opr S E a) (opr S E ix) else wFalse
def cmpE (S : Sx) (E : Expr → WE) (a : Expr) (ops : List CmpOp) (cs : List Expr) : WE := match ops, cs with
  | [op], [c] => if noSet c = true then (match cmpP op with
    | some p => w2 p (opr S E a) (opr S E c)
    | none => wFalse) else wFalse
  | [op, op'], [c, e] => if noSet e = true then (match cmpP op, cmpP op' with
    | some p, some p' => w3 p p' (opr S E a) (opr S E c) (opr S E e)
    | _, _ => wFalse) else wFalse
  | _, _ => wFalse
def stepE (r : EvR) (S : Sx) (e : Expr) : WE := match e with
  | .Constant c _ _ => constE c
  | .Name x _ => nameE S x
  | .BinOp a op c _ => (match binP op with
    | some p => w2 p (opr S (r S).1 a) (opr S (r S).1 c)
    | none => wFalse)
  | .UnaryOp op a _ => (match op with
    | .USub => w1 pNeg (opr S (r S).1 a)
    | .Not => weNot ((r S).1 a)
    | _ => wFalse)
  | .BoolOp op vs _ => boolE op (vs.map (r S).1)
  | .IfExp t a c _ => weIf ((r S).2 t) ((r S).1 a) ((r S).1 c)
  | .Compare a ops cs _ => cmpE S (r S).1 a ops cs
  | .Subscript a ix _ => subE S (r S).1 a ix
  | .Tuple es _ _ => if es.all noStar = true then wTup (es.map fun e => .ex ((r S).1 e)) else wFalse
  | .List es _ => if es.all noStar = true then wLst (es.map fun e => .ex ((r S).1 e)) else wFalse
  | .Dict ks vs _ => (match ks, vs with
    | [], [] => wDnew
    | _, _ => wFalse)
  | .ListComp elt gens scope _ => (match gens with
    | [⟨tg, it, ifs, as⟩] => if as = 0 then lcE r S elt tg it ifs scope else wFalse
    | _ => wFalse)
  | .Call f args kws cpos => (match f, kws with
    | .Name x _, [] => callE S (r S).1 x args
    | .Attribute (.Name x _) m apos, [] => methE S (r S).1 x m apos cpos args
    | _, _ => wFalse)
  | _ => wFalse
def stepT (r : EvR) (S : Sx) (e : Expr) : WT := match e with
  | .UnaryOp .Not a _ => wtNot ((r S).2 a)
  | .BoolOp op vs _ => boolT op (vs.map (r S).2)
  | .Compare a ops cs _ => wtB (cmpE S (r S).1 a ops cs)
  | e => if plainT e = true then wtB (stepE r S e) else wtFalse
def ev : Nat → EvR
  | 0, _ => (fun _ => wFalse, fun _ => wtFalse)
  | n + 1, S => (stepE (ev n) S, stepT (ev n) S)

/-! ### it holds -/
theorem de_cK {X : Cx} {E : XK} {e : Expr} {v : V} {d : D} (h : PE X e (tC v)) (r : ∀ F, Dp X.K F v d) : DE X E e (wC d) := h.imp fun σ H Q ⟨b, F, σd, W, Qd, I, x, h, q⟩ => q v H F (.d d) σd I (Grow.refl F) (r _) h
theorem di_false {X : Cx} {E : XK} {tg e : Expr} : DI X E tg e wiF := ⟨fun pins s σ H R I h => by
  obtain ⟨_, _, _, _, _, _, _, z, _⟩ := h
  exact z.elim⟩
section
variable {X : Cx} {E : XK} {S : Sx} {rE : Expr → WE} {rT : Expr → WT} (o : SOk X E S)
include o
theorem opr_ok (h : ∀ e, DE X E e (rE e)) (e : Expr) : DO X E e (opr S rE e) := by
  unfold opr
  split
  · rename_i x p
    split
    · rename_i i hi
      obtain ⟨h1, h2, h3, h4⟩ := o.rd hi
      exact do_br h1 h2 h3 h4
    · exact h _
  · exact h _
theorem oprs_ok (h : ∀ e, DE X E e (rE e)) : ∀ {es : List Expr}, es.all noStar = true → DA X E es (es.map (opr S rE))
  | [], _ => do_list_nil
  | e :: es, hs => by
    rw [List.all_cons, Bool.and_eq_true] at hs
    exact do_list_cons (opr_ok o h e) (oprs_ok h hs.2) (star_of hs.1 _ _)
theorem oprsZ_ok (h : ∀ e, DE X E e (rE e)) (j : Nat) : ∀ {es : List Expr} (i : Nat), es.all noStar = true → DA X E es (oprsZ S rE j i es)
  | [], _, _ => do_list_nil
  | e :: es, i, hs => by
    rw [List.all_cons, Bool.and_eq_true] at hs
    unfold oprsZ
    split
    · exact do_list_cons (opr_ok o h e) (oprsZ_ok h j (i + 1) hs.2) (star_of hs.1 _ _)
    · exact do_list_cons (do_ex (h e)) (oprsZ_ok h j (i + 1) hs.2) (star_of hs.1 _ _)
omit o in
theorem exs_ok (h : ∀ e, DE X E e (rE e)) : ∀ {es : List Expr}, es.all noStar = true → DA X E es (es.map fun e => .ex (rE e))
  | [], _ => do_list_nil
  | e :: es, hs => by
    rw [List.all_cons, Bool.and_eq_true] at hs
    exact do_list_cons (do_ex (h e)) (exs_ok h hs.2) (star_of hs.1 _ _)
omit o in
theorem const_ok {c : Const} {k : Nat} {pos : Pos} : DE X E (.Constant c k pos) (constE c) := by
  cases c with
  | int i => exact de_c pe_int fun _ _ => .int i
  | str x => exact de_c pe_str fun _ _ => .str x
  | bool b => exact de_c pe_bl fun _ _ => .bl b
  | none => exact de_c pe_non fun _ _ => .non
  | _ => exact de_false
theorem name_ok {x : Str} {p : Pos} : DE X E (.Name x p) (nameE S x) := by
  unfold nameE
  split
  · rename_i i hi
    obtain ⟨h1, h2, h3, h4⟩ := o.rd hi
    exact de_n h1 h2 h3 h4
  · split
    · rename_i d hd
      obtain ⟨hg, ⟨v, u, hm, rv, dp⟩, hdb, _⟩ := o.gl hd
      exact de_cK (pe_glob hg hm rv hdb) dp
    · exact de_false
omit o in
theorem bool_ok (h : ∀ e, DE X E e (rE e)) {op : BoolOp} {pos : Pos} : ∀ {vs : List Expr}, DE X E (.BoolOp op vs pos) (boolE op (vs.map rE))
  | [] => de_false
  | [e] => de_one (h e)
  | e :: c :: r => by
    have ih := bool_ok h (op := op) (pos := pos) (vs := c :: r)
    cases op with
    | And => exact de_and (h e) ih
    | Or => exact de_or (h e) ih
omit o in
theorem boolW_ok (h : ∀ e, DT X E e (rT e)) {op : BoolOp} {pos : Pos} : ∀ {e : Expr} {vs : List Expr}, DW X E (.BoolOp op (e :: vs) pos) (boolT op ((e :: vs).map rT))
  | e, [] => by
    cases op with
    | And => exact dw_and1 (h e)
    | Or => exact dw_or1 (h e)
  | e, c :: r => by
    have ih := boolW_ok h (op := op) (pos := pos) (e := c) (vs := r)
    cases op with
    | And => exact dw_and (h e) ih
    | Or => exact dw_or (h e) ih
omit o in
theorem boolT_ok (h : ∀ e, DT X E e (rT e)) {op : BoolOp} {pos : Pos} : ∀ {vs : List Expr}, DT X E (.BoolOp op vs pos) (boolT op (vs.map rT))
  | [] => dt_false
  | _ :: _ => dw_dt (boolW_ok h)
theorem sb_ok (h : ∀ e, DE X E e (rE e)) : ∀ (l : Option Expr), DB X E l (sbE S rE l)
  | none => db_no
  | some e => db_ex (opr_ok o h e)
theorem sub_ok (h : ∀ e, DE X E e (rE e)) {a ix : Expr} {pos : Pos} : DE X E (.Subscript a ix pos) (subE S rE a ix) := by
  unfold subE
  split
  · exact de_sl (opr_ok o h _) (sb_ok o h _) (sb_ok o h _)
  · exact de_step (opr_ok o h _) (opr_ok o h _)
  · split
    · rename_i hp
      exact de_ix ix_seq ok_ix (opr_ok o h _) (opr_ok o h _) (plain_ix hp)
    · exact de_false
theorem cmp_okE (h : ∀ e, DE X E e (rE e)) {a : Expr} {ops : List CmpOp} {cs : List Expr} {pos : Pos} : DE X E (.Compare a ops cs pos) (cmpE S rE a ops cs) := by
  unfold cmpE
  split
  · split
    · rename_i hn
      split
      · rename_i p hp
        obtain ⟨r, h1, h2⟩ := cmp_ok o.units hp
        exact de_cmp h1 h2 (opr_ok o h _) (opr_ok o h _) (marks_of hn)
      · exact de_false
    · exact de_false
  · split
    · rename_i hn
      split
      · rename_i p p' hp hp'
        obtain ⟨r, h1, h2⟩ := cmp_ok o.units hp
        obtain ⟨r', h3, h4⟩ := cmp_ok o.units hp'
        exact de_chain h1 h3 h2 h4 (opr_ok o h _) (opr_ok o h _) (opr_ok o h _) (marks2_of hn)
      · exact de_false
    · exact de_false
  · exact de_false
theorem cmp_okT (h : ∀ e, DE X E e (rE e)) {a : Expr} {ops : List CmpOp} {cs : List Expr} {pos : Pos} : DT X E (.Compare a ops cs pos) (wtB (cmpE S rE a ops cs)) := by
  have no : DT X E (.Compare a ops cs pos) (wtB wFalse) := ⟨fun pins s σ H Q I q => by
    obtain ⟨_, _, _, _, _, _, _, z, _⟩ := q
    exact z.elim⟩
  unfold cmpE
  split
  · split
    · rename_i hn
      split
      · rename_i p hp
        obtain ⟨r, h1, h2⟩ := cmp_ok o.units hp
        exact dt_cmp h1 h2 (opr_ok o h _) (opr_ok o h _) (marks_of hn)
      · exact no
    · exact no
  · split
    · rename_i hn
      split
      · rename_i p p' hp hp'
        obtain ⟨r, h1, h2⟩ := cmp_ok o.units hp
        obtain ⟨r', h3, h4⟩ := cmp_ok o.units hp'
        exact dt_chain h1 h3 h2 h4 (opr_ok o h _) (opr_ok o h _) (opr_ok o h _) (marks2_of hn)
      · exact no
    · exact no
  · exact no
theorem isi_ok (h : ∀ e, DE X E e (rE e)) {args : List Expr} {p pos : Pos} (hb : isBlt S "isinstance" = true) (hs : args.all noStar = true) : DE X E (.Call (.Name "isinstance" p) args [] pos) (isiE S rE args) := by
  unfold isiE
  split
  · rename_i a y p2
    split
    · rename_i T hT
      split
      · rename_i hy
        obtain ⟨g1, g2, _, _⟩ := o.blt hb
        obtain ⟨y1, y2, y3, y4⟩ := o.blt hy
        obtain ⟨t1, t2⟩ := tyName_ok hT
        rw [List.all_cons, Bool.and_eq_true] at hs
        exact de_isi t1 g1 g2 y1 y2 t2 y4 y3 (opr_ok o h _) (star_of hs.1 _ _) (stars_false hs.2)
      · exact de_false
    · exact de_false
  · exact de_false
theorem lst_ok (h : ∀ e, DE X E e (rE e)) {args : List Expr} {p pos : Pos} (hb : isBlt S "list" = true) (hs : args.all noStar = true) : DE X E (.Call (.Name "list" p) args [] pos) (lstE S rE args) := by
  obtain ⟨g1, g2, g3, g4⟩ := o.blt hb
  have one : ∀ e : Expr, [e].all noStar = true → DE X E (.Call (.Name "list" p) [e] [] pos) (wL pList [opr S rE e]) := fun e hs =>
    de_callTy call_list_of ok_list g1 g2 PyProof.Rows.boot_list (oprs_ok o h (es := [e]) hs) g4 g3 (by
      rw [List.all_cons, Bool.and_eq_true] at hs
      exact star_of hs.1 _ _) rfl
  unfold lstE
  split
  · split
    · split
      · rename_i e hy
        subst e
        rw [Bool.and_eq_true] at hy
        obtain ⟨y1, y2, _, _⟩ := o.blt hy.1
        exact de_lstRg1 o.calm g1 g2 y1 y2 (opr_ok o h _) (star_of hy.2 _ _) rfl
      · exact de_false
    · exact one _ hs
  · split
    · split
      · rename_i e hy
        subst e
        rw [Bool.and_eq_true, Bool.and_eq_true] at hy
        obtain ⟨y1, y2, _, _⟩ := o.blt hy.1
        exact de_lstRg2 o.calm g1 g2 y1 y2 (opr_ok o h _) (opr_ok o h _) (star_of hy.2.1 _ _) (star_of hy.2.2 _ _) (stars_false (by rw [List.all_cons, hy.2.2]; rfl)) rfl
      · exact de_false
    · exact one _ hs
  · exact one _ hs
  · exact de_false
theorem srt_ok (h : ∀ e, DE X E e (rE e)) {args : List Expr} {p pos : Pos} (hb : isBlt S "sorted" = true) (hs : args.all noStar = true) : DE X E (.Call (.Name "sorted" p) args [] pos) (srtE S rE args) := by
  obtain ⟨g1, g2, g3, g4⟩ := o.blt hb
  have one : ∀ e : Expr, [e].all noStar = true → DE X E (.Call (.Name "sorted" p) [e] [] pos) (wL pSorted [opr S rE e]) := fun e hs =>
    de_callB (cr_srt o.calm) ok_sorted g1 g2 boot_sorted (oprs_ok o h (es := [e]) hs) g4 g3 (by
      rw [List.all_cons, Bool.and_eq_true] at hs
      exact star_of hs.1 _ _) rfl
  unfold srtE
  split
  · split
    · split
      · rename_i e hy
        subst e
        rw [Bool.and_eq_true] at hy
        obtain ⟨y1, y2, _, _⟩ := o.blt hy.1
        exact de_alt (de_srtSet o.calm g1 g2 y1 y2 (opr_ok o h _) (star_of hy.2 _ _) rfl) (de_srtSetP o.calm o.units g1 g2 y1 y2 (opr_ok o h _) (star_of hy.2 _ _) rfl)
      · exact de_false
    · exact one _ hs
  · exact one _ hs
  · exact de_false
theorem call_okE (h : ∀ e, DE X E e (rE e)) {x : Str} {args : List Expr} {p pos : Pos} : DE X E (.Call (.Name x p) args [] pos) (callE S rE x args) := by
  unfold callE
  split
  · rename_i hs
    split
    · rename_i fi hf
      obtain ⟨hg, ⟨k, f, fd, ps, F, hr, hm, hk, hb⟩, hdb, _⟩ := o.gl hf
      cases args with
      | nil => exact de_call0 o.gd F hr hg hm hk hb o.pas hdb
      | cons e es =>
        have hs2 := hs
        rw [List.all_cons, Bool.and_eq_true] at hs2
        exact de_call o.gd F hr hg hm hk hb o.pas (oprs_ok o h hs) hdb (star_of hs2.1 _ _) (stars_false hs2.2)
    · rename_i fi j hf
      obtain ⟨hg, ⟨k, f, fd, ps, F, hr, hm, hk, hb⟩, hdb, _⟩ := o.gl hf
      cases args with
      | nil => exact de_call0 o.gd F hr hg hm hk hb o.pas hdb
      | cons e es =>
        have hs2 := hs
        rw [List.all_cons, Bool.and_eq_true] at hs2
        exact de_call o.gd F hr hg hm hk hb o.pas (oprsZ_ok o h j 0 hs) hdb (star_of hs2.1 _ _) (stars_false hs2.2)
    · rename_i hf
      have hb : isBlt S x = true := by unfold isBlt; rw [hf]
      split
      · rename_i e
        subst e
        exact isi_ok o h hb hs
      split
      · rename_i e
        subst e
        exact lst_ok o h hb hs
      split
      · rename_i e
        subst e
        exact srt_ok o h hb hs
      split
      · rename_i pl e es hp
        obtain ⟨g1, g2, g3, g4⟩ := o.blt hb
        have hs2 := hs
        rw [List.all_cons, Bool.and_eq_true] at hs2
        rcases blt_ok (X := X) o.calm o.gd o.units hp with ⟨id, r, h1, h2, h3⟩ | ⟨T, r, h1, h2, h3⟩
        · exact de_callB h1 h2 g1 g2 h3 (oprs_ok o h hs) g4 g3 (star_of hs2.1 _ _) (stars_false hs2.2)
        · exact de_callTy h1 h2 g1 g2 h3 (oprs_ok o h hs) g4 g3 (star_of hs2.1 _ _) (stars_false hs2.2)
      · exact de_false
    · exact de_false
  · exact de_false
theorem meth_ok (h : ∀ e, DE X E e (rE e)) {x m : Str} {args : List Expr} {p apos cpos : Pos} : DE X E (.Call (.Attribute (.Name x p) m apos) args [] cpos) (methE S rE x m apos cpos args) := by
  unfold methE
  split
  · rename_i hs
    rw [Bool.and_eq_true] at hs
    obtain ⟨hs, hl⟩ := hs
    split
    · rename_i i hi
      obtain ⟨h1, h2, h3, h4⟩ := o.rd hi
      split
      · rename_i e
        subst e
        split
        · rename_i e
          rw [List.all_cons, Bool.and_eq_true] at hs
          have hst := star_of hs.1 [] X.env
          exact de_append h1 h2 h3 h4 (h _) rfl (by rw [hst]; rfl) hl hst rfl
        · exact de_false
      split
      · rename_i e
        subst e
        split
        · exact de_pop h1 h2 h3 h4 rfl hl
        · rename_i e
          rw [List.all_cons, Bool.and_eq_true] at hs
          have hst := star_of hs.1 [] X.env
          exact de_popAt h1 h2 h3 h4 (opr_ok o h _) rfl (by rw [hst]; rfl) hl hst rfl
        · exact de_false
      split
      · rename_i e
        subst e
        split
        · rename_i e
          rw [List.all_cons, Bool.and_eq_true] at hs
          have hst := star_of hs.1 [] X.env
          exact de_index h1 h2 h3 h4 (opr_ok o h _) rfl (by rw [hst]; rfl) hl hst rfl
        · exact de_false
      · exact de_false
    · exact de_false
  · exact de_false
theorem it_ok (h : ∀ e, DE X E e (rE e)) {tg it : Expr} : DI X E tg it (evI S rE tg it) := by
  unfold evI
  split
  · rename_i f p args pos
    split
    · rename_i hs
      rw [Bool.and_eq_true] at hs
      obtain ⟨hb, hs⟩ := hs
      split
      · rename_i e
        subst e
        obtain ⟨g1, g2, _, _⟩ := o.blt hb
        split
        · rw [List.all_cons, Bool.and_eq_true] at hs
          exact di_rng1 g1 g2 (opr_ok o h _) (star_of hs.1 _ _)
        · rename_i a c
          rw [List.all_cons, Bool.and_eq_true, List.all_cons, Bool.and_eq_true] at hs
          have s2 := star_of hs.2.1 [] X.env
          exact di_rng2 g1 g2 (opr_ok o h _) (opr_ok o h _) (by rw [star_of hs.1, s2]; rfl) s2
        · exact di_false
      split
      · rename_i e
        subst e
        obtain ⟨g1, g2, _, _⟩ := o.blt hb
        split
        · split
          · rename_i ht
            rw [List.all_cons, Bool.and_eq_true] at hs
            cases tg with
            | Tuple => exact di_enum g1 g2 (h _) (star_of hs.1 _ _)
            | _ => cases ht
          · exact di_false
        · exact di_false
      split
      · rename_i e
        subst e
        obtain ⟨g1, g2, _, _⟩ := o.blt hb
        split
        · split
          · rename_i ht
            rw [List.all_cons, Bool.and_eq_true] at hs
            have hs3 := hs.2
            rw [List.all_cons, Bool.and_eq_true] at hs3
            cases tg with
            | Tuple => exact di_zip g1 g2 (h _) (h _) (star_of hs.1 _ _) (star_of hs3.1 _ _) (stars_false hs.2)
            | _ => cases ht
          · exact di_false
        · exact di_false
      · exact di_seq (h _)
    · exact di_seq (h _)
  · exact di_seq (h _)
end
theorem asgs_map {env : Env} : ∀ {es : List Expr}, es.all noStar = true → (assignEach es env).length = es.length ∧ (assignEach es env).findIdx? (·.1) = none
  | [], _ => ⟨rfl, rfl⟩
  | e :: es, h => by
    rw [List.all_cons, Bool.and_eq_true] at h
    obtain ⟨h1, h2⟩ := asgs_map (env := env) h.2
    have e1 : assignEach (e :: es) env = (false, assign e env) :: assignEach es env := by
      have := h.1
      cases e <;> first | rfl | cases this
    rw [e1]
    refine ⟨congrArg Nat.succ h1, ?_⟩
    rw [List.findIdx?_cons, h2]
    rfl
theorem asg_cons {env : Env} {e : Expr} {es : List Expr} (h : noStar e = true) : (assignEach (e :: es) env).map (·.2) = assign e env :: (assignEach es env).map (·.2) := by
  cases e <;> first | rfl | cases h
theorem tg_ok {X : Cx} {E : XK} {S : Sx} (o : SOk X E S) {vs : List Nat} : ∀ (n : Nat) (tg : Expr), DG X vs tg (evG n S vs tg)
  | 0, _ => dg_false
  | n + 1, tg => by
    unfold evG
    split
    · split
      · rename_i i hi
        obtain ⟨h1, h2, h3⟩ := o.wr hi
        split
        · rename_i hv
          exact dg_name (by rw [o.n]; exact o.nd) h1 h2 h3 hv
        · exact dg_false
      · exact dg_false
    · rename_i es k pos
      split
      · rename_i hs
        have go : ∀ es : List Expr, es.all noStar = true → DGs X vs es (es.foldr (fun e gs => wgCons (evG n S vs e) gs) wgNil) := by
          intro es
          induction es with
          | nil => exact fun _ => dgs_nil
          | cons e es ih =>
            intro hs
            rw [List.all_cons, Bool.and_eq_true] at hs
            exact dgs_cons (tg_ok o n e) (ih hs.2) (asg_cons hs.1)
        obtain ⟨a1, a2⟩ := asgs_map (env := X.env) hs
        exact dg_tup o.calm (go es hs) a1 a2
      · exact dg_false
    · exact dg_false

/-! ### comprehensions -/
theorem ixOf_none : ∀ {N : List Str} {x : Str}, ixOf N x = none → x ∉ N
  | [], _, _, h => by cases h
  | y :: r, x, e, h => by
    unfold ixOf at e
    split at e
    · cases e
    · rename_i hy
      cases q : ixOf r x with
      | none =>
        rcases List.mem_cons.mp h with z | z
        · exact hy z.symm
        · exact ixOf_none q z
      | some j => rw [q] at e; cases e
theorem blk_of {N : List Str} {sc scope : Scope} (h : blkB sc scope = true) : BlkOk N sc scope (ownOf N scope) := by
  unfold blkB kindB at h
  simp only [Bool.and_eq_true, decide_eq_true_eq, List.all_eq_true, Bool.or_eq_true, Bool.not_eq_true', decide_eq_false_iff_not] at h
  obtain ⟨h1, h2, h3⟩ := h
  refine ⟨h1, h2, fun p hp => ?_, fun y hy hf => ?_, fun y hy hk => ?_⟩
  · unfold ownOf at hp
    obtain ⟨q, hq, e⟩ := List.mem_filterMap.mp hp
    split at e
    · cases z : ixOf N q.1 with
      | none => rw [z] at e; cases e
      | some i =>
        rw [z] at e
        cases e
        exact ixOf_ok z
    · cases e
  · rcases h3 y hy with z | z
    · exact absurd hf z
    · exact z
  · cases z : ixOf N y.1 with
    | none => exact .inr (ixOf_none z)
    | some i =>
      refine .inl (List.mem_map.mpr ⟨(y.1, i), List.mem_filterMap.mpr ⟨y, hy, ?_⟩, rfl⟩)
      rw [if_pos hk, z]
      rfl
theorem GOk.blk {X : Cx} {s : Shared} {H : Hp} {scope : Scope} {cenv : Env} {fp : List Addr} {x : Str} : ∀ {y : GE}, GOk X x y → GOk (X.blk s H scope cenv fp) x y
  | .fn _, h => h
  | .fnZ _ _, h => h
  | .blt, h => h
  | .cst _, h => h
  | .exc, h => h
theorem pas_ef {X : Cx} : Passes (L2.CX X.prog X.w) X EF := fun _ _ _ _ _ _ _ ⟨_, _, _, _, _, _, _, _, _, _, _, _, z⟩ => z.elim
theorem SOk.blk {X : Cx} {E : XK} {S : Sx} (o : SOk X E S) (scope : Scope) (s : Shared) (H : Hp) (C : Addr) (cl : List (Str × Addr)) (fp : List Addr) : SOk (X.blk s H scope (compEnvC scope cl C X.env) fp) EF (blkS S scope) :=
  ⟨o.n, by
    show relS scope X.env.scope = relS scope S.sc
    rw [o.sc], o.nd, o.calm, fun x h => by
    unfold blkS kindB at h
    have h := of_decide_eq_true h
    show (scope.names.lookup x == some .cell) = true
    rw [h]
    rfl, fun x y h => GOk.blk (o.g x y h), o.units, o.gd, pas_ef⟩

def Good (r : EvR) : Prop := ∀ X E S, SOk X E S → (∀ e, DE X E e ((r S).1 e)) ∧ (∀ e, DT X E e ((r S).2 e))
section
variable {X : Cx} {E : XK} {S : Sx} {r : EvR} (g : Good r) (o : SOk X E S)
include g o
theorem tests_ok {Y : Cx} {T : Sx} (oY : SOk Y EF T) : ∀ ifs : List Expr, DTs Y ifs (testsE (r T).2 ifs)
  | [] => dts_nil
  | [c] => dts_one ((g Y EF T oY).2 c)
  | _ :: _ :: _ => ⟨fun pins s σ H Q I h => by
    obtain ⟨_, _, _, _, _, _, _, z, _⟩ := h
    exact z.elim⟩
theorem lc_okE {elt tg it : Expr} {ifs : List Expr} {scope : Scope} {pos : Pos} : DE X E (.ListComp elt [⟨tg, it, ifs, 0⟩] scope pos) (lcE r S elt tg it ifs scope) := by
  unfold lcE
  split
  · rename_i h
    rw [Bool.and_eq_true] at h
    have nd : X.N.Nodup := by rw [o.n]; exact o.nd
    exact de_lc o.calm nd (it_ok o (g X E S o).1) (by rw [o.n, o.sc]; exact blk_of h.1) rfl (fun s H C cl fp => tg_ok (o.blk scope s H C cl fp) 3 tg) (fun s H C cl fp => tests_ok g o (o.blk scope s H C cl fp) ifs)
      (fun s H C cl fp => (g _ EF _ (o.blk scope s H C cl fp)).1 elt) (folded_of h.2 X.env)
  · exact de_false
theorem stepE_ok (e : Expr) : DE X E e (stepE r S e) := by
  obtain ⟨hE, hT⟩ := g X E S o
  unfold stepE
  split
  · exact const_ok
  · exact name_ok o
  · split
    · rename_i p hp
      obtain ⟨rr, h1, h2⟩ := bin_ok (X := X) hp
      exact de_bin h1 h2 (opr_ok o hE _) (opr_ok o hE _)
    · exact de_false
  · split
    · exact de_un un_neg ok_neg (opr_ok o hE _)
    · exact de_not (hE _)
    · exact de_false
  · exact bool_ok hE
  · exact de_if (hT _) (hE _) (hE _)
  · exact cmp_okE o hE
  · exact sub_ok o hE
  · split
    · rename_i hs
      exact de_tup (exs_ok hE hs)
    · exact de_false
  · split
    · rename_i hs
      exact de_lst (exs_ok hE hs)
    · exact de_false
  · split
    · exact de_dnew
    · exact de_false
  · split
    · split
      · rename_i h0
        subst h0
        exact lc_okE g o
      · exact de_false
    · exact de_false
  · split
    · exact call_okE o hE
    · exact meth_ok o hE
    · exact de_false
  · exact de_false
theorem stepT_ok (e : Expr) : DT X E e (stepT r S e) := by
  obtain ⟨hE, hT⟩ := g X E S o
  unfold stepT
  split
  · exact dt_not (hT _)
  · exact boolT_ok hT
  · exact cmp_okT o hE
  · split
    · rename_i h
      exact dt_val (stepE_ok g o e) (isTrue_of h X.env)
    · exact dt_false
end
theorem ev_good : ∀ n, Good (ev n)
  | 0 => fun X E S o => ⟨fun _ => de_false, fun _ => dt_false⟩
  | n + 1 => fun X E S o => ⟨stepE_ok (ev_good n) o, stepT_ok (ev_good n) o⟩
end DL
end L2
set_option Elab.async false
set_option maxRecDepth 100000
set_option maxHeartbeats 1000000
/-! The data layer, part 12: the reading of statements. -/
namespace L2
open PySem PySem.Spec PyProof.Rows
namespace DL

def starB : Expr → Bool
  | .Starred .. => true
  | _ => false
def locNames (sc : Scope) (line : Nat) (ts : List Expr) : List Str := ts.filterMap fun t => match t with
  | .Name id pos => if (sc.names.lookup id == some .local && pos.line == line) = true then some id else none
  | _ => none
def swN (sc : Scope) (ts vs : List Expr) : Option (Option (List Str)) :=
  if (!(ts.length == 2 || ts.length == 3) || vs.length != ts.length) = true then some none
  else if vs.any starB = true then some none
  else if ((locNames sc ((ts.head?.map (·.pos.line)).getD 0) ts).length != ts.length || (locNames sc ((ts.head?.map (·.pos.line)).getD 0) ts).eraseDups.length != (locNames sc ((ts.head?.map (·.pos.line)).getD 0) ts).length) = true then some none
  else if vs.all (foldedForSure 8) = true then some none
  else if vs.all (constantsAlone 8) = true then none
  else some (some (locNames sc ((ts.head?.map (·.pos.line)).getD 0) ts))
theorem sw_ok {env : Env} {sc : Scope} (he : env.scope = sc) (hb : env.blockKind = .function) {ts vs : List Expr} {k : Nat} {p : Pos} {k2 : Nat} {p2 : Pos} {r : Option (List Str)} (h : swN sc ts vs = some r) :
    swappedStores [.Tuple ts k p] (.Tuple vs k2 p2) env = pure r := by
  unfold swN at h
  unfold swappedStores
  have e1 : (env.blockKind != ScopeKind.function) = false := by rw [hb]; rfl
  have e2 : (vs.any fun x => match x with | .Starred .. => true | _ => false) = vs.any starB := rfl
  subst he
  have e3 : (ts.filterMap fun t => match t with
    | .Name id pos => if (env.kindOf id == some NameKind.local && pos.line == (ts.head?.map (·.pos.line)).getD 0) = true then some id else none
    | _ => none) = locNames env.scope ((ts.head?.map (·.pos.line)).getD 0) ts := rfl
  simp only [e1, Bool.or_false]
  split at h
  · rename_i c
    cases h
    rw [if_pos c]
  · rename_i c
    rw [if_neg c]
    change (if vs.any starB = true then pure none else if ((locNames env.scope ((ts.head?.map (·.pos.line)).getD 0) ts).length != ts.length || (locNames env.scope ((ts.head?.map (·.pos.line)).getD 0) ts).eraseDups.length != (locNames env.scope ((ts.head?.map (·.pos.line)).getD 0) ts).length) = true then pure none
      else if vs.all (foldedForSure 8) = true then pure none
      else if vs.all (constantsAlone 8) = true then _ else pure (some (locNames env.scope ((ts.head?.map (·.pos.line)).getD 0) ts))) = pure r
    clear e1 e2 e3
    generalize locNames env.scope ((ts.head?.map (·.pos.line)).getD 0) ts = L at h ⊢
    split at h
    · rename_i c2
      cases h
      rw [if_pos c2]
    · rename_i c2
      rw [if_neg c2]
      split at h
      · rename_i c3
        cases h
        rw [if_pos c3]
      · rename_i c3
        rw [if_neg c3]
        split at h
        · rename_i c4
          cases h
          rw [if_pos c4]
        · rename_i c4
          rw [if_neg c4]
          split at h
          · cases h
          · rename_i c5
            cases h
            rw [if_neg c5]
def isLst : Expr → Bool
  | .List .. => true
  | _ => false
theorem sw_other {t v : Expr} {env : Env} (h : isTup v = false) : swappedStores [t] v env = pure none := by
  cases t <;> cases v <;> first | rfl | cases h
def noComp : Expr → Bool
  | .ListComp .. => false
  | .SetComp .. => false
  | .DictComp .. => false
  | _ => true
theorem swaps_of {e : Expr} (h : noComp e = true) (t : Option Expr) (line : Nat) (env : Env) : swapsWith e t line env = pure false := by
  cases e <;> first | rfl | cases h
theorem sole_of {e : Expr} (h : noComp e = true) (t : Expr) (line : Nat) (env : Env) : swapsWithSole [t] e line env = pure false := swaps_of h (some t) line env

def wsOr (w u : WS) : WS := fun X D σ => w X D σ ∨ u X D σ
def retE (S : Sx) (E : Expr → WE) (e : Expr) : WE := match e with
  | .Name x _ => (match rdIx S x with
    | some i => wMv i
    | none => E e)
  | e => E e
/-- name = value -/
def setE (r : EvR) (S : Sx) (i : Nat) (v : Expr) : WS := match v with
  | .ListComp elt gens scope _ => (match gens with
    | [⟨tg, it, ifs, as⟩] => if as = 0 then wSet i (lcE r S elt tg it ifs scope) else wsFalse
    | _ => wsFalse)
  | v => if noComp v = true then wSet i ((r S).1 v) else wsFalse
/-- several names = several values -/
def parE (S : Sx) (E : Expr → WE) (ts vs : List Expr) : WS := match ts, vs with
  | [.Name x _, .Name y _], [a, c] => (match wrIx S x, wrIx S y with
    | some i, some j => if (!decide (i = j) && (kindB S.sc x .local && kindB S.sc y .local) && (noStar a && noStar c)) = true then wSets2 i j (E a) (E c) else wsFalse
    | _, _ => wsFalse)
  | [.Name x _, .Name y _, .Name z _], [a, c, d] => (match wrIx S x, wrIx S y, wrIx S z with
    | some i, some j, some l => if (!decide (i = j) && !decide (i = l) && !decide (j = l) && (kindB S.sc x .local && kindB S.sc y .local && kindB S.sc z .local) && (noStar a && noStar c && noStar d)) = true then wSets3 i j l (E a) (E c) (E d) else wsFalse
    | _, _, _ => wsFalse)
  | _, _ => wsFalse
def namesOf : List Expr → Option (List Str)
  | [] => some []
  | .Name x _ :: r => (namesOf r).map (x :: ·)
  | _ => none
/-- a target that is no name = value -/
def asgE (S : Sx) (E : Expr → WE) (tg v : Expr) : WS := match tg with
  | .Tuple ts k p => if noComp v = true then (match v with
    | .Tuple vs k2 p2 => (match swN S.sc ts vs with
      | some none => wAsg (E (.Tuple vs k2 p2)) (evG 3 S (List.range S.N.length) (.Tuple ts k p))
      | some (some ns) => if namesOf ts = some ns then parE S E ts vs else wsFalse
      | none => wsFalse)
    | v => wAsg (E v) (evG 3 S (List.range S.N.length) (.Tuple ts k p))) else wsFalse
  | .Subscript (.Name x _) ix _ => if (noComp v && noSlice ix) = true then (match rdIx S x with
    | some i => wsOr (wSub i (opr S E ix) (E v)) (wSubD i (opr S E ix) (E v))
    | none => wsFalse) else wsFalse
  | _ => wsFalse
def raiseE (S : Sx) (e : Expr) : WS := match e with
  | .Call (.Name x _) [.Constant (.str _) _ _] [] _ => (match glE S x with
    | some .exc => wRaise x
    | _ => wsFalse)
  | _ => wsFalse
def sv (m : Nat) : Nat → Sx → Stmt → WS
  | 0, _, _ => wsFalse
  | n + 1, S, st => match st with
    | .Pass _ => wNx
    | .Break _ => wBk
    | .Continue _ => wCt
    | .Expr e _ => if noComp e = true then wEx ((ev m S).1 e) else wsFalse
    | .Return (some e) _ => wRet (retE S (ev m S).1 e)
    | .Return none _ => wRetN
    | .Raise (some e) none _ => raiseE S e
    | .Assign [tg] v _ => (match tg with
      | .Name y _ => (match wrIx S y with
        | some i => setE (ev m) S i v
        | none => wsFalse)
      | tg => asgE S (ev m S).1 tg v)
    | .AugAssign (.Name y _) op e _ => (match wrIx S y with
      | some i => (match op with
        | .Add => wAug i (opr S (ev m S).1 e)
        | .Sub => wAugSub i (opr S (ev m S).1 e)
        | _ => wsFalse)
      | none => wsFalse)
    | .If t a c _ => wIf ((ev m S).2 t) (a.foldr (fun s u => wSeq (sv m n S s) u) wNx) (c.foldr (fun s u => wSeq (sv m n S s) u) wNx)
    | .While t b [] _ => wWhile ((ev m S).2 t) (b.foldr (fun s u => wSeq (sv m n S s) u) wNx)
    | .For tg it b [] _ => if noSet it = true then wFor (evI S (ev m S).1 tg it) (evG 3 S (List.range S.N.length) tg) (b.foldr (fun s u => wSeq (sv m n S s) u) wNx) else wsFalse
    | _ => wsFalse
/-- a body -/
def svs (m n : Nat) (S : Sx) (b : List Stmt) : WS := b.foldr (fun s u => wSeq (sv m n S s) u) wNx

structure TOk (X : Cx) (E : XK) (S : Sx) : Prop extends SOk X E S where
  bk : X.env.blockKind = .function
  own : PassesOwn (model X.prog X.w) X.A X.env X.xe
  tk : Takes X (fun cls d _ H => E cls d H)
section
variable {X : Cx} {E : XK} {S : Sx} {r : EvR} (g : Good r) (o : TOk X E S)
theorem ds_or {st : Stmt} {w u : WS} (h : DS X E st w) (h' : DS X E st u) : DS X E st (wsOr w u) := ⟨fun pins s σ H D I q => by
  obtain ⟨b, F, σd, W, Dd, I2, x, q, e⟩ := q
  rcases q with q | q
  · exact h.run pins s σ H D I ⟨b, F, σd, W, Dd, I2, x, q, e⟩
  · exact h'.run pins s σ H D I ⟨b, F, σd, W, Dd, I2, x, q, e⟩⟩
include o
theorem SOk.nd' : X.N.Nodup := by rw [o.n]; exact o.nd
theorem ret_ok {rE : Expr → WE} (h : ∀ e, DE X E e (rE e)) (e : Expr) : DE X E e (retE S rE e) := by
  unfold retE
  split
  · split
    · rename_i i hi
      obtain ⟨h1, h2, h3, h4⟩ := o.toSOk.rd hi
      exact de_mv h1 h2 h3 h4
    · exact h _
  · exact h _
theorem raise_ok {e : Expr} {pos : Pos} : DS X E (.Raise (some e) none pos) (raiseE S e) := by
  unfold raiseE
  split
  · split
    · rename_i hx
      obtain ⟨h1, ⟨C, h2, h3, h4, h5⟩, h6, _⟩ := o.toSOk.gl hx
      exact ds_raise o.calm o.tk h3 h2 h4 h5 h1 h6
    · exact ds_false
  · exact ds_false
include g
theorem set_ok {i : Nat} {y : Str} {v : Expr} {py pos : Pos} (hi : wrIx S y = some i) : DS X E (.Assign [.Name y py] v pos) (setE r S i v) := by
  obtain ⟨h1, h2, h3⟩ := o.toSOk.wr hi
  have nd := SOk.nd' o
  unfold setE
  split
  · rename_i elt gens scope lpos
    split
    · split
      · rename_i tg it ifs as h0
        subst h0
        have hE := lc_okE (pos := lpos) g o.toSOk (elt := elt) (tg := tg) (it := it) (ifs := ifs) (scope := scope)
        have hsw : ∃ b, swapsWith (.ListComp elt [⟨tg, it, ifs, 0⟩] scope lpos) (some (.Name y py)) pos.line X.env = pure b ∧ (b = true → X.env.scope.names.lookup y = some .local) := by
          refine ⟨_, rfl, fun hb => ?_⟩
          simp only [Bool.and_eq_true] at hb
          have := hb.1.1.2
          exact beq_iff_eq.mp this
        obtain ⟨b, hb, hl⟩ := hsw
        cases b with
        | false => exact ds_set nd h1 h2 hE hb h3
        | true =>
          unfold lcE
          split
          · rename_i h
            rw [Bool.and_eq_true] at h
            exact ds_setLc o.calm nd h1 (hl rfl) hb (it_ok o.toSOk (g X E S o.toSOk).1) (by rw [o.n, o.sc]; exact blk_of h.1) rfl (fun s H C cl fp => tg_ok (o.toSOk.blk scope s H C cl fp) 3 tg) (fun s H C cl fp => tests_ok g o.toSOk (o.toSOk.blk scope s H C cl fp) ifs)
              (fun s H C cl fp => (g _ EF _ (o.toSOk.blk scope s H C cl fp)).1 elt) (folded_of h.2 X.env)
          · exact ⟨fun pins s σ H D I h => by
              obtain ⟨_, _, _, _, _, _, _, z, _⟩ := h
              exact z.elim⟩
      · exact ds_false
    · exact ds_false
  · split
    · rename_i hn
      exact ds_set nd h1 h2 ((g X E S o.toSOk).1 _) (swaps_of hn _ _ _) h3
    · exact ds_false

theorem par_ok {ts vs : List Expr} {k k2 : Nat} {p p2 pos : Pos} {ns : List Str} (hw : swN S.sc ts vs = some (some ns)) (hn : namesOf ts = some ns) : DS X E (.Assign [.Tuple ts k p] (.Tuple vs k2 p2) pos) (parE S (r S).1 ts vs) := by
  have nd := SOk.nd' o
  have hE := (g X E S o.toSOk).1
  have hsw := sw_ok (k := k) (p := p) (k2 := k2) (p2 := p2) o.sc o.bk hw
  have loc : ∀ {x}, kindB S.sc x .local = true → X.env.scope.names.lookup x = some .local := fun {x} h => by
    unfold kindB at h
    rw [o.sc]
    exact of_decide_eq_true h
  unfold parE
  split
  · rename_i x px y py a c
    cases hn
    split
    · rename_i i j hi hj
      split
      · rename_i h
        simp only [Bool.and_eq_true, Bool.not_eq_true', decide_eq_false_iff_not] at h
        obtain ⟨⟨h1, h2, h3⟩, h4, h5⟩ := h
        exact ds_par o.calm nd (o.toSOk.wr hi).1 (o.toSOk.wr hj).1 h1 (loc h2) (loc h3) (hE _) (hE _) (star_of h4 _ _) (star_of h5 _ _) hsw rfl
      · exact ds_false
    · exact ds_false
  · rename_i x px y py z pz a c d
    cases hn
    split
    · rename_i i j l hi hj hl
      split
      · rename_i h
        simp only [Bool.and_eq_true, Bool.not_eq_true', decide_eq_false_iff_not] at h
        obtain ⟨⟨⟨⟨h1, h2⟩, h3⟩, ⟨h4, h5⟩, h6⟩, ⟨h7, h8⟩, h9⟩ := h
        exact ds_par3 o.calm nd (o.toSOk.wr hi).1 (o.toSOk.wr hj).1 (o.toSOk.wr hl).1 h1 h2 h3 (loc h4) (loc h5) (loc h6) (hE _) (hE _) (hE _) (star_of h7 _ _) (star_of h8 _ _) (star_of h9 _ _) hsw rfl
      · exact ds_false
    · exact ds_false
  · exact ds_false
theorem asg_ok {tg v : Expr} {pos : Pos} : DS X E (.Assign [tg] v pos) (asgE S (r S).1 tg v) := by
  have nd := SOk.nd' o
  have hE := (g X E S o.toSOk).1
  unfold asgE
  split
  · split
    · rename_i hn
      split
      · split
        · rename_i hw
          exact ds_asg (hE _) (tg_ok o.toSOk 3 _) rfl (sw_ok o.sc o.bk hw) rfl
        · rename_i ns hw
          split
          · rename_i hs
            exact par_ok g o hw hs
          · exact ds_false
        · exact ds_false
      · rename_i hv
        have ht : isTup v = false := by
          cases v <;> first | rfl | exact absurd rfl (hv _ _ _)
        exact ds_asg (hE _) (tg_ok o.toSOk 3 _) (sole_of hn _ _ _) (sw_other ht) rfl
    · exact ds_false
  · split
    · rename_i hn
      rw [Bool.and_eq_true] at hn
      split
      · rename_i i hi
        obtain ⟨h1, h2, h3, h4⟩ := o.toSOk.rd hi
        have ha : ∀ {x : Str} {p tpos : Pos} {ix : Expr}, noSlice ix = true → ∀ v, assign (.Subscript (.Name x p) ix tpos) X.env v = (do
            let ov ← holding [v] (eval (.Name x p) X.env)
            let iv ← holding [v, ov] (eval ix X.env)
            standAt tpos
            holding [v, ov, iv] (setItem ov iv v)
            release [v, ov, iv] []) := fun {x p tpos ix} h v => by
          cases ix <;> first | rfl | cases h
        have hu : X.A.units + 1 < cLine := by
          have := o.units
          omega
        exact ds_or (ds_sub h1 h2 h3 h4 (hE _) (opr_ok o.toSOk hE _) (ha hn.2) (sole_of hn.1 _ _ _) rfl rfl) (ds_subD hu h1 h2 h3 h4 (hE _) (opr_ok o.toSOk hE _) (ha hn.2) (sole_of hn.1 _ _ _) rfl rfl)
      · exact ds_false
    · exact ds_false
  · exact ds_false
end
section
variable {X : Cx} {E : XK} {S : Sx} (o : TOk X E S) (m : Nat)
include o
theorem sv_ok : ∀ (n : Nat) (st : Stmt), DS X E st (sv m n S st)
  | 0, _ => ds_false
  | n + 1, st => by
    have g := ev_good m
    obtain ⟨hE, hT⟩ := g X E S o.toSOk
    have all : ∀ b : List Stmt, DSs X E b (b.foldr (fun s u => wSeq (sv m n S s) u) wNx) := by
      intro b
      induction b with
      | nil => exact dss_nil
      | cons s b ih => exact dss_cons (w := sv m n S s) (u := b.foldr (fun s u => wSeq (sv m n S s) u) wNx) (sv_ok n s) ih
    unfold sv
    split
    · exact ds_pass
    · exact ds_break
    · exact ds_continue
    · split
      · rename_i h
        exact ds_expr (hE _) (swaps_of h _ _ _)
      · exact ds_false
    · exact ds_ret (ret_ok o hE _)
    · exact ds_retN
    · exact raise_ok o
    · split
      · split
        · rename_i hi
          exact set_ok g o hi
        · exact ds_false
      · exact asg_ok g o
    · split
      · rename_i hi
        obtain ⟨h1, h2, h3⟩ := o.toSOk.wr hi
        split
        · exact ds_aug (SOk.nd' o) h1 h2 (opr_ok o.toSOk hE _) h3
        · exact ds_augSub (SOk.nd' o) h1 h2 (opr_ok o.toSOk hE _) h3
        · exact ds_false
      · exact ds_false
    · exact ds_if (hT _) (all _) (all _)
    · exact ds_while o.own (hT _) (all _)
    · split
      · rename_i h
        exact ds_for o.own o.calm (it_ok o.toSOk hE) (tg_ok o.toSOk 3 _) (all _) (folded_of h X.env)
      · exact ds_false
    · exact ds_false
theorem svs_ok (n : Nat) : ∀ b : List Stmt, DSs X E b (svs m n S b)
  | [] => dss_nil
  | s :: b => dss_cons (w := sv m n S s) (u := svs m n S b) (sv_ok o m n s) (svs_ok n b)
end
end DL
end L2
set_option Elab.async false
set_option maxRecDepth 100000
set_option maxHeartbeats 1000000
/-! The data layer, part 13: a def by its tree. -/
namespace L2
open PySem PySem.Spec PyProof.Rows
namespace DL

/-- a global name, told without a context; k: so many calls deep -/
def GlobOk (P : Program) (w : World) (K : PySem.W.Frag) (mg : Str → Option Value) (base : Heap) (k : Nat) (x : Str) : GE → Prop
  | .fn fi => ∃ f fd ps, FnG P w K mg base (L2.CX P w) k f fd ps (spD K mg fi) ∧ mg x = some (.ref f) ∧ PySem.W.keepIn K (.ref f) = true ∧ Binds K fd ps []
  | .fnZ fi _ => ∃ f fd ps, FnG P w K mg base (L2.CX P w) k f fd ps (spD K mg fi) ∧ mg x = some (.ref f) ∧ PySem.W.keepIn K (.ref f) = true ∧ Binds K fd ps []
  | .blt => mg x = none
  | .cst d => ∃ v u, mg x = some u ∧ RelV v u ∧ ∀ F, Dp K F v d
  | .exc => ∃ C, mg x = some (.ref C) ∧ PySem.W.excIn K C He.veBase "ValueError.__new__" = true ∧ PySem.W.keepIn K (.ref C) = true ∧ (PySem.W.subIn K (.ref C) (.type "BaseException") = some true ∧ PySem.W.typeIn K (.ref C) = some (.type "type"))
section
variable {P : Program} {w : World} {K : PySem.W.Frag} {mg : Str → Option Value} {base : Heap} {x qual : Str} {params : Arguments} {body : List Stmt} {scope : Scope} {dvs : List V} {kws : List (Str × V)} {f : Addr} {fd : FuncData} {N ps : List Str} {j k m a b : Nat} {fi : FI} {G : List (Str × GE)}
theorem GlobOk.mono (h : j ≤ k) : ∀ {y : GE}, GlobOk P w K mg base j x y → GlobOk P w K mg base k x y
  | .fn _, ⟨f, fd, ps, F, r⟩ => ⟨f, fd, ps, F.mono h, r⟩
  | .fnZ _ _, ⟨f, fd, ps, F, r⟩ => ⟨f, fd, ps, F.mono h, r⟩
  | .blt, h => h
  | .cst _, h => h
  | .exc, h => h
theorem def_ev (F : FunD K x qual params body scope dvs kws f fd) (S : FnScope N ps scope) (hp : ps.length = fi.n) (hN : N.length = fi.n + m) (hG : ∀ y g, G.lookup y = some g → GlobOk P w K mg base k y g)
    (rd : Reads fi m (svs a b ⟨scope, N, fun _ => true, G⟩ body)) : FnG P w K mg base (L2.CX P w) (k + 1) f fd ps (spD K mg fi) := by
  refine def_x F S hp hN rd fun cdv A outer s H E gd hr => svs_ok ⟨⟨rfl, rfl, S.nd, rfl, fun _ _ => rfl, fun y g hg => ?_, hr.units, gd, ?_⟩, ?_, passes_of rfl, takes_of rfl rfl rfl rfl⟩ a b body
  · have q := hG y g hg
    cases g with
    | fn fi => obtain ⟨f, fd, ps, h1, h2, h3, h4⟩ := q; exact ⟨k, f, fd, ps, h1, hr, h2, h3, h4⟩
    | fnZ fi j => obtain ⟨f, fd, ps, h1, h2, h3, h4⟩ := q; exact ⟨k, f, fd, ps, h1, hr, h2, h3, h4⟩
    | blt => exact q
    | cst d => exact q
    | exc => obtain ⟨C, h1, h2, h3, h4, h5⟩ := q; exact ⟨C, h1, h2, h3, raises_own h4 h5⟩
  · exact passes_call (takes_of rfl rfl rfl rfl) fun _ _ _ _ h => h
  · show (if scope.kind.isAnnotationScope = true then ScopeKind.function else scope.kind) = .function
    rw [S.kind]
    rfl
/-- the same, as a global -/
theorem glob_ev (F : FunD K x qual params body scope [] [] f fd) (hm : mg x = some (.ref f)) (S : FnScope N ps scope) (hp : ps.length = fi.n) (hN : N.length = fi.n + m) (hb : Binds K fd ps []) (hG : ∀ y g, G.lookup y = some g → GlobOk P w K mg base k y g)
    (rd : Reads fi m (svs a b ⟨scope, N, fun _ => true, G⟩ body)) : GlobOk P w K mg base (k + 1) x (.fn fi) := ⟨f, fd, ps, def_ev F S hp hN hG rd, hm, F.kp, hb⟩
theorem glob_z (h : GlobOk P w K mg base k x (.fn fi)) : GlobOk P w K mg base k x (.fnZ fi j) := h
/-! tables -/
theorem gl_nil : ∀ y g, List.lookup y ([] : List (Str × GE)) = some g → GlobOk P w K mg base k y g := fun _ _ h => by cases h
theorem gl_cons {y : Str} {g : GE} {G : List (Str × GE)} (h : GlobOk P w K mg base k y g) (t : ∀ y g, G.lookup y = some g → GlobOk P w K mg base k y g) : ∀ z u, List.lookup z ((y, g) :: G) = some u → GlobOk P w K mg base k z u := fun z u e => by
  rw [List.lookup_cons] at e
  split at e
  · rename_i q
    cases e
    rw [beq_iff_eq.mp q]
    exact h
  · exact t z u e
end
end DL
end L2
set_option Elab.async false
set_option maxRecDepth 100000
set_option maxHeartbeats 1000000
/-! The data layer, part 17: a def that catches. -/
namespace L2
open PySem PySem.Spec PyProof.Rows
namespace DL

/-- what a clause's return gives: a truth, a text, a list of truths -/
inductive HV where
  | b (k : Bool)
  | s (x : Str)
  | l (ks : List Bool)
def HV.rv : HV → Rv
  | .b k => .d (.bool k)
  | .s x => .d (.str x)
  | .l ks => .f (.list (ks.map .bool))
def hvL : List (Option HV) → Option (List Bool)
  | [] => some []
  | some (.b k) :: r => (hvL r).map (k :: ·)
  | _ => none
def isExc (S : Sx) (c : Str) : Bool := match glE S c with
  | some .exc => true
  | _ => false
/-- e by what isinstance(n, c) tells -/
def hvE (S : Sx) (n : Str) (t : Str → Option Bool) : Nat → Expr → Option HV
  | 0, _ => none
  | m + 1, e => match e with
    | .Call (.Name f _) args [] _ => (match args with
      | [.Name y _, .Name c _] => if f = "isinstance" ∧ y = n ∧ isBlt S f = true ∧ isExc S c = true then (t c).map .b else none
      | _ => none)
    | .List es _ => if es.all noStar = true then (hvL (es.map (hvE S n t m))).map .l else none
    | .IfExp c x y _ => if plainT c = true then (match hvE S n t m c with
      | some (.b true) => hvE S n t m x
      | some (.b false) => hvE S n t m y
      | _ => none) else none
    | .Constant (.str x) _ _ => some (.s x)
    | _ => none
def tHV (i : Nat) (a : Addr) (v : HV) : TE := fun σ H Q => σ[i]? = some (some (.ref a)) ∧ (match v with
  | .b k => Q (.bl k) H
  | .s x => Q (.str x) H
  | .l ks => ks.length ≤ sizeLine ∧ ∀ p, H p = none → Q (.ref p) (upd H p (.lst (ks.map .bl))))
/-- what is known of the classes of errors: does nm's instance be one of c's -/
def ExF (K : PySem.W.Frag) (mg : Str → Option Value) (tbl : Str → Str → Option Bool) : Prop := ∀ nm c b, tbl nm c = some b →
  ∃ D C, mg nm = some (.ref D) ∧ mg c = some (.ref C) ∧ PySem.W.exmOne K (.ref D) (.ref C) = some b ∧ PySem.W.kitOne K (.ref D) (.ref C) = some b ∧ ExcC K D
def tHVs (i : Nat) (a : Addr) (ks : List Bool) : TA := fun σ H Q => σ[i]? = some (some (.ref a)) ∧ Q (ks.map .bl) H
theorem pe_no {X : Cx} {e : Expr} : PE X e (fun _ _ _ => False) := ⟨fun _ _ _ _ _ _ q => q.elim⟩
section
variable {X : Cx} {S : Sx} {i : Nat} {n : Str} {tbl : Str → Str → Option Bool} {nm : Str} {D a : Addr} {oe : Obj} {pn : List (Addr × Obj)}
theorem hv_ok (hn : X.N = S.N) (hsc : X.env.scope = S.sc) (hi : rdIx S n = some i) (hG : ∀ x y, S.G.lookup x = some y → GOk X x y) (ex : ExF X.K X.mg tbl) (hD : X.mg nm = some (.ref D)) (hz : Zc (.ref D) none oe) (hf : ∃ vs, oe.data = .fields vs) (some_ : ∃ c b, tbl nm c = some b) :
    ∀ (m : Nat) (e : Expr) (v : HV), hvE S n (tbl nm) m e = some v → PE (X.suite a ((a, oe) :: pn)) e (tHV i a v) := by
  have oc : ExcC X.K D := by
    obtain ⟨c, b, e⟩ := some_
    obtain ⟨D', C, h1, _, _, _, h2⟩ := ex nm c b e
    rw [hD] at h1
    cases h1
    exact h2
  have rd : (X.suite a ((a, oe) :: pn)).N[i]? = some n ∧ Vis (X.suite a ((a, oe) :: pn)).env.scope n ∧ (n == ("__debug__" : Str)) = false ∧ (n == ("__classdict__" : Str)) = false := by
    unfold rdIx at hi
    split at hi
    · rename_i hv
      unfold visB kindB at hv
      simp only [Bool.and_eq_true, Bool.or_eq_true, decide_eq_true_eq, Bool.not_eq_true'] at hv
      show X.N[i]? = some n ∧ Vis X.env.scope n ∧ _
      rw [hn, hsc]
      exact ⟨ixOf_ok hi, hv.1, hv.2.1, hv.2.2⟩
    · cases hi
  have gl : ∀ {x : Str} {y : GE}, glE S x = some y → Gl (X.suite a ((a, oe) :: pn)) x ∧ GOk X x y ∧ (x == ("__debug__" : Str)) = false ∧ x ≠ "__name__" := fun {x y} h => by
    unfold glE at h
    split at h
    · rename_i hv
      unfold kindB at hv
      simp only [Bool.and_eq_true, decide_eq_true_eq, Bool.not_eq_true', decide_eq_false_iff_not] at hv
      refine ⟨?_, hG x y h, hv.2.1, hv.2.2⟩
      show X.env.scope.names.lookup x = some .globalImplicit
      rw [hsc]
      exact hv.1
    · cases h
  intro m
  induction m with
  | zero => exact fun e v h => by cases h
  | succ m ih =>
    intro e v h
    unfold hvE at h
    split at h
    · rename_i f p args pos
      split at h
      · rename_i y py c pc
        split at h
        · rename_i hc
          obtain ⟨rfl, rfl, hb, hcls⟩ := hc
          cases q : tbl nm c with
          | none => rw [q] at h; cases h
          | some k =>
            rw [q] at h
            cases h
            obtain ⟨D', C, h1, h2, _, h4, _⟩ := ex nm c k q
            rw [hD] at h1
            cases h1
            have gc : Gl (X.suite a ((a, oe) :: pn)) c ∧ (c == ("__debug__" : Str)) = false := by
              unfold isExc at hcls
              split at hcls
              · rename_i z
                exact ⟨(gl z).1, (gl z).2.2.1⟩
              · cases hcls
            have gi : Gl (X.suite a ((a, oe) :: pn)) "isinstance" ∧ X.mg "isinstance" = none := by
              unfold isBlt at hb
              split at hb
              · rename_i z
                exact ⟨(gl z).1, (gl z).2.1⟩
              · cases hb
            refine (pe_callB (X := X.suite a ((a, oe) :: pn)) (call_isE oc hz hf) gi.1 gi.2 boot_isinstance (pa_cons (pe_var rd.1 rd.2.1 rd.2.2.1 rd.2.2.2) (pa_cons (pe_glob gc.1 h2 (v := .ref C) rfl gc.2) pa_nil rfl) rfl) (by decide) (by decide) rfl rfl).imp fun σ H Q ⟨hσ, hq⟩ => ?_
            refine ⟨.ref a, hσ, ?_⟩
            exact ⟨.ref C, .ref C, k, rfl, fun u r => r, h4, hq⟩
        · cases h
      · cases h
    · rename_i es pos
      split at h
      · rename_i hs
        have go : ∀ (es : List Expr) (ks : List Bool), es.all noStar = true → hvL (es.map (hvE S n (tbl nm) m)) = some ks → PA (X.suite a ((a, oe) :: pn)) es (tHVs i a ks) := by
          intro es
          induction es with
          | nil =>
            intro ks _ hk
            cases hk
            exact pa_nil.imp fun σ H Q ⟨_, hq⟩ => hq
          | cons e es ih2 =>
            intro ks hs hk
            rw [List.all_cons, Bool.and_eq_true] at hs
            rw [List.map_cons] at hk
            cases z : hvE S n (tbl nm) m e with
            | none => rw [z] at hk; cases hk
            | some w =>
              rw [z] at hk
              cases w with
              | b k =>
                unfold hvL at hk
                cases z2 : hvL (es.map (hvE S n (tbl nm) m)) with
                | none => rw [z2] at hk; cases hk
                | some ks2 =>
                  rw [z2] at hk
                  cases hk
                  exact (pa_cons (ih e _ z) (ih2 ks2 hs.2 z2) (star_of hs.1 _ _)).imp fun σ H Q ⟨hσ, hq⟩ => ⟨hσ, hσ, hq⟩
              | s x => cases hk
              | l x => cases hk
        cases z : hvL (es.map (hvE S n (tbl nm) m)) with
        | none => rw [z] at h; cases h
        | some ks =>
          rw [z] at h
          cases h
          exact (pe_lst (go es ks hs z)).imp fun σ H Q ⟨hσ, hl, hq⟩ => ⟨hσ, by rw [List.length_map]; exact hl, hq⟩
      · cases h
    · rename_i c x y pos
      split at h
      · rename_i hp
        cases z : hvE S n (tbl nm) m c with
        | none => rw [z] at h; cases h
        | some w =>
          rw [z] at h
          cases w with
          | b k =>
            have hc := pt_val (ih c _ z) (isTrue_of hp _)
            cases k with
            | true => exact (pe_ifExp hc (ih x v h) pe_no).imp fun σ H Q hq => ⟨hq.1, true, rfl, hq⟩
            | false => exact (pe_ifExp hc pe_no (ih y v h)).imp fun σ H Q hq => ⟨hq.1, false, rfl, hq⟩
          | s x => cases h
          | l x => cases h
      · cases h
    · cases h
      exact pe_str.imp fun σ H Q ⟨_, hq⟩ => hq
    · cases h
end
end DL
end L2
set_option Elab.async false
set_option maxRecDepth 100000
set_option maxHeartbeats 1000000
/-! The data layer, part 18: a def that catches, by its tree. -/
namespace L2
open PySem PySem.Spec PyProof.Rows
namespace DL
section
variable {P : Program} {w : World} {K : PySem.W.Frag} {mg : Str → Option Value} {base : Heap} {x qual : Str} {params : Arguments} {body : List Stmt} {scope : Scope} {dvs : List V} {kws : List (Str × V)} {f : Addr} {fd : FuncData} {N ps : List Str} {j k m a b : Nat} {fi : FI} {G : List (Str × GE)}
theorem tok_def (S : FnScope N ps scope) (hG : ∀ y g, G.lookup y = some g → GlobOk P w K mg base k y g) {cdv : Value} {A : Around} {outer : List Env} {s : Shared} {H : Hp} {E : XK} (gd : A.guards = some []) (hr : Room k (A.deeper (envOfC qual scope s.heap.objs.size f cdv))) :
    TOk (cxOf (L2.CX P w) P w K mg base N qual scope f cdv A outer s H E) E ⟨scope, N, fun _ => true, G⟩ := by
  refine ⟨⟨rfl, rfl, S.nd, rfl, fun _ _ => rfl, fun y g hg => ?_, hr.units, gd, ?_⟩, ?_, passes_of rfl, takes_of rfl rfl rfl rfl⟩
  · have q := hG y g hg
    cases g with
    | fn fi => obtain ⟨f, fd, ps, h1, h2, h3, h4⟩ := q; exact ⟨k, f, fd, ps, h1, hr, h2, h3, h4⟩
    | fnZ fi j => obtain ⟨f, fd, ps, h1, h2, h3, h4⟩ := q; exact ⟨k, f, fd, ps, h1, hr, h2, h3, h4⟩
    | blt => exact q
    | cst d => exact q
    | exc => obtain ⟨C, h1, h2, h3, h4, h5⟩ := q; exact ⟨C, h1, h2, h3, raises_own h4 h5⟩
  · exact passes_call (takes_of rfl rfl rfl rfl) fun _ _ _ _ h => h
  · show (if scope.kind.isAnnotationScope = true then ScopeKind.function else scope.kind) = .function
    rw [S.kind]
    rfl
end
/-- what the body of a try may let out -/
def eTr (N : List Str) (W : WX) : XK := fun cls d H => ∀ σ : St, σ.length = N.length → W cls d σ H
theorem TOk.tr {X : Cx} {E : XK} {S : Sx} (o : TOk X E S) {W : WX} {pn : List (Addr × Obj)} {xe : Value → Shared → Prop} (tk : Takes (X.tr pn xe) W) (ow : PassesOwn (model X.prog X.w) X.A X.env xe) : TOk (X.tr pn xe) (eTr X.N W) S := by
  refine ⟨⟨o.n, o.sc, o.nd, o.calm, o.fnc, fun x y h => ?_, o.units, o.gd, ?_⟩, o.bk, ow, ?_⟩
  · have q := o.g x y h
    cases y with
    | fn fi => exact q
    | fnZ fi j => exact q
    | blt => exact q
    | cst d => exact q
    | exc => exact q
  · exact fun pins σ H s e s' I c => tk e s' (XE.of_call I (fun cls d H' h => h σ I.len) c)
  · rintro u s' ⟨a, B, sI, pins, σ, H, cls, d, e, I, nb, up, sky, na, os, ag, h⟩
    exact tk u s' ⟨a, B, sI, pins, σ, H, cls, d, e, I, nb, up, sky, na, os, ag, h σ I.len⟩
/-- what a clause does -/
def tsTry (i : Nat) (K : PySem.W.Frag) (mg : Str → Option Value) (hv : Str → Option HV) (a : Addr) (cls : Value) (d : Option Addr) : TS := fun D σ H => ∃ nm C v, cls = .ref C ∧ d = none ∧ mg nm = some (.ref C) ∧ hv nm = some v ∧ tHV i a v σ H D.rt
def HV.fits : HV → Prop
  | .l ks => ks.length ≤ sizeLine
  | _ => True
/-- what the body of the try is to wish of errors -/
def xTry (tbl : Str → Str → Option Bool) (c : Str) (hv : Str → Option HV) (Q : Rv → Prop) (X : XW) : XW := fun nm => (tbl nm c = some true ∧ ∃ v, hv nm = some v ∧ v.fits ∧ Q v.rv) ∨ (tbl nm c = some false ∧ X nm)
section
variable {X : Cx} {E : XK} {S : Sx} {i a b : Nat} {B tail : List Stmt} {c n : Str} {e : Expr} {np rp hpos tpos : Pos} {tbl : Str → Str → Option Bool} {C : Addr} {wB wT : WS}
theorem suite_ok (o : TOk X E S) (hi : rdIx S n = some i) (ex : ExF X.K X.mg tbl) (ae : Addr) (oe : Obj) (cls : Value) (d : Option Addr) (pn : List (Addr × Obj)) (hz : Zc cls d oe) (hf : ∃ vs, oe.data = .fields vs) :
    PSs (X.suite ae ((ae, oe) :: pn)) [.Return (some e) rp] (fun D σ H => ∃ nm C v b, cls = .ref C ∧ d = none ∧ X.mg nm = some (.ref C) ∧ hvE S n (tbl nm) 30 e = some v ∧ tbl nm c = some b ∧ tHV i ae v σ H D.rt) := by
  refine ⟨fun pins s σ H D I ⟨nm, D', v, b, e1, e2, e3, e4, e5, h⟩ => ?_⟩
  subst e1 e2
  have pe := hv_ok (a := ae) (pn := pn) o.n o.sc hi o.g ex e3 hz hf ⟨c, b, e5⟩ 30 e v e4
  exact (pss_one (ps_ret pe)).run pins s σ H D I h
end
theorem bols_dpa {K : PySem.W.Frag} {F : Hp} : ∀ ks : List Bool, DpAll K F (ks.map V.bl) (ks.map PyData.bool)
  | [] => .nil
  | k :: ks => .cons (.bl k) (bols_dpa ks)
section
variable {P : Program} {w : World} {K : PySem.W.Frag} {mg : Str → Option Value} {base : Heap} {x qual : Str} {params : Arguments} {body : List Stmt} {scope : Scope} {dvs : List V} {kws : List (Str × V)} {f : Addr} {fd : FuncData} {N ps : List Str} {j k m a b i : Nat} {fi : FI} {G : List (Str × GE)}
  {B tail : List Stmt} {c n : Str} {e : Expr} {np rp hpos tpos : Pos} {tbl : Str → Str → Option Bool}
theorem def_try (F : FunD K x qual params body scope dvs kws f fd) (S : FnScope N ps scope) (hp : ps.length = fi.n) (hN : N.length = fi.n + m) (hix : fi.ix = none) (hG : ∀ y g, G.lookup y = some g → GlobOk P w K mg base k y g)
    (hbody : body = .Try B [.ExceptHandler (some (.Name c np)) (some n) [.Return (some e) rp] hpos] [] [] tpos :: tail)
    (hi : rdIx ⟨scope, N, fun _ => true, G⟩ n = some i) (hl : kindB scope n .local = true) (hc : isExc ⟨scope, N, fun _ => true, G⟩ c = true) (ex : ExF K mg tbl)
    (rd : ∀ ds Qd X, ds.length = fi.n → fi.sp ds Qd X → svs a b ⟨scope, N, fun _ => true, G⟩ B (xTry tbl c (fun nm => hvE ⟨scope, N, fun _ => true, G⟩ n (tbl nm) 30 e) (fun r => Qd r .none) X)
      ⟨svs a b ⟨scope, N, fun _ => true, G⟩ tail X ⟨fun σ => Qd (.d .none) .none, fun r σ => Qd r .none, fun _ => False, fun _ => False⟩, fun r σ => Qd r .none, fun _ => False, fun _ => False⟩ (startD fi.ix m 0 ds)) :
    FnG P w K mg base (L2.CX P w) (k + 1) f fd ps (spD K mg fi) := by
  refine okG F S (fun vs H Q E h => ?_) (fun cdv A outer s H vs Q E gd hr h => ?_)
  · obtain ⟨_, _, _, _, _, hv, _⟩ := h
    rw [hv, hp]
  · obtain ⟨Fz, ds, Wx, Qd, g, hv, hd, args, hs, q, xo⟩ := h
    have o := tok_def (qual := qual) (f := f) S hG (cdv := cdv) (outer := outer) (H := H) (E := E) gd hr
    have gc : Gl (cxOf (L2.CX P w) P w K mg base N qual scope f cdv A outer s H E) c ∧ ∃ C, mg c = some (.ref C) ∧ (c == ("__debug__" : Str)) = false := by
      unfold isExc at hc
      split at hc
      · rename_i z
        obtain ⟨h1, ⟨C, h2, _⟩, h3, _⟩ := o.toSOk.gl z
        exact ⟨h1, C, h2, h3⟩
      · cases hc
    obtain ⟨gc, C, mC, hdb⟩ := gc
    have hloc : (cxOf (L2.CX P w) P w K mg base N qual scope f cdv A outer s H E).env.kindOf n = some .local := of_decide_eq_true (show kindB scope n .local = true from hl)
    have main := ps_try_as (X := cxOf (L2.CX P w) P w K mg base N qual scope f cdv A outer s H E) (x := c) (np := np) (c := .ref C) (pos' := hpos) (pos := tpos) (Wout := fun cls d _ H => E cls d H)
      (tb := fun W => tDS K mg (eTr N W) (svs a b ⟨scope, N, fun _ => true, G⟩ B)) (body := B) (b₀ := .Return (some e) rp) (suite := [])
      rfl rfl S.nd (o.toSOk.rd hi).1 hloc ⟨gc, hdb, .inl mC⟩ o.tk (fun W pn xe tk ow => svs_ok (o.tr tk ow) a b B)
      (fun ae oe cls d pn hz hf => suite_ok (c := c) (e := e) (rp := rp) o hi ex ae oe cls d pn hz hf)
    have all := pss_cons main (svs_ok o a b tail)
    rw [hbody]
    refine ⟨_, all, ?_⟩
    have hps : psOf fi.ix vs = [] := by rw [hix]; rfl
    rw [hps] at q xo
    have fin : ∀ {v : V} {r : Rv} {F' H' : Hp}, Ext ⟨H, Fz, [], []⟩ F' H' → RetR K H F' H' v r → Qd r .none → Q v H' := fun {v r F' H'} ex rr h => q v r .none F' H' ex rr (fun p hp => by cases hp) h
    have I := start_iv (K := K) (N := N) (m := m) hN g hv hd args
    rw [hps] at I
    have h0 := rd ds Qd Wx hd hs
    have ioc : ∀ σ, ioC fi.ix σ = .none := fun σ => by rw [hix]; rfl
    have back : ∀ {v : V} {r : Rv} {σ' : St} {F' H' : Hp} {σd' : SD}, Iv K ⟨H, Fz, [], []⟩ F' H' σ' σd' → RvR K ⟨H, Fz, [], []⟩ F' H' σ' σd' v r → Qd r .none → Q v H' := fun {v r σ' F' H' σd'} I' rr h => by
      refine fin I'.toExt ?_ h
      cases r with
      | d y => exact rr
      | f y =>
        obtain ⟨p, e, f⟩ := rr
        exact ⟨p, e, f.fz, f.h0, f.at_⟩
    refine ⟨⟨H, Fz, [], []⟩, Fz, _, _, _, I, ?_, h0, ⟨fun σ' F' H' σd' I' g' h' => ?_, fun v r σ' F' H' σd' I' rr _ hq => back I' rr hq, fun _ _ _ _ _ _ z => z.elim, fun _ _ _ _ _ _ z => z.elim⟩⟩
    · -- an error
      intro nm D F' H' hx hm ext σ' hσ
      rcases hx with ⟨t1, v, hv', fits, hq⟩ | ⟨t1, hx⟩
      · obtain ⟨D', C', m1, m2, e1, e2, oc⟩ := ex nm c true t1
        rw [hm] at m1
        rw [mC] at m2
        cases m1
        cases m2
        refine ⟨true, e1, fun _ ae _ => ⟨nm, D, v, true, rfl, rfl, hm, hv', t1, ?_, ?_⟩, fun z => by cases z⟩
        · have hlt : i < N.length := by
            have := (o.toSOk.rd hi).1
            exact (List.getElem?_eq_some_iff.mp this).1
          rw [List.getElem?_set_self (by rw [hσ]; exact hlt)]
        · cases v with
          | b k => exact fin (r := .d (.bool k)) ext (Dp.bl k) hq
          | s y => exact fin (r := .d (.str y)) ext (Dp.str y) hq
          | l ks =>
            refine ⟨fits, fun p hp => ?_⟩
            have fp : F' p = none := by
              cases z : F' p with
              | none => rfl
              | some u => rw [ext.sub _ _ z] at hp; cases hp
            have h0p : H p = none := by
              cases z : H p with
              | none => rfl
              | some u => exact absurd hp (ext.trk p (show H p ≠ none from by rw [z]; exact fun z => by cases z))
            have ext2 : Ext ⟨H, Fz, [], []⟩ F' (upd H' p (.lst (ks.map .bl))) := by
              refine ⟨fun y u z => ?_, ext.old, fun y u z hy => ?_, fun y z => ?_⟩
              · rw [upd_ne (ne_of_none z fp)]
                exact ext.sub _ _ z
              · rw [upd_ne (ne_of_none z h0p)]
                exact ext.keep y u z hy
              · rw [upd_ne (fun (e : y = p) => z (show H y = none from by rw [e]; exact h0p))]
                exact ext.trk y z
            refine fin (r := .f (.list (ks.map .bool))) ext2 ⟨p, rfl, fp, h0p, ks.map .bl, upd_same, ?_⟩ hq
            exact bols_dpa ks
      · obtain ⟨D', C', m1, m2, e1, e2, oc⟩ := ex nm c false t1
        rw [hm] at m1
        rw [mC] at m2
        cases m1
        cases m2
        exact ⟨false, e1, fun z => (by cases z), fun _ => xo nm D F' H' hx hm ext⟩
    · -- behind the try
      exact ⟨⟨H, Fz, [], []⟩, F', σd', Wx, _, I', xo, h', ⟨fun σ2 F2 H2 σd2 I2 _ hq => back (r := .d .none) I2 Dp.non hq, fun v r σ2 F2 H2 σd2 I2 rr _ hq => back I2 rr hq, fun _ _ _ _ _ _ z => z.elim, fun _ _ _ _ _ _ z => z.elim⟩⟩
end
end DL
end L2
set_option Elab.async false
set_option maxRecDepth 100000
set_option maxHeartbeats 1000000
/-! The data layer, part 20: rows for simp; loops. -/
namespace L2
open PySem PySem.Spec PyProof.Rows
namespace DL

/-- by a truth -/
def onB (r : Rv) (A B : Prop) : Prop := match r with
  | .d (.bool true) => A
  | .d (.bool false) => B
  | _ => False
def onO (r : Rv) (A B : Prop) : Prop := match r with
  | .d (.bool false) => A
  | .d (.bool true) => B
  | _ => False
def onT (r : Rv) (F : Bool → Prop) : Prop := match r with
  | .d (.bool k) => F k
  | _ => False
@[simp] theorem onB_b {b : Bool} {A B : Prop} : onB (.d (.bool b)) A B ↔ if b = true then A else B := by cases b <;> simp [onB]
@[simp] theorem onO_b {b : Bool} {A B : Prop} : onO (.d (.bool b)) A B ↔ if b = true then B else A := by cases b <;> simp [onO]
@[simp] theorem onT_b {b : Bool} {F : Bool → Prop} : onT (.d (.bool b)) F ↔ F b := Iff.rfl
/-- a slot that may be set -/
def freeSl (s : Option Sl) : Prop := match s with
  | some (.io _) => False
  | none => False
  | _ => True
@[simp] theorem free_un : freeSl (some .un) ↔ True := Iff.rfl
@[simp] theorem free_val {d : D} : freeSl (some (.val d)) ↔ True := Iff.rfl
@[simp] theorem free_own {d : D} : freeSl (some (.own d)) ↔ True := Iff.rfl
@[simp] theorem free_io {d : D} : freeSl (some (.io d)) ↔ False := Iff.rfl
section
variable {X : XW} {D' : EndsD} {σ : SD} {Q : Rv → SD → Prop} {QT : Bool → SD → Prop} {a c e o u : Opd} {w w' v : WE} {t t' : WT} {s s' : WS} {os : List Opd} {i j l : Nat} {d : D} {p p' : P2} {p1 : P1} {pl : PL} {fi : FI} {wi : WI} {g : WG} {gs : WGs} {vs : List Nat}
@[simp] theorem s_nx : wNx X D' σ ↔ D'.nx σ := Iff.rfl
@[simp] theorem s_seq : wSeq s s' X D' σ ↔ s X { D' with nx := fun σ1 => s' X D' σ1 } σ := Iff.rfl
@[simp] theorem s_ex : wEx w X D' σ ↔ w X σ fun _ σ1 => D'.nx σ1 := Iff.rfl
@[simp] theorem s_ret : wRet w X D' σ ↔ w X σ fun r σ1 => D'.rt r σ1 := Iff.rfl
@[simp] theorem s_retN : wRetN X D' σ ↔ D'.rt (.d .none) σ := Iff.rfl
@[simp] theorem s_if : wIf t s s' X D' σ ↔ t X σ fun k σ1 => if k = true then s X D' σ1 else s' X D' σ1 := Iff.rfl
@[simp] theorem s_bk : wBk X D' σ ↔ D'.bk σ := Iff.rfl
@[simp] theorem s_ct : wCt X D' σ ↔ D'.ct σ := Iff.rfl
@[simp] theorem s_set : wSet i w X D' σ ↔ w X σ fun r σ1 => noIo σ1 i ∧ D'.nx (σ1.set i (slOf r)) := Iff.rfl
@[simp] theorem s_for : wFor wi g s X D' σ ↔ wi X σ fun items σ1 => forD X D' g s items σ1 := Iff.rfl
@[simp] theorem s_raise {nm : Str} : wRaise nm X D' σ ↔ X nm := Iff.rfl
@[simp] theorem s_asg : wAsg w g X D' σ ↔ w X σ (dz fun d σ1 => g d σ1 D'.nx) := Iff.rfl
@[simp] theorem s_sets2 : wSets2 i j w w' X D' σ ↔ w X σ fun r1 σ1 => w' X σ1 fun r2 σ2 => noIo σ2 i ∧ noIo σ2 j ∧ D'.nx ((σ2.set i (slOf r1)).set j (slOf r2)) := Iff.rfl
@[simp] theorem s_sets3 : wSets3 i j l w w' v X D' σ ↔ w X σ fun r1 σ1 => w' X σ1 fun r2 σ2 => v X σ2 fun r3 σ3 => noIo σ3 i ∧ noIo σ3 j ∧ noIo σ3 l ∧ D'.nx (((σ3.set i (slOf r1)).set j (slOf r2)).set l (slOf r3)) := Iff.rfl
@[simp] theorem s_c : wC d X σ Q ↔ Q (.d d) σ := Iff.rfl
@[simp] theorem s_w1 : w1 p1 a X σ Q ↔ wO a X σ fun x σ1 => ∃ d, rs σ1 x = some d ∧ p1 d fun r => Q r σ1 := Iff.rfl
@[simp] theorem s_w2 : w2 p a c X σ Q ↔ wO a X σ fun x σ1 => wO c X σ1 fun y σ2 => ∃ d e, rs σ2 x = some d ∧ rs σ2 y = some e ∧ p d e fun r => Q r σ2 := Iff.rfl
@[simp] theorem s_wL : wL pl os X σ Q ↔ wOs os X σ fun xs σ1 => ∃ ds, rsL σ1 xs = some ds ∧ pl ds fun r => Q r σ1 := Iff.rfl
@[simp] theorem s_oex {R : AV → SD → Prop} : wO (.ex w) X σ R ↔ w X σ (dz fun d σ' => R (.d d) σ') := Iff.rfl
@[simp] theorem s_obr {R : AV → SD → Prop} : wO (.br i) X σ R ↔ (∃ d, rs σ (.b i) = some d) ∧ R (.b i) σ := Iff.rfl
@[simp] theorem s_os0 {R : List AV → SD → Prop} : wOs [] X σ R ↔ R [] σ := Iff.rfl
@[simp] theorem s_os1 {R : List AV → SD → Prop} : wOs (o :: os) X σ R ↔ wO o X σ fun av σ1 => wOs os X σ1 fun avs σ2 => R (av :: avs) σ2 := Iff.rfl
@[simp] theorem s_rsd {x : D} : rs σ (.d x) = some x := rfl
@[simp] theorem s_rsb : rs σ (.b i) = (σ[i]?).bind slD := rfl
@[simp] theorem s_rsL0 : rsL σ [] = some [] := rfl
@[simp] theorem s_rsL1 {x : AV} {xs : List AV} : rsL σ (x :: xs) = (match rs σ x, rsL σ xs with
  | some d, some ds => some (d :: ds)
  | _, _ => none) := rfl
@[simp] theorem s_dzd {R : D → SD → Prop} {x : D} : dz R (.d x) σ ↔ R x σ := Iff.rfl
@[simp] theorem s_dzf {R : D → SD → Prop} {x : List D} : dz R (.f (.list x)) σ ↔ R (.list x) σ := ⟨fun h => h.2, fun h => ⟨rfl, h⟩⟩
@[simp] theorem s_un : slD .un = none := rfl
@[simp] theorem s_val : slD (.val d) = some d := rfl
@[simp] theorem s_own : slD (.own d) = some d := rfl
@[simp] theorem s_io : slD (.io d) = some d := rfl
@[simp] theorem s_tB : wtB w X σ QT ↔ w X σ fun r σ1 => onT r fun k => QT k σ1 := Iff.rfl
@[simp] theorem s_tnot : wtNot t X σ QT ↔ t X σ fun k σ1 => QT (!k) σ1 := Iff.rfl
@[simp] theorem s_tand : wtAnd t t' X σ QT ↔ t X σ fun k σ1 => if k = true then t' X σ1 QT else QT false σ1 := Iff.rfl
@[simp] theorem s_tor : wtOr t t' X σ QT ↔ t X σ fun k σ1 => if k = true then QT true σ1 else t' X σ1 QT := Iff.rfl
@[simp] theorem s_tyes : wtYes X σ QT ↔ QT true σ := Iff.rfl
@[simp] theorem s_eand : weAnd w w' X σ Q ↔ w X σ fun r σ1 => onB r (w' X σ1 Q) (Q (.d (.bool false)) σ1) := Iff.rfl
@[simp] theorem s_eor : weOr w w' X σ Q ↔ w X σ fun r σ1 => onO r (w' X σ1 Q) (Q (.d (.bool true)) σ1) := Iff.rfl
@[simp] theorem s_enot : weNot w X σ Q ↔ w X σ fun r σ1 => onT r fun k => Q (.d (.bool (!k))) σ1 := Iff.rfl
@[simp] theorem s_eif : weIf t w w' X σ Q ↔ t X σ fun k σ1 => if k = true then w X σ1 Q else w' X σ1 Q := Iff.rfl
@[simp] theorem s_w3 : w3 p p' a c e X σ Q ↔ wO a X σ fun x σ1 => wO c X σ1 fun y σ2 => ∃ d1 d2, rs σ2 x = some d1 ∧ rs σ2 y = some d2 ∧ p d1 d2 fun r => onB r (wO e X σ2 fun z σ3 => ∃ d2' d3, rs σ3 y = some d2' ∧ rs σ3 z = some d3 ∧ p' d2' d3 fun r => Q r σ3) (Q (.d (.bool false)) σ2) := Iff.rfl
@[simp] theorem s_isi {T : String} : wIsi T o X σ Q ↔ wO o X σ fun a σ1 => ∃ d, rs σ1 a = some d ∧ Q (.d (.bool (isiB (tyD d) T))) σ1 := Iff.rfl
@[simp] theorem s_n : wN i X σ Q ↔ (match σ[i]? with
  | some (.val d) => Q (.d d) σ
  | some (.own d) => fzD d = true ∧ Q (.d d) (σ.set i (.val d))
  | _ => False) := Iff.rfl
@[simp] theorem s_mv : wMv i X σ Q ↔ (match σ[i]? with
  | some (.val d) => Q (.d d) σ
  | some (.own d) => Q (.f d) (σ.set i .un)
  | _ => False) := Iff.rfl
@[simp] theorem s_noIo : noIo σ i ↔ freeSl σ[i]? := Iff.rfl
@[simp] theorem s_slOfd : slOf (.d d) = .val d := rfl
@[simp] theorem s_slOff : slOf (.f d) = .own d := rfl
@[simp] theorem s_tup : wTup os X σ Q ↔ wOs os X σ fun xs σ1 => ∃ ds, avD xs = some ds ∧ ds.length ≤ sizeLine ∧ Q (.d (.tuple ds)) σ1 := Iff.rfl
@[simp] theorem s_lst : wLst os X σ Q ↔ wOs os X σ fun xs σ1 => ∃ ds, avD xs = some ds ∧ ds.length ≤ sizeLine ∧ Q (.f (.list ds)) σ1 := Iff.rfl
@[simp] theorem s_avD0 : avD [] = some [] := rfl
@[simp] theorem s_avD1 {x : D} {r : List AV} : avD (.d x :: r) = (avD r).map (x :: ·) := rfl
@[simp] theorem s_avDb {r : List AV} : avD (.b i :: r) = none := rfl
@[simp] theorem s_iseq {R : List D → SD → Prop} : wiSeq w X σ R ↔ w X σ (dz fun d σ1 => ∃ l, itemsD d = some l ∧ R l σ1) := Iff.rfl
@[simp] theorem s_irng1 {R : List D → SD → Prop} : wiRng1 o X σ R ↔ wO o X σ fun a σ1 => ∃ j, rs σ1 a = some (.int j) ∧ (-(2 ^ 62) ≤ j ∧ j < 2 ^ 62) ∧ R (rangeD 0 j.toNat) σ1 := Iff.rfl
@[simp] theorem s_irng2 {R : List D → SD → Prop} : wiRng2 o u X σ R ↔ wO o X σ fun a σ1 => wO u X σ1 fun c σ2 => ∃ i j, rs σ2 a = some (.int i) ∧ rs σ2 c = some (.int j) ∧ (-(2 ^ 62) ≤ i ∧ i < 2 ^ 62 ∧ -(2 ^ 62) ≤ j ∧ j < 2 ^ 62) ∧ R (rangeD i (j - i).toNat) σ2 := Iff.rfl
@[simp] theorem s_ienum {R : List D → SD → Prop} : wiEnum w X σ R ↔ w X σ (dz fun d σ1 => ∃ l, d = .list l ∧ R (enumD 0 l) σ1) := Iff.rfl
@[simp] theorem s_izip {R : List D → SD → Prop} : wiZip w w' X σ R ↔ w X σ (dz fun d σ1 => w' X σ1 (dz fun e σ2 => match d, e with
  | .list l, .list m => R (zipD l m) σ2
  | .tuple l, .tuple m => R (zipD l m) σ2
  | _, _ => False)) := Iff.rfl
@[simp] theorem s_gN {R : SD → Prop} : wgN i d σ R ↔ noIo σ i ∧ R (σ.set i (.val d)) := Iff.rfl
@[simp] theorem s_gT {n : Nat} {R : SD → Prop} : wgT n gs d σ R ↔ ∃ ds, d = .tuple ds ∧ ds.length = n ∧ gs ds σ R := Iff.rfl
@[simp] theorem s_gnil {R : SD → Prop} {ds : List D} : wgNil ds σ R ↔ ds = [] ∧ R σ := Iff.rfl
@[simp] theorem s_gcons {R : SD → Prop} {r : List D} : wgCons g gs (d :: r) σ R ↔ g d σ fun σ1 => gs r σ1 R := Iff.rfl
@[simp] theorem s_gcons0 {R : SD → Prop} : wgCons g gs [] σ R ↔ False := Iff.rfl
@[simp] theorem s_call : wCall fi os X σ Q ↔ wOs os X σ fun avs σ1 => ∃ ds, rsL σ1 avs = some ds ∧ avs.length = fi.n ∧ argsOkD fi.ix σ1 0 avs ∧ lendsNot fi.ix (ioSlot fi.ix avs) 0 avs ∧
  fi.sp ds (fun r c => (lends fi.ix σ1 0 avs = true → noLR r = true ∧ noLc c = true) ∧ Q r (putIo σ1 (ioSlot fi.ix avs) c)) X := Iff.rfl
@[simp] theorem s_start0 {ix : Option Nat} {m k : Nat} : startD ix m k [] = List.replicate m .un := rfl
@[simp] theorem s_start1 {ix : Option Nat} {m k : Nat} {r : List D} : startD ix m k (d :: r) = (if ix = some k then .io d else .val d) :: startD ix m (k + 1) r := rfl
@[simp] theorem s_pop : wPop i X σ Q ↔ ∃ l d, mutL σ i = some l ∧ l[l.length - 1]? = some d ∧ Q (.d d) (putS σ i (.list l.dropLast)) := Iff.rfl
@[simp] theorem s_popAt : wPopAt i o X σ Q ↔ (∃ l, mutL σ i = some l) ∧ wO o X σ fun a σ1 => ∃ l j k d, rs σ1 a = some (.int j) ∧ mutL σ1 i = some l ∧ -(2 ^ 63) ≤ j ∧ j < 2 ^ 63 ∧ seqIndex? j l.length = some k ∧ l[k]? = some d ∧ Q (.d d) (putS σ1 i (.list (l.eraseIdx k))) := Iff.rfl
@[simp] theorem s_app : wApp i w X σ Q ↔ (∃ l, mutL σ i = some l) ∧ w X σ (dz fun d σ1 => ∃ l, mutL σ1 i = some l ∧ l.length < sizeLine ∧ Q (.d .none) (putS σ1 i (.list (l ++ [d])))) := Iff.rfl
@[simp] theorem s_augI {j : Int} (h : rs σ (.b i) = some (.int j)) : wAug i o X D' σ ↔ wO o X σ fun a σ1 => ∃ k, rs σ1 a = some (.int k) ∧ noIo σ1 i ∧ D'.nx (σ1.set i (.val (.int (j + k)))) := by
  unfold wAug
  rw [h]
  simp only [Option.some.injEq, exists_eq_left']
@[simp] theorem s_augL {l0 : List D} (h : rs σ (.b i) = some (.list l0)) : wAug i o X D' σ ↔ wO o X σ fun a σ1 => ∃ l m, mutL σ1 i = some l ∧ rs σ1 a = some (.list m) ∧ l.length + m.length ≤ sizeLine ∧ D'.nx (putS σ1 i (.list (l ++ m))) := by
  unfold wAug
  rw [h]
  simp only [Option.some.injEq, exists_eq_left']
@[simp] theorem s_augS : wAugSub i o X D' σ ↔ ∃ j, rs σ (.b i) = some (.int j) ∧ wO o X σ fun a σ1 => ∃ k, rs σ1 a = some (.int k) ∧ noIo σ1 i ∧ D'.nx (σ1.set i (.val (.int (j - k)))) := Iff.rfl
@[simp] theorem s_or : wsOr s s' X D' σ ↔ s X D' σ ∨ s' X D' σ := Iff.rfl
@[simp] theorem s_sub : wSub i o w X D' σ ↔ w X σ (dz fun d σ1 => (∃ l, mutL σ1 i = some l) ∧ wO o X σ1 fun a σ2 => ∃ l j k, rs σ2 a = some (.int j) ∧ mutL σ2 i = some l ∧ ixN l.length j = some k ∧ D'.nx (putS σ2 i (.list (l.set k d)))) := Iff.rfl
@[simp] theorem s_subD : wSubD i o w X D' σ ↔ w X σ (dz fun d σ1 => (∃ l, mutK σ1 i = some l ∧ isKD l) ∧ wO o X σ1 fun a σ2 => ∃ l k, rs σ2 a = some (keyD k) ∧ mutK σ2 i = some l ∧ isKD l ∧ l.length < sizeLine ∧ D'.nx (putS σ2 i (.dict (putD l (keyD k) d)))) := Iff.rfl
@[simp] theorem s_dnew : wDnew X σ Q ↔ Q (.f (.dict [])) σ ∨ Q (.f (.dict [(.none, .none)])) σ := Iff.rfl
@[simp] theorem s_lstRg1 : wLstRg1 o X σ Q ↔ wO o X σ fun a σ1 => ∃ n, rs σ1 a = some (.int n) ∧ RgOk 0 n ∧ Q (.f (.list (rangeD 0 n.toNat))) σ1 := Iff.rfl
@[simp] theorem s_lstRg2 : wLstRg2 o u X σ Q ↔ wO o X σ fun a σ1 => wO u X σ1 fun c σ2 => ∃ m n, rs σ2 a = some (.int m) ∧ rs σ2 c = some (.int n) ∧ RgOk m n ∧ Q (.f (.list (rangeD m (n - m).toNat))) σ2 := Iff.rfl
@[simp] theorem s_srtSet : wSrtSet o X σ Q ↔ wO o X σ fun a σ1 => ∃ l ns, rs σ1 a = some (.list l) ∧ intsD l = some ns ∧ ns.length + 1 < 4096 ∧ Q (.f (.list ((srtSet ns).map .int))) σ1 := Iff.rfl
@[simp] theorem s_alt {w u : WE} : weAlt w u X σ Q ↔ w X σ Q ∨ u X σ Q := Iff.rfl
@[simp] theorem s_srtSetP : wSrtSetP o X σ Q ↔ wO o X σ fun a σ1 => ∃ ps : List Pr, rs σ1 a = some (.list (ps.map pairD)) ∧ ps.length < 64 ∧ ∀ ys, SrtP ys → (∀ p, p ∈ ys ↔ p ∈ ps) → Q (.f (.list (ys.map pairD))) σ1 := Iff.rfl
@[simp] theorem s_idx : wIdx i o X σ Q ↔ (∃ l, rs σ (.b i) = some (.list l)) ∧ wO o X σ fun a σ1 => ∃ (l : List Int) (y : Int) (j : Nat), rs σ1 (.b i) = some (.list (l.map .int)) ∧ rs σ1 a = some (.int y) ∧ l[j]? = some y ∧ (∀ m, m < j → l[m]? ≠ some y) ∧ Q (.d (.int (j : Nat))) σ1 := Iff.rfl
@[simp] theorem s_step : wStep o u X σ Q ↔ wO o X σ fun a σ1 => wO u X σ1 fun c σ2 => ∃ d k, rs σ2 a = some d ∧ rs σ2 c = some (.int k) ∧ StepOk k ∧ (match d with
  | .list l => Q (.f (.list (byStep l k))) σ2
  | .tuple l => Q (.d (.tuple (byStep l k))) σ2
  | _ => False) := Iff.rfl
@[simp] theorem s_lc : wLc wi vs g t w X σ Q ↔ wi X σ fun items σ1 => (∀ v ∈ vs, noIo σ1 v) ∧ lcD noX vs g t w (fun acc σ => Q (.f (.list acc)) (restD σ1 vs σ)) items [] (wipeD σ1 vs) := Iff.rfl
end
section
variable {ix : Option Nat} {σ : SD} {i j k : Nat} {d e : D} {x : AV} {r : List AV} {l m : List D} {z : Int} {b c : Bool} {Q : Rv → Prop}
@[simp] theorem q_args0 : argsOkD ix σ j [] ↔ True := Iff.rfl
@[simp] theorem q_args1 : argsOkD ix σ j (x :: r) ↔ argOk ix σ j x ∧ argsOkD ix σ (j + 1) r := Iff.rfl
@[simp] theorem q_argd : argOk ix σ j (.d d) ↔ ix ≠ some j := Iff.rfl
@[simp] theorem q_argb : argOk ix σ j (.b i) ↔ (match σ[i]? with
  | some (.val _) => ix ≠ some j
  | some (.own d) => if ix = some j then True else fzD d = true
  | some (.io d) => if ix = some j then True else fzD d = true
  | _ => False) := Iff.rfl
@[simp] theorem q_ln0 {i0 : Option Nat} : lendsNot ix i0 j [] ↔ True := Iff.rfl
@[simp] theorem q_lnb {i0 : Option Nat} : lendsNot ix i0 j (.b i :: r) ↔ (ix ≠ some j → i0 ≠ some i) ∧ lendsNot ix i0 (j + 1) r := Iff.rfl
@[simp] theorem q_lnd {i0 : Option Nat} : lendsNot ix i0 j (.d d :: r) ↔ lendsNot ix i0 (j + 1) r := Iff.rfl
@[simp] theorem q_l0 : lends ix σ j [] = false := rfl
@[simp] theorem q_lb : lends ix σ j (.b i :: r) = ((isMut σ i && !decide (ix = some j)) || lends ix σ (j + 1) r) := rfl
@[simp] theorem q_ld : lends ix σ j (.d d :: r) = lends ix σ (j + 1) r := rfl
@[simp] theorem q_mut : isMut σ i = (match σ[i]? with
  | some (.own _) => true
  | some (.io _) => true
  | _ => false) := rfl
@[simp] theorem q_ios0 {avs : List AV} : ioSlot none avs = none := rfl
@[simp] theorem q_ios1 {avs : List AV} : ioSlot (some j) avs = (match avs[j]? with
  | some (.b i) => some i
  | _ => none) := rfl
@[simp] theorem q_pio0 : putIo σ none d = σ := rfl
@[simp] theorem q_pio1 : putIo σ (some i) d = putS σ i d := rfl
@[simp] theorem q_put : putS σ i d = (match σ[i]? with
  | some (.own _) => σ.set i (.own d)
  | some (.io _) => σ.set i (.io d)
  | _ => σ) := rfl
@[simp] theorem q_mutL : mutL σ i = (match σ[i]? with
  | some (.own (.list l)) => some l
  | some (.io (.list l)) => some l
  | _ => none) := rfl
@[simp] theorem q_mutK : mutK σ i = (match σ[i]? with
  | some (.own (.dict l)) => some l
  | some (.io (.dict l)) => some l
  | _ => none) := rfl
@[simp] theorem q_rest0 {τ : SD} : restD σ [] τ = τ := rfl
@[simp] theorem q_rest1 {τ : SD} {vs : List Nat} : restD σ (i :: vs) τ = (match σ[i]? with
  | some (.val d) => (restD σ vs τ).set i (.val d)
  | _ => restD σ vs τ) := rfl
@[simp] theorem q_wipe0 : wipeD σ [] = σ := rfl
@[simp] theorem q_wipe1 {vs : List Nat} : wipeD σ (i :: vs) = (wipeD σ vs).set i .un := rfl
@[simp] theorem q_itl : itemsD (.list l) = some l := rfl
@[simp] theorem q_itt : itemsD (.tuple l) = some l := rfl
@[simp] theorem q_pB {g : Int → Int → Bool} {y : Int} : pB g (.int z) (.int y) Q ↔ Q (.d (.bool (g z y))) := Iff.rfl
@[simp] theorem q_pI {g : Int → Int → Int} {y : Int} : pI g (.int z) (.int y) Q ↔ Q (.d (.int (g z y))) := Iff.rfl
@[simp] theorem q_pIC {C : Int → Int → Prop} {g : Int → Int → Int} {y : Int} : pIC C g (.int z) (.int y) Q ↔ C z y ∧ Q (.d (.int (g z y))) := Iff.rfl
@[simp] theorem q_neg : pNeg (.int z) Q ↔ Q (.d (.int (-z))) := Iff.rfl
@[simp] theorem q_ixl : pIx (.list l) (.int z) Q ↔ ∃ d, atI l z = some d ∧ Q (.d d) := Iff.rfl
@[simp] theorem q_ixt : pIx (.tuple l) (.int z) Q ↔ ∃ d, atI l z = some d ∧ Q (.d d) := Iff.rfl
@[simp] theorem q_lenl : pLen [.list l] Q ↔ Q (.d (.int l.length)) := Iff.rfl
@[simp] theorem q_lent : pLen [.tuple l] Q ↔ Q (.d (.int l.length)) := Iff.rfl
@[simp] theorem q_abs : pAbs [.int z] Q ↔ Q (.d (.int (if z < 0 then -z else z))) := Iff.rfl
@[simp] theorem q_int : pInt [.int z] Q ↔ Q (.d (.int z)) := Iff.rfl
@[simp] theorem q_listl : pList [.list l] Q ↔ Q (.f (.list l)) := Iff.rfl
@[simp] theorem q_listt : pList [.tuple l] Q ↔ Q (.f (.list l)) := Iff.rfl
@[simp] theorem q_tupl : pTup [.list l] Q ↔ Q (.d (.tuple l)) := Iff.rfl
@[simp] theorem q_tupt : pTup [.tuple l] Q ↔ Q (.d (.tuple l)) := Iff.rfl
@[simp] theorem q_addi {y : Int} : pAdd (.int z) (.int y) Q ↔ Q (.d (.int (z + y))) := Iff.rfl
@[simp] theorem q_addl : pAdd (.list l) (.list m) Q ↔ l.length + m.length ≤ sizeLine ∧ Q (.f (.list (l ++ m))) := Iff.rfl
@[simp] theorem q_addt : pAdd (.tuple l) (.tuple m) Q ↔ l.length + m.length ≤ sizeLine ∧ Q (.d (.tuple (l ++ m))) := Iff.rfl
@[simp] theorem q_muli {y : Int} : pMulA (.int z) (.int y) Q ↔ IntMulOk z y ∧ Q (.d (.int (z * y))) := Iff.rfl
@[simp] theorem q_isN : pIs false d .none Q ↔ isDct d = false ∧ Q (.d (.bool (isN d))) := by
  unfold pIs
  simp
@[simp] theorem q_notN : pIs true d .none Q ↔ isDct d = false ∧ Q (.d (.bool (!isN d))) := by
  unfold pIs
  simp
@[simp] theorem q_isB : pIs false (.bool b) (.bool c) Q ↔ Q (.d (.bool (decide (b = c)))) := by
  unfold pIs
  simp
@[simp] theorem q_notB : pIs true (.bool b) (.bool c) Q ↔ Q (.d (.bool (!decide (b = c)))) := by
  unfold pIs
  simp
@[simp] theorem q_n0 : isN .none = true := rfl
@[simp] theorem q_n1 : isN (.bool b) = false := rfl
@[simp] theorem q_n2 : isN (.int z) = false := rfl
@[simp] theorem q_n4 : isN (.list l) = false := rfl
@[simp] theorem q_n5 : isN (.tuple l) = false := rfl
@[simp] theorem q_d0 : isDct .none = false := rfl
@[simp] theorem q_d1 : isDct (.bool b) = false := rfl
@[simp] theorem q_d2 : isDct (.int z) = false := rfl
@[simp] theorem q_d4 : isDct (.list l) = false := rfl
@[simp] theorem q_d5 : isDct (.tuple l) = false := rfl
@[simp] theorem q_ioc : ioC none σ = .none := rfl
@[simp] theorem q_iocj : ioC (some j) σ = (match σ[j]? with
  | some (.io c) => c
  | _ => .none) := rfl
@[simp] theorem q_fz : fzD (.list l) = true := rfl
end

/-! ### list comprehensions, run -/
section
variable {X : XW} {vs : List Nat} {g : WG} {t : WT} {w : WE} {Q : List D → SD → Prop} {σ : SD}
/-- one turn -/
def lcTurn (X : XW) (vs : List Nat) (g : WG) (t : WT) (w : WE) (d : D) (σ : SD) (A : D → SD → Prop) (B : SD → Prop) : Prop := g d σ fun σ1 => t X σ1 fun k σ2 => if k = true then w X σ2 (dz fun y σ3 => A y (wipeD σ3 vs)) else B (wipeD σ2 vs)
def lcRun {γ : Type} (f : D → γ → Option D × γ) : List D → γ → List D × γ
  | [], c => ([], c)
  | d :: ds, c => ((f d c).1.toList ++ (lcRun f ds (f d c).2).1, (lcRun f ds (f d c).2).2)
theorem lc_gen {γ : Type} (S : γ → SD) (P : γ → Prop) (f : D → γ → Option D × γ) : ∀ (items acc : List D) (c : γ), (∀ d ∈ items, ∀ c, P c → P (f d c).2 ∧ ∀ (A : D → SD → Prop) (B : SD → Prop), (match (f d c).1 with
    | some y => A y (S (f d c).2)
    | none => B (S (f d c).2)) → lcTurn X vs g t w d (S c) A B) → P c → acc.length + items.length ≤ sizeLine → (P (lcRun f items c).2 → Q (acc ++ (lcRun f items c).1) (S (lcRun f items c).2)) → lcD X vs g t w Q items acc (S c)
  | [], acc, c, _, hp, _, h => by
    have := h hp
    simp only [lcRun, List.append_nil] at this
    exact this
  | d :: ds, acc, c, st, hp, hl, h => by
    rw [List.length_cons] at hl
    obtain ⟨hp2, go⟩ := st d List.mem_cons_self c hp
    refine go (fun y σ3 => acc.length < sizeLine ∧ lcD X vs g t w Q ds (acc ++ [y]) σ3) (fun σ3 => lcD X vs g t w Q ds acc σ3) ?_
    simp only [lcRun] at h
    cases e : (f d c).1 with
    | some y =>
      rw [e] at h
      exact ⟨by omega, lc_gen S P f ds (acc ++ [y]) _ (fun d hd => st d (List.mem_cons_of_mem _ hd)) hp2 (by rw [List.length_append, List.length_singleton]; omega) (fun z => by rw [List.append_assoc]; exact h z)⟩
    | none =>
      rw [e] at h
      exact lc_gen S P f ds acc _ (fun d hd => st d (List.mem_cons_of_mem _ hd)) hp2 (by omega) (fun z => h z)
theorem lcRun_map (f : D → D) : ∀ l : List D, (lcRun (fun d (_ : Unit) => (some (f d), ())) l ()).1 = l.map f
  | [] => rfl
  | d :: l => by
    simp only [lcRun, List.map_cons, Option.toList, lcRun_map f l]
    rfl
theorem lcRun_filter (f : D → Option D) : ∀ l : List D, (lcRun (fun d (_ : Unit) => (f d, ())) l ()).1 = l.filterMap f
  | [] => rfl
  | d :: l => by
    simp only [lcRun, List.filterMap_cons, lcRun_filter f l]
    cases f d <;> rfl
theorem lc_map (f : D → D) (items : List D) (st : ∀ d ∈ items, ∀ (A : D → SD → Prop) (B : SD → Prop), A (f d) σ → lcTurn X vs g t w d σ A B) (hl : items.length ≤ sizeLine) (h : Q (items.map f) σ) : lcD X vs g t w Q items [] σ :=
  lc_gen (fun _ : Unit => σ) (fun _ => True) (fun d _ => (some (f d), ())) items [] () (fun d hd c _ => ⟨trivial, fun A B a => st d hd A B a⟩) trivial (by simpa using hl) fun _ => by
    rw [lcRun_map]
    exact h
theorem lc_filter (f : D → Option D) (items : List D) (st : ∀ d ∈ items, ∀ (A : D → SD → Prop) (B : SD → Prop), (match f d with
    | some y => A y σ
    | none => B σ) → lcTurn X vs g t w d σ A B) (hl : items.length ≤ sizeLine) (h : Q (items.filterMap f) σ) : lcD X vs g t w Q items [] σ :=
  lc_gen (fun _ : Unit => σ) (fun _ => True) (fun d _ => (f d, ())) items [] () (fun d hd c _ => ⟨trivial, fun A B a => st d hd A B a⟩) trivial (by simpa using hl) fun _ => by
    rw [lcRun_filter]
    exact h
@[simp] theorem lcTurn_def {d : D} {A : D → SD → Prop} {B : SD → Prop} : lcTurn X vs g t w d σ A B ↔ g d σ fun σ1 => t X σ1 fun k σ2 => if k = true then w X σ2 (dz fun y σ3 => A y (wipeD σ3 vs)) else B (wipeD σ2 vs) := Iff.rfl
end
/-! ### for, run -/
section
variable {X : XW} {D' : EndsD} {g : WG} {w : WS}
/-- one turn of a for -/
def forTurn (X : XW) (D' : EndsD) (g : WG) (w : WS) (d : D) (σ : SD) (nx : SD → Prop) : Prop := g d σ fun σ1 => w X { D' with nx := nx, ct := nx, bk := D'.nx } σ1
@[simp] theorem forTurn_def {d : D} {σ : SD} {nx : SD → Prop} : forTurn X D' g w d σ nx ↔ g d σ fun σ1 => w X { D' with nx := nx, ct := nx, bk := D'.nx } σ1 := Iff.rfl
/-- a state goes through the items -/
theorem for_gen {γ : Type} (S : γ → SD) (P : γ → Prop) (f : D → γ → γ) : ∀ (items : List D) (c : γ), (∀ d ∈ items, ∀ c, P c → P (f d c) ∧ ∀ nx : SD → Prop, nx (S (f d c)) → forTurn X D' g w d (S c) nx) → P c → (P (items.foldl (fun c d => f d c) c) → D'.nx (S (items.foldl (fun c d => f d c) c))) → forD X D' g w items (S c)
  | [], c, _, hp, h => h hp
  | d :: ds, c, st, hp, h => by
    obtain ⟨hp2, go⟩ := st d List.mem_cons_self c hp
    exact go _ (for_gen S P f ds _ (fun d hd => st d (List.mem_cons_of_mem _ hd)) hp2 h)
/-- any relation between the items left and the slots -/
theorem for_inv (I : List D → SD → Prop) (st : ∀ d ds σ, I (d :: ds) σ → ∀ nx : SD → Prop, (∀ σ', I ds σ' → nx σ') → forTurn X D' g w d σ nx) (fin : ∀ σ, I [] σ → D'.nx σ) : ∀ (items : List D) (σ : SD), I items σ → forD X D' g w items σ
  | [], σ, h => fin σ h
  | d :: ds, σ, h => st d ds σ h _ fun σ' h' => for_inv I st fin ds σ' h'
end
/-! ### while, run -/
section
variable {X : XW} {D' : EndsD} {t : WT} {w : WS} {σ : SD}
/-- one turn of a while -/
def whTurn (X : XW) (D' : EndsD) (t : WT) (w : WS) (σ : SD) (nx : SD → Prop) : Prop := t X σ fun k σ2 => if k = true then w X { D' with nx := nx, ct := nx, bk := D'.nx } σ2 else D'.nx σ2
@[simp] theorem whTurn_def {nx : SD → Prop} : whTurn X D' t w σ nx ↔ t X σ fun k σ2 => if k = true then w X { D' with nx := nx, ct := nx, bk := D'.nx } σ2 else D'.nx σ2 := Iff.rfl
/-- a state with a measure -/
theorem wh_gen {γ : Type} (S : γ → SD) (μ : γ → Nat) (P : γ → Prop) (c : γ) (hp : P c) (st : ∀ c, P c → ∀ nx : SD → Prop, (∀ c', P c' → μ c' < μ c → nx (S c')) → whTurn X D' t w (S c) nx) : wWhile t w X D' (S c) := by
  refine ⟨fun m σ => ∃ c, P c ∧ μ c = m ∧ σ = S c, ⟨μ c, c, hp, rfl, rfl⟩, ?_⟩
  rintro m σ1 ⟨c1, p1, rfl, rfl⟩
  exact st c1 p1 _ fun c' p' h => ⟨μ c', h, c', p', rfl, rfl⟩
end
end DL
end L2
set_option Elab.async false
set_option maxRecDepth 100000
set_option maxHeartbeats 1000000
/-! The head, part 1: a Hook with one more truth; facts about errors; defs never called. -/
namespace L2
open PySem PySem.Spec PyProof.Rows
namespace DL
/-! ### the Hook -/
abbrev AlQ : Type := He.AlD × Bool
def obsQ (n : Nat) (fa : List He.Fa) (fn : List He.DefD) (ex : PySem.W.Frag → Bool) (g : Addr → Option Obj) : AlQ := (He.obsD fa fn (He.frG g (He.asD g n)), ex (He.frG g (He.asD g n)))
structure SaysQ (fa : List He.Fa) (fn : List He.DefD) (ex : PySem.W.Frag → Bool) (K : PySem.W.Frag) : Prop where
  d : He.SaysD fa fn K
  more : ex K = true
def hookQ (n : Nat) (fa : List He.Fa) (fn : List He.DefD) (ex : PySem.W.Frag → Bool) : PySem.W.Hook where
  α := AlQ
  obs := fun s => obsQ n fa fn ex s.heap.get?
  val := fun _ => (He.valD fn, true)
  says := fun _ h => ∃ K : PySem.W.Frag, K.In h ∧ SaysQ fa fn ex K
  of := fun _ _ e => ⟨_, He.frG_in, ⟨congrArg (fun z : AlQ => z.1) e, congrArg (fun z : AlQ => z.2) e⟩⟩
  keeps := fun _ _ _ ⟨K, hK, c⟩ k => ⟨K, PySem.W.Frag.In.keeps hK k, c⟩
theorem obsQ_eq {n : Nat} {fa : List He.Fa} {fn : List He.DefD} {ex : PySem.W.Frag → Bool} {g : Addr → Option Obj} {s : Shared} (h : ∀ a, g a = s.heap.get? a) : obsQ n fa fn ex g = (hookQ n fa fn ex).obs s := by
  have e : g = s.heap.get? := funext h
  rw [e] <;> rfl
/-! ### errors -/
/-- what isinstance tells of errors, from a list -/
def tblOf (l : List (Str × Str × Bool)) (nm c : Str) : Option Bool := (l.find? fun p => decide (p.1 = nm) && decide (p.2.1 = c)).map (·.2.2)
def excB (K : PySem.W.Frag) (D : Addr) : Bool :=
  He.eqO (PySem.W.findIn K (.ref D) "__getattribute__") (some (some (.builtin "BaseException.__getattribute__"))) && (He.eqO (PySem.W.findIn K (.ref D) "__getattr__") (some none) &&
  (decide (PySem.W.subIn K (.ref D) (.type "BaseException") = some true) && (PySem.W.hasDictIn K D && (He.eqO (PySem.W.findIn K (.ref D) "__class__") (some (some (.builtin "object.__class__"))) &&
  (He.eqO (PySem.W.specialIn K (.builtin "object.__class__") "__get__") (some (some (.builtin "getset_descriptor.__get__"))) && (decide (PySem.W.takesIn K (.builtin "object.__class__") = some true) && decide (PySem.W.mroIn K D (.type "object") = some true)))))))
theorem excB_ok {K : PySem.W.Frag} {D : Addr} (h : excB K D = true) : ExcC K D := by
  unfold excB at h
  simp only [Bool.and_eq_true, decide_eq_true_eq] at h
  obtain ⟨h1, h2, h3, h4, h5, h6, h7, h8⟩ := h
  exact ⟨He.eqO_ok h1, He.eqO_ok h2, h3, h4, He.eqO_ok h5, He.eqO_ok h6, h7, h8⟩
def tabB (l : List (Str × Str × Bool)) (K : PySem.W.Frag) : Bool := l.all fun p => (He.Fa.glo p.1).ok K && ((He.Fa.glo p.2.1).ok K && (decide (PySem.W.exmOne K (.ref (He.ga K p.1)) (.ref (He.ga K p.2.1)) = some p.2.2) &&
  (decide (PySem.W.kitOne K (.ref (He.ga K p.1)) (.ref (He.ga K p.2.1)) = some p.2.2) && excB K (He.ga K p.1))))
theorem tabB_ok {l : List (Str × Str × Bool)} {K : PySem.W.Frag} {h : Heap} {mg : Str → Option Value} (X : K.In h) (G : h.Ns mainGlobals mg) (c : tabB l K = true) : ExF K mg (tblOf l) := by
  intro nm cl b e
  unfold tblOf at e
  cases q : l.find? fun p => decide (p.1 = nm) && decide (p.2.1 = cl) with
  | none => rw [q] at e; cases e
  | some p =>
    rw [q] at e
    cases e
    have h1 := List.mem_of_find?_eq_some q
    have h2 := List.find?_some q
    simp only [Bool.and_eq_true, decide_eq_true_eq] at h2
    obtain ⟨rfl, rfl⟩ := h2
    have h3 := List.all_eq_true.mp c p h1
    simp only [Bool.and_eq_true, decide_eq_true_eq] at h3
    obtain ⟨g1, g2, g3, g4, g5⟩ := h3
    exact ⟨_, _, He.glo_ok X G g1, He.glo_ok X G g2, g3, g4, excB_ok g5⟩
section
variable {P : Program} {w : World} {K : PySem.W.Frag} {mg : Str → Option Value} {base : Heap} {h : Heap} {x qual : Str} {params : Arguments} {body : List Stmt} {scope : Scope} {f : Addr} {fd : FuncData} {N ps : List Str} {k m : Nat} {fi : FI}
theorem glob_exc (X : K.In h) (G : h.Ns mainGlobals mg) {C : Str} (c1 : (He.Fa.glo C).ok K = true) (c2 : (He.Fa.exc C).ok K = true) : GlobOk P w K mg base k C .exc := by
  obtain ⟨h1, h2, h3, h4⟩ := He.exc_ok c2
  exact ⟨_, He.glo_ok X G c1, h1, h2, h3, h4⟩
theorem glob_int (X : K.In h) (G : h.Ns mainGlobals mg) {x : Str} {i : Int} (c : (He.Fa.int x i).ok K = true) : GlobOk P w K mg base k x (.cst (.int i)) := by
  obtain ⟨t, e⟩ := He.int_ok X G c
  exact ⟨.int i, _, e, ⟨t, rfl⟩, fun F => .int i⟩
theorem glob_blt (X : K.In h) (G : h.Ns mainGlobals mg) {x : Str} (c : (He.Fa.free x).ok K = true) : GlobOk P w K mg base k x .blt := He.free_ok X G c
theorem glob_tup (X : K.In h) (G : h.Ns mainGlobals mg) {x : Str} {vs : List He.Dv} {ds : List D} (c : (He.Fa.glo x).ok K = true) (t : He.tupB K x vs = true) (hd : ∀ F, DpAll K F (vs.map (He.Dv.v K)) ds) : GlobOk P w K mg base k x (.cst (.tuple ds)) :=
  ⟨.ref (He.ga K x), _, He.glo_ok X G c, rfl, fun F => .tup (He.tupB_ok t F) (hd F)⟩
/-- a def that nobody calls so -/
theorem glob_vac (F : FunD K x qual params body scope [] [] f fd) (hm : mg x = some (.ref f)) (S : FnScope N ps scope) (hb : Binds K fd ps []) (no : ∀ ds Q X, ds.length = fi.n → fi.sp ds Q X → False) : GlobOk P w K mg base (k + 1) x (.fn fi) := by
  refine ⟨f, fd, ps, okG F S (fun vs H Q E h => ?_) (fun cdv A outer s H vs Q E gd hr h => ?_), hm, F.kp, hb⟩
  · obtain ⟨Fz, ds, Wx, Qd, g, hv, hd, args, hs, q, xo⟩ := h
    exact (no ds Qd Wx hd hs).elim
  · obtain ⟨Fz, ds, Wx, Qd, g, hv, hd, args, hs, q, xo⟩ := h
    exact (no ds Qd Wx hd hs).elim
end
end DL
end L2
set_option Elab.async false
set_option maxRecDepth 100000
set_option maxHeartbeats 2000000
/-! The head, part 2: a law's end. -/
namespace L2
open PySem PySem.Spec PyProof.Rows
namespace DL
/-- a law over L2.CX -/
theorem walk_ofW {l : PySem.W.OpenLaw} {n k : Nat} {q : Program} {loose : List Str} {XP : (Str → Option Value) → Heap → Prop} {YP : World → Heap → Prop} {d : DefRec} {x : Str}
    (hn : l.most = some n) (hn2 : n ≤ sizeLine) (hdf : d.params.defaults = []) (hr : Room k callerA)
    (F : ∀ (w : World) (mg : Str → Option Value) (fa : Addr) (h : Heap), YP w h → h.Ns mainGlobals mg → mg d.name = some (.ref fa) →
      ∃ (K : PySem.W.Frag) (fd : FuncData) (sp : Sp), K.In h ∧ (∀ (s : Shared) (u : Value), BindsTo s fd ⟨[u], []⟩ [(x, u)]) ∧
        (∀ (H : Hp) (a : Addr) (ns : List Int), ns.length ≤ n → Only H → SqL K H a (ns.map V.int) → sp [.ref a] H (fun v _ => v = .bl true) fun _ _ _ => False) ∧
        ∀ base : Heap, K.In base → base.Ns mainGlobals mg → FnG l.prog w K mg base (L2.CX l.prog w) k fa fd [x] sp) :
    PySem.W.WalkO q loose XP YP l.row.toRowW d [] (fun f vs => PySem.call f vs) := by
  refine Att.attach_call hn hdf fun w s₀ s₁ mg mb fa o pm cd doc a vs ns G Y ho hd hcd hmg hobj hints hlen hg => ?_
  obtain ⟨K, fd, sp, KX, hb, hsp, hF⟩ := F w mg fa _ Y G.T.g hmg
  refine law_callG KX G.T.g G.T.b G.T.builtins G.T.nolimit hg hobj hints (Nat.le_trans hlen hn2) hr hF hb (fun H hO hS => hsp H a ns hlen hO hS) fun H e s' h => ?_
  obtain ⟨a, B, H', cls, d, _, _, _, _, _, _, _, hE⟩ := h
  exact hE
/-- a law's promise -/
def g_law (ds : List D) (Q : Rv → D → Prop) (_ : XW) : Prop := ∃ ns : List Int, ds = [.list (ns.map .int)] ∧ ns.length ≤ 63 ∧ Q (.d (.bool true)) .none
abbrev f_law : FI := ⟨1, none, g_law⟩
theorem law_sp {K : PySem.W.Frag} {mg : Str → Option Value} {H : Hp} {a : Addr} {ns : List Int} (hl : ns.length ≤ 63) (hS : SqL K H a (ns.map V.int)) : spD K mg f_law [.ref a] H (fun v _ => v = .bl true) fun _ _ _ => False := by
  refine ⟨H, [.list (ns.map .int)], noX, fun r _ => r = .d (.bool true), Grow.refl H, rfl, rfl, ?_, ⟨ns, rfl, hl, rfl⟩, ?_, ?_⟩
  · intro j v d hv hd
    cases j with
    | zero =>
      cases hv
      cases hd
      exact Dp.lst hS (ints_dpa ns)
    | succ j => cases hv
  · intro v r c F' H' _ rr _ e
    subst e
    cases rr
    rfl
  · exact xok_no
end DL
end L2
set_option Elab.async false
set_option maxRecDepth 100000
set_option maxHeartbeats 0
namespace L2
open PySem PySem.Spec PyProof.Rows
namespace DL
def w_is_whole : WS :=
  (wSeq (wRet (weAnd (wIsi "int" (.br 0)) (weAnd (weNot (wIsi "bool" (.br 0))) (w3 pLe pLe (.br 1) (.br 0) (.br 2)))))
    wNx)
def w_is_tuple_of : WS :=
  (wSeq (wRet (weAnd (wIsi "tuple" (.br 0)) (w3 pLe pLe (.br 1) (.ex (wL pLen [.br 0])) (.br 2))))
    wNx)
def w_fits_row (f_is_tuple_of f_is_whole : FI) : WS :=
  (wSeq (wRet (weAnd (wCall f_is_tuple_of [.br 1, .br 0, .br 0]) (wL pAll [.ex (wLc (wiSeq (wN 1)) [2] (wgN 2) wtYes (wCall f_is_whole [.br 2, .ex (w1 pNeg (.ex (wC (.int 1000000000)))), .ex (wC (.int 1000000000))]))])))
    wNx)
def w_fits_leaf (f_fits_row f_is_whole : FI) : WS :=
  (wSeq (wIf (wtB (w2 pEq (.ex (w2 pIx (.br 1) (.ex (wC (.int 0))))) (.ex (wC (.str "most"))))) (wSeq (wRet (weAnd (w2 pEq (.ex (wL pLen [.br 1])) (.ex (wC (.int 3)))) (weAnd (wCall f_fits_row [.br 0, .ex (w2 pIx (.br 1) (.ex (wC (.int 1))))]) (wCall f_is_whole [.ex (w2 pIx (.br 1) (.ex (wC (.int 2)))), .ex (w1 pNeg (.ex (wC (.int 1000000000000)))), .ex (wC (.int 1000000000000))]))))
    wNx) wNx)
    (wSeq (wIf (wtOr (wtB (w2 pNe (.ex (wL pLen [.br 1])) (.ex (wC (.int 4))))) (wtNot (wtB (wCall f_is_whole [.ex (w2 pIx (.br 1) (.ex (wC (.int 1)))), .ex (wC (.int 1)), .ex (wC (.int 1000000))])))) (wSeq (wRet (wC (.bool false)))
    wNx) wNx)
    (wSeq (wRet (weAnd (wCall f_fits_row [.br 0, .ex (w2 pIx (.br 1) (.ex (wC (.int 2))))]) (wCall f_is_whole [.ex (w2 pIx (.br 1) (.ex (wC (.int 3)))), .ex (w1 pNeg (.ex (wC (.int 1000000000000)))), .ex (wC (.int 1000000000000))])))
    wNx)))
def w_parts_of : WS :=
  (wSeq (wRet (weIf (wtB (w2 pEq (.ex (w2 pIx (.br 0) (.ex (wC (.int 0))))) (.ex (wC (.str "not"))))) (wSl (.br 0) (.ex (.ex (wC (.int 1)))) .no) (w2 pIx (.br 0) (.ex (wC (.int 1))))))
    wNx)
def w_fits_knot (f_is_tuple_of : FI) : WS :=
  (wSeq (wIf (wtB (w2 pEq (.ex (w2 pIx (.br 0) (.ex (wC (.int 0))))) (.ex (wC (.str "not"))))) (wSeq (wRet (w2 pEq (.ex (wL pLen [.br 0])) (.ex (wC (.int 2)))))
    wNx) wNx)
    (wSeq (wRet (weAnd (w2 (pIn false) (.ex (w2 pIx (.br 0) (.ex (wC (.int 0))))) (.ex (wTup [.ex (wC (.str "and")), .ex (wC (.str "or"))]))) (weAnd (w2 pEq (.ex (wL pLen [.br 0])) (.ex (wC (.int 2)))) (wCall f_is_tuple_of [.ex (w2 pIx (.br 0) (.ex (wC (.int 1)))), .ex (wC (.int 0)), .ex (wC (.int 4000))]))))
    wNx))
def w_fits_test (f_is_tuple_of f_fits_leaf f_fits_knot f_parts_of : FI) : WS :=
  (wSeq (wSets2 2 3 (wLst [.ex (wTup [.ex (wN 1), .ex (wC (.int 1))])]) (wC (.int 0)))
    (wSeq (wWhile (wtB (w2 pNe (.br 2) (.ex (wLst [])))) (wSeq (wAsg (wPop 2) (wgT 2 (wgCons (wgN 4) (wgCons (wgN 5) wgNil))))
    (wSeq (wSet 3 (w2 pAdd (.br 3) (.ex (wC (.int 1)))))
    (wSeq (wIf (wtOr (wtB (w2 pGt (.br 3) (.ex (wC (.int 4000))))) (wtOr (wtB (w2 pGt (.br 5) (.ex (wC (.int 12))))) (wtOr (wtNot (wtB (wCall f_is_tuple_of [.br 4, .ex (wC (.int 2)), .ex (wC (.int 4))]))) (wtNot (wtB (wIsi "str" (.ex (w2 pIx (.br 4) (.ex (wC (.int 0))))))))))) (wSeq (wRet (wC (.bool false)))
    wNx) wNx)
    (wSeq (wIf (wtB (w2 (pIn false) (.ex (w2 pIx (.br 4) (.ex (wC (.int 0))))) (.ex (wTup [.ex (wC (.str "most")), .ex (wC (.str "div"))])))) (wSeq (wIf (wtNot (wtB (wCall f_fits_leaf [.br 0, .br 4]))) (wSeq (wRet (wC (.bool false)))
    wNx) wNx)
    wNx) (wSeq (wIf (wtB (wCall f_fits_knot [.br 4])) (wSeq (wAug 2 (.ex (wLc (wiSeq (wCall f_parts_of [.br 4])) [6] (wgN 6) wtYes (wTup [.ex (wN 6), .ex (w2 pAdd (.br 5) (.ex (wC (.int 1))))]))))
    wNx) (wSeq (wRet (wC (.bool false)))
    wNx))
    wNx))
    wNx)))))
    (wSeq (wRet (wC (.bool true)))
    wNx)))
def w_leaves_of (f_parts_of : FI) : WS :=
  (wSeq (wSets2 1 2 (wLst []) (wLst [.ex (wN 0)]))
    (wSeq (wWhile (wtB (w2 pNe (.br 2) (.ex (wLst [])))) (wSeq (wSet 3 (wPopAt 2 (.ex (wC (.int 0)))))
    (wSeq (wIf (wtB (w2 (pIn false) (.ex (w2 pIx (.br 3) (.ex (wC (.int 0))))) (.ex (wTup [.ex (wC (.str "most")), .ex (wC (.str "div"))])))) (wSeq (wEx (wApp 1 (wN 3)))
    wNx) (wSeq (wSet 2 (w2 pAdd (.ex (wL pList [.ex (wCall f_parts_of [.br 3])])) (.br 2)))
    wNx))
    wNx)))
    (wSeq (wRet (wMv 1))
    wNx)))
def w_sum_at : WS :=
  (wSeq (wRet (wL pSum [.ex (wLc (wiZip (wN 0) (wN 1)) [2, 3] (wgT 2 (wgCons (wgN 2) (wgCons (wgN 3) wgNil))) wtYes (w2 pMulA (.br 2) (.br 3)))]))
    wNx)
def w_leaf_at (f_sum_at : FI) : WS :=
  (wSeq (wIf (wtB (w2 pEq (.ex (w2 pIx (.br 0) (.ex (wC (.int 0))))) (.ex (wC (.str "most"))))) (wSeq (wRet (w2 pLe (.ex (wCall f_sum_at [.ex (w2 pIx (.br 0) (.ex (wC (.int 1)))), .br 1])) (.ex (w2 pIx (.br 0) (.ex (wC (.int 2)))))))
    wNx) wNx)
    (wSeq (wRet (w2 pEq (.ex (w2 pMod (.ex (w2 pAdd (.ex (wCall f_sum_at [.ex (w2 pIx (.br 0) (.ex (wC (.int 2)))), .br 1])) (.ex (w2 pIx (.br 0) (.ex (wC (.int 3))))))) (.ex (w2 pIx (.br 0) (.ex (wC (.int 1))))))) (.ex (wC (.int 0)))))
    wNx))
def w_test_at (f_leaf_at f_test_at : FI) : WS :=
  (wSeq (wIf (wtB (w2 (pIn false) (.ex (w2 pIx (.br 0) (.ex (wC (.int 0))))) (.ex (wTup [.ex (wC (.str "most")), .ex (wC (.str "div"))])))) (wSeq (wRet (wCall f_leaf_at [.br 0, .br 1]))
    wNx) wNx)
    (wSeq (wIf (wtB (w2 pEq (.ex (w2 pIx (.br 0) (.ex (wC (.int 0))))) (.ex (wC (.str "not"))))) (wSeq (wRet (weNot (wCall f_test_at [.ex (w2 pIx (.br 0) (.ex (wC (.int 1)))), .br 1])))
    wNx) wNx)
    (wSeq (wIf (wtB (w2 pEq (.ex (w2 pIx (.br 0) (.ex (wC (.int 0))))) (.ex (wC (.str "and"))))) (wSeq (wRet (wL pAll [.ex (wLc (wiSeq (w2 pIx (.br 0) (.ex (wC (.int 1))))) [2] (wgN 2) wtYes (wCall f_test_at [.br 2, .br 1]))]))
    wNx) wNx)
    (wSeq (wRet (wL pAny [.ex (wLc (wiSeq (w2 pIx (.br 0) (.ex (wC (.int 1))))) [2] (wgN 2) wtYes (wCall f_test_at [.br 2, .br 1]))]))
    wNx))))
def w_common_divisor : WS :=
  (wSeq (wWhile (wtB (w2 pNe (.br 1) (.ex (wC (.int 0))))) (wSeq (wSets2 0 1 (wN 1) (w2 pMod (.br 0) (.br 1)))
    wNx))
    (wSeq (wRet (wL pAbs [.br 0]))
    wNx))
def w_common_multiple (f_common_divisor : FI) : WS :=
  (wSeq (wSet 1 (wC (.int 1)))
    (wSeq (wFor (wiSeq (wN 0)) (wgN 2) (wSeq (wSet 1 (w2 pFdiv (.ex (w2 pMulA (.br 1) (.br 2))) (.ex (wCall f_common_divisor [.br 1, .br 2]))))
    wNx))
    (wSeq (wRet (wMv 1))
    wNx)))
def w_divisors_in (f_leaves_of : FI) : WS :=
  (wSeq (wRet (wLc (wiSeq (wCall f_leaves_of [.br 0])) [1] (wgN 1) (wtB (w2 pEq (.ex (w2 pIx (.br 1) (.ex (wC (.int 0))))) (.ex (wC (.str "div"))))) (w2 pIx (.br 1) (.ex (wC (.int 1))))))
    wNx)
def w_period_of (f_common_multiple f_divisors_in : FI) : WS :=
  (wSeq (wRet (wCall f_common_multiple [.ex (wCall f_divisors_in [.br 0])]))
    wNx)
def w_row_of : WS :=
  (wSeq (wRet (weIf (wtB (w2 pEq (.ex (w2 pIx (.br 0) (.ex (wC (.int 0))))) (.ex (wC (.str "most"))))) (w2 pIx (.br 0) (.ex (wC (.int 1)))) (w2 pIx (.br 0) (.ex (wC (.int 2))))))
    wNx)
def w_is_small_leaf (f_row_of : FI) : WS :=
  (wSeq (wSet 1 (wCall f_row_of [.br 0]))
    (wSeq (wIf (wtOr (wtNot (wtB (wL pAll [.ex (wLc (wiSeq (wSl (.br 1) .no (.ex (.ex (wC (.int 1)))))) [2] (wgN 2) wtYes (w3 pLe pLe (.ex (w1 pNeg (.ex (wC (.int 3))))) (.br 2) (.ex (wC (.int 3)))))]))) (wtNot (wtB (wL pAll [.ex (wLc (wiSeq (wSl (.br 1) (.ex (.ex (wC (.int 1)))) .no)) [2] (wgN 2) wtYes (w3 pLe pLe (.ex (w1 pNeg (.ex (wC (.int 1))))) (.br 2) (.ex (wC (.int 1)))))])))) (wSeq (wRet (wC (.bool false)))
    wNx) wNx)
    (wSeq (wRet (weAnd (w3 pLe pLe (.ex (w1 pNeg (.ex (wC (.int 20))))) (.ex (w2 pIx (.br 0) (.ex (w1 pNeg (.ex (wC (.int 1))))))) (.ex (wC (.int 20)))) (weOr (w2 pEq (.ex (w2 pIx (.br 0) (.ex (wC (.int 0))))) (.ex (wC (.str "most")))) (w3 pLe pLe (.ex (wC (.int 2))) (.ex (w2 pIx (.br 0) (.ex (wC (.int 1))))) (.ex (wC (.int 6)))))))
    wNx)))
def w_height_of (f_height_of : FI) : WS :=
  (wSeq (wIf (wtB (w2 (pIn false) (.ex (w2 pIx (.br 0) (.ex (wC (.int 0))))) (.ex (wTup [.ex (wC (.str "most")), .ex (wC (.str "div"))])))) (wSeq (wRet (wC (.int 1)))
    wNx) wNx)
    (wSeq (wSet 1 (weIf (wtB (w2 pEq (.ex (w2 pIx (.br 0) (.ex (wC (.int 0))))) (.ex (wC (.str "not"))))) (wSl (.br 0) (.ex (.ex (wC (.int 1)))) .no) (w2 pIx (.br 0) (.ex (wC (.int 1))))))
    (wSeq (wRet (w2 pAdd (.ex (wC (.int 1))) (.ex (wL pMax [.ex (w2 pAdd (.ex (wLst [.ex (wC (.int 0))])) (.ex (wLc (wiSeq (wN 1)) [2] (wgN 2) wtYes (wCall f_height_of [.br 2]))))]))))
    wNx)))
def w_fits_formula (f_is_tuple_of f_is_whole f_fits_test f_height_of f_leaves_of f_period_of f_is_small_leaf : FI) : WS :=
  (wSeq (wIf (wtOr (wtNot (wtB (wCall f_is_tuple_of [.br 0, .ex (wC (.int 3)), .ex (wC (.int 3))]))) (wtOr (wtNot (wtB (wCall f_is_whole [.ex (w2 pIx (.br 0) (.ex (wC (.int 0)))), .ex (wC (.int 0)), .ex (wC (.int 3))]))) (wtNot (wtB (wCall f_is_tuple_of [.ex (w2 pIx (.br 0) (.ex (wC (.int 1)))), .ex (wC (.int 0)), .ex (wC (.int 2))]))))) (wSeq (wRet (wC (.bool false)))
    wNx) wNx)
    (wSeq (wSet 1 (w2 pAdd (.ex (w2 pIx (.br 0) (.ex (wC (.int 0))))) (.ex (wL pLen [.ex (w2 pIx (.br 0) (.ex (wC (.int 1))))]))))
    (wSeq (wIf (wtOr (wtB (w2 pGt (.br 1) (.ex (wC (.int 3))))) (wtNot (wtB (wL pAll [.ex (wLc (wiSeq (w2 pIx (.br 0) (.ex (wC (.int 1))))) [3] (wgN 3) wtYes (weAnd (wIsi "str" (.br 3)) (w2 (pIn false) (.br 3) (.ex (wC (.tuple [.str "some", .str "all"]))))))])))) (wSeq (wRet (wC (.bool false)))
    wNx) wNx)
    (wSeq (wIf (wtOr (wtNot (wtB (wCall f_fits_test [.br 1, .ex (w2 pIx (.br 0) (.ex (wC (.int 2))))]))) (wtB (w2 pGt (.ex (wCall f_height_of [.ex (w2 pIx (.br 0) (.ex (wC (.int 2))))])) (.ex (wC (.int 6)))))) (wSeq (wRet (wC (.bool false)))
    wNx) wNx)
    (wSeq (wSet 2 (wCall f_leaves_of [.ex (w2 pIx (.br 0) (.ex (wC (.int 2))))]))
    (wSeq (wIf (wtOr (wtB (w2 pGt (.ex (wL pLen [.br 2])) (.ex (wC (.int 6))))) (wtNot (wtB (wL pAll [.ex (wLc (wiSeq (wN 2)) [4] (wgN 4) wtYes (wCall f_is_small_leaf [.br 4]))])))) (wSeq (wRet (wC (.bool false)))
    wNx) wNx)
    (wSeq (wRet (w2 pLe (.ex (wCall f_period_of [.ex (w2 pIx (.br 0) (.ex (wC (.int 2))))])) (.ex (wC (.int 6)))))
    wNx)))))))
def w_side_of_v1 (f_lines_with : FI) : WS :=
  (wSeq (wIf (wtB (w2 pLt (.ex (w2 pIx (.br 1) (.ex (wC (.int 1))))) (.ex (wC (.int 0))))) (wSeq (wRet (wTup [.ex (wCall f_lines_with [.br 0, .ex (w1 pNeg (.ex (wC (.int 1))))]), .ex (wTup [.ex (w2 pIx (.br 1) (.ex (wC (.int 0)))), .ex (w1 pNeg (.ex (w2 pIx (.br 1) (.ex (wC (.int 1))))))])]))
    wNx) wNx)
    (wSeq (wRet (wTup [.ex (wCall f_lines_with [.br 0, .ex (wC (.int 1))]), .ex (wN 1)]))
    wNx))
def w__law_cup : WS :=
  (wSeq (wSet 1 (wL pAbs [.ex (w2 pIx (.ex (w2 pAdd (.ex (wL pList [.br 0])) (.ex (wLst [.ex (wC (.int 0))])))) (.ex (wC (.int 0))))]))
    (wSeq (wRet (wLst [.ex (weIf (wtB (w2 pGe (.br 1) (.ex (w2 pPow (.ex (wC (.int 10))) (.ex (wC (.int 18))))))) (w2 pFdiv (.br 1) (.ex (wC (.int 79)))) (wC (.int 0))), .ex (w2 pAdd (.ex (w2 pMod (.ex (wL pInt [.ex (w2 pAdd (.ex (w2 pMulA (.br 1) (.ex (wC (.int 293))))) (.ex (wC (.int 2903))))])) (.ex (wC (.int 2077503127))))) (.ex (wC (.int 179))))]))
    wNx))
def w__law_roll : WS :=
  (wSeq (wIf (wtB (w2 pGt (.ex (w2 pIx (.br 0) (.ex (wC (.int 0))))) (.ex (wC (.int 0))))) (wSeq (wSet 2 (w2 pMod (.ex (wL pInt [.ex (w2 pIx (.br 0) (.ex (wC (.int 0))))])) (.br 1)))
    (wSeq (wsOr (wSub 0 (.ex (wC (.int 0))) (w2 pFdiv (.ex (w2 pIx (.br 0) (.ex (wC (.int 0))))) (.br 1))) (wSubD 0 (.ex (wC (.int 0))) (w2 pFdiv (.ex (w2 pIx (.br 0) (.ex (wC (.int 0))))) (.br 1))))
    (wSeq (wRet (wMv 2))
    wNx))) wNx)
    (wSeq (wsOr (wSub 0 (.ex (wC (.int 1))) (w2 pMod (.ex (wL pInt [.ex (w2 pAdd (.ex (w2 pMulA (.ex (w2 pIx (.br 0) (.ex (wC (.int 1))))) (.ex (wC (.int 31069))))) (.ex (wC (.int 8017))))])) (.ex (wC (.int 2147483489))))) (wSubD 0 (.ex (wC (.int 1))) (w2 pMod (.ex (wL pInt [.ex (w2 pAdd (.ex (w2 pMulA (.ex (w2 pIx (.br 0) (.ex (wC (.int 1))))) (.ex (wC (.int 31069))))) (.ex (wC (.int 8017))))])) (.ex (wC (.int 2147483489))))))
    (wSeq (wSet 3 (w2 pMod (.ex (wL pInt [.ex (w2 pMulA (.ex (w2 pIx (.br 0) (.ex (wC (.int 1))))) (.ex (w2 pAdd (.ex (w2 pIx (.br 0) (.ex (wC (.int 1))))) (.ex (wC (.int 241))))))])) (.ex (wC (.int 2147483587)))))
    (wSeq (wRet (w2 pMod (.ex (wL pInt [.ex (w2 pFdiv (.br 3) (.ex (wC (.int 829))))])) (.br 1)))
    wNx))))
def w__law_some (f__law_roll : FI) : WS :=
  (wSeq (wRet (w2 pIx (.br 1) (.ex (wCall f__law_roll [.br 0, .ex (wL pLen [.br 1])]))))
    wNx)
def w_greatest_of_v1 (f_need_plain_set f_need_row f_lines_of f_bounds_in f_has_points f_side_of f_is_endless f_best_lead f_other_at : FI) : WS :=
  (wSeq (wEx (wCall f_need_plain_set [.br 0]))
    (wSeq (wEx (wCall f_need_row [.br 1]))
    (wSeq (wSet 2 (wCall f_lines_of [.br 0]))
    (wSeq (wSet 3 (wCall f_bounds_in [.br 2]))
    (wSeq (wIf (wtNot (wtB (wCall f_has_points [.br 3]))) (wSeq (wRet (wTup [.ex (wC (.str "none"))]))
    wNx) wNx)
    (wSeq (wAsg (wCall f_side_of [.ex ((wN 2)), .ex ((wN 1))]) (wgT 2 (wgCons (wgN 4) (wgCons (wgN 5) wgNil))))
    (wSeq (wIf (wtB (wCall f_is_endless [.br 4, .br 5, .br 3])) (wSeq (wRet (wTup [.ex (wC (.str "endless"))]))
    wNx) wNx)
    (wSeq (wAsg (wCall f_best_lead [.br 4, .br 5, .br 3]) (wgT 2 (wgCons (wgN 6) (wgCons (wgN 7) wgNil))))
    (wSeq (wRet (wTup [.ex (wC (.str "at")), .ex (wN 7), .ex (wTup [.ex (wN 6), .ex (wCall f_other_at [.br 2, .br 1, .br 6])])]))
    wNx)))))))))
def w_fits_plain_set (f_fits_formula : FI) : WS :=
  (wSeq (wIf (wtOr (wtNot (wtB (wCall f_fits_formula [.br 0]))) (wtOr (wtB (w2 pNe (.ex (w2 pIx (.br 0) (.ex (wC (.int 0))))) (.ex (wC (.int 2))))) (wtB (w2 pNe (.ex (w2 pIx (.br 0) (.ex (wC (.int 1))))) (.ex (wTup [])))))) (wSeq (wRet (wC (.bool false)))
    wNx) wNx)
    (wSeq (wSet 1 (w2 pIx (.br 0) (.ex (wC (.int 2)))))
    (wSeq (wRet (weOr (w2 pEq (.ex (w2 pIx (.br 1) (.ex (wC (.int 0))))) (.ex (wC (.str "most")))) (weAnd (w2 pEq (.ex (w2 pIx (.br 1) (.ex (wC (.int 0))))) (.ex (wC (.str "and")))) (wL pAll [.ex (wLc (wiSeq (w2 pIx (.br 1) (.ex (wC (.int 1))))) [2] (wgN 2) wtYes (w2 pEq (.ex (w2 pIx (.br 2) (.ex (wC (.int 0))))) (.ex (wC (.str "most")))))]))))
    wNx)))
def w_need_plain_set (f_fits_plain_set : FI) : WS :=
  (wSeq (wIf (wtNot (wtB (wCall f_fits_plain_set [.br 0]))) (wSeq (wRaise "InvalidFormula")
    wNx) wNx)
    wNx)
def w_need_row (f_is_tuple_of f_is_whole : FI) : WS :=
  (wSeq (wIf (wtOr (wtNot (wtB (wCall f_is_tuple_of [.br 0, .ex (wC (.int 2)), .ex (wC (.int 2))]))) (wtNot (wtB (wL pAll [.ex (wLc (wiSeq (wN 0)) [1] (wgN 1) wtYes (wCall f_is_whole [.br 1, .ex (w1 pNeg (.ex (wC (.int 1000000)))), .ex (wC (.int 1000000))]))])))) (wSeq (wRaise "InvalidRow")
    wNx) wNx)
    wNx)
def w_lines_of : WS :=
  (wSeq (wSet 1 (w2 pIx (.br 0) (.ex (wC (.int 2)))))
    (wSeq (wSet 2 (weIf (wtB (w2 pEq (.ex (w2 pIx (.br 1) (.ex (wC (.int 0))))) (.ex (wC (.str "most"))))) (wLst [.ex (wN 1)]) (wL pList [.ex (w2 pIx (.br 1) (.ex (wC (.int 1))))])))
    (wSeq (wRet (wLc (wiSeq (wN 2)) [3] (wgN 3) wtYes (wTup [.ex (w2 pIx (.br 3) (.ex (wC (.int 1)))), .ex (w2 pIx (.br 3) (.ex (wC (.int 2))))])))
    wNx)))
def w_lines_with : WS :=
  (wSeq (wRet (wLc (wiEnum (wN 0)) [2, 3, 4] (wgT 2 (wgCons (wgN 2) (wgCons (wgT 2 (wgCons (wgN 3) (wgCons (wgN 4) wgNil))) wgNil))) (wtB (w2 pEq (.ex (w2 pIx (.br 3) (.ex (wC (.int 1))))) (.br 1))) (wTup [.ex (wN 2), .ex (w2 pIx (.br 3) (.ex (wC (.int 0)))), .ex (wN 4)])))
    wNx)
def w_bounds_in (f_lines_with : FI) : WS :=
  (wSeq (wSet 1 (wLc (wiSeq (wCall f_lines_with [.br 0, .ex (wC (.int 0))])) [3, 4, 5] (wgT 3 (wgCons (wgN 3) (wgCons (wgN 4) (wgCons (wgN 5) wgNil)))) wtYes (wTup [.ex (wTup [.ex (wN 3)]), .ex (wN 4), .ex (wN 5)])))
    (wSeq (wFor (wiSeq (wCall f_lines_with [.br 0, .ex (wC (.int 1))])) (wgN 2) (wSeq (wAug 1 (.ex (wLc (wiSeq (wCall f_lines_with [.br 0, .ex (w1 pNeg (.ex (wC (.int 1))))])) [6] (wgN 6) wtYes (wTup [.ex (wTup [.ex (w2 pIx (.br 2) (.ex (wC (.int 0)))), .ex (w2 pIx (.br 6) (.ex (wC (.int 0))))]), .ex (w2 pAdd (.ex (w2 pIx (.br 2) (.ex (wC (.int 1))))) (.ex (w2 pIx (.br 6) (.ex (wC (.int 1)))))), .ex (w2 pAdd (.ex (w2 pIx (.br 2) (.ex (wC (.int 2))))) (.ex (w2 pIx (.br 6) (.ex (wC (.int 2))))))]))))
    wNx))
    (wSeq (wRet (wMv 1))
    wNx)))
def w_highest_lead : WS :=
  (wSeq (wSet 1 (wLc (wiSeq (wN 0)) [2, 3, 4] (wgT 3 (wgCons (wgN 2) (wgCons (wgN 3) (wgCons (wgN 4) wgNil)))) (wtB (w2 pGt (.br 3) (.ex (wC (.int 0))))) (w2 pFdiv (.br 4) (.br 3))))
    (wSeq (wRet (weIf (wtB (w2 pNe (.br 1) (.ex (wLst [])))) (wL pMin [.br 1]) (wC .none)))
    wNx))
def w_lowest_lead : WS :=
  (wSeq (wSet 1 (wLc (wiSeq (wN 0)) [2, 3, 4] (wgT 3 (wgCons (wgN 2) (wgCons (wgN 3) (wgCons (wgN 4) wgNil)))) (wtB (w2 pLt (.br 3) (.ex (wC (.int 0))))) (w1 pNeg (.ex (w2 pFdiv (.br 4) (.ex (w1 pNeg (.br 3))))))))
    (wSeq (wRet (weIf (wtB (w2 pNe (.br 1) (.ex (wLst [])))) (wL pMax [.br 1]) (wC .none)))
    wNx))
def w_has_points (f_lowest_lead f_highest_lead : FI) : WS :=
  (wSeq (wIf (wtB (wL pAny [.ex (wLc (wiSeq (wN 0)) [3, 4, 5] (wgT 3 (wgCons (wgN 3) (wgCons (wgN 4) (wgCons (wgN 5) wgNil)))) wtYes (weAnd (w2 pEq (.br 4) (.ex (wC (.int 0)))) (w2 pLt (.br 5) (.ex (wC (.int 0))))))])) (wSeq (wRet (wC (.bool false)))
    wNx) wNx)
    (wSeq (wSets2 1 2 (wCall f_lowest_lead [.br 0]) (wCall f_highest_lead [.br 0]))
    (wSeq (wRet (weOr (w2 (pIs false) (.br 1) (.ex (wC .none))) (weOr (w2 (pIs false) (.br 2) (.ex (wC .none))) (w2 pLe (.br 1) (.br 2)))))
    wNx)))
def w_top_at : WS :=
  (wSeq (wRet (wL pMin [.ex (wLc (wiSeq (wN 0)) [2, 3, 4] (wgT 3 (wgCons (wgN 2) (wgCons (wgN 3) (wgCons (wgN 4) wgNil)))) wtYes (w2 pSub (.br 4) (.ex (w2 pMulA (.br 3) (.br 1)))))]))
    wNx)
def w_leads_of (f_lowest_lead f_highest_lead : FI) : WS :=
  (wSeq (wSets2 1 2 (wCall f_lowest_lead [.br 0]) (wCall f_highest_lead [.br 0]))
    (wSeq (wRet (wLstRg2 (.ex (weIf (wtB (w2 (pIs false) (.br 1) (.ex (wC .none)))) (w1 pNeg (.ex (wC (.int 60)))) (wN 1))) (.ex (w2 pAdd (.ex (weIf (wtB (w2 (pIs false) (.br 2) (.ex (wC .none)))) (wC (.int 60)) (wN 2))) (.ex (wC (.int 1)))))))
    wNx))
def w_tops_that_turn (f_lowest_lead f_highest_lead f_leads_of f_top_at : FI) : WS :=
  (wSeq (wSets3 2 3 4 (wCall f_lowest_lead [.br 1]) (wCall f_highest_lead [.br 1]) (wLst []))
    (wSeq (wFor (wiSeq (weIf (wtB (w2 pNe (.br 0) (.ex (wLst [])))) (wCall f_leads_of [.br 1]) (wLst []))) (wgN 5) (wSeq (wSet 6 (wCall f_top_at [.br 0, .br 5]))
    (wSeq (wIf (wtOr (wtB (w2 (pIn false) (.br 5) (.ex (wTup [.ex (wN 2), .ex (wN 3)])))) (wtB (w2 pGt (.ex (w2 pSub (.br 6) (.ex (wCall f_top_at [.br 0, .ex (w2 pSub (.br 5) (.ex (wC (.int 1))))])))) (.ex (w2 pSub (.ex (wCall f_top_at [.br 0, .ex (w2 pAdd (.br 5) (.ex (wC (.int 1))))])) (.br 6)))))) (wSeq (wEx (wApp 4 (wTup [.ex (wN 5), .ex (wN 6)])))
    wNx) wNx)
    wNx)))
    (wSeq (wRet (wMv 4))
    wNx)))
def w_worths_of (f_top_at : FI) : WS :=
  (wSeq (wRet (wLc (wiSeq (wN 2)) [3] (wgN 3) wtYes (w2 pAdd (.ex (w2 pMulA (.ex (w2 pIx (.br 1) (.ex (wC (.int 0))))) (.br 3))) (.ex (weIf (wtB (w2 pGt (.ex (w2 pIx (.br 1) (.ex (wC (.int 1))))) (.ex (wC (.int 0))))) (w2 pMulA (.ex (w2 pIx (.br 1) (.ex (wC (.int 1))))) (.ex (wCall f_top_at [.br 0, .br 3]))) (wC (.int 0)))))))
    wNx)
def w_is_endless (f_worths_of f_highest_lead f_lowest_lead : FI) : WS :=
  (wSeq (wIf (wtAnd (wtB (w2 pGt (.ex (w2 pIx (.br 1) (.ex (wC (.int 1))))) (.ex (wC (.int 0))))) (wtB (w2 pEq (.br 0) (.ex (wLst []))))) (wSeq (wRet (wC (.bool true)))
    wNx) wNx)
    (wSeq (wSets2 3 4 (wCall f_worths_of [.br 0, .br 1, .ex (wLst [.ex (wC (.int 60)), .ex (w2 pAdd (.ex (wC (.int 60))) (.ex (wC (.int 1))))])]) (wCall f_worths_of [.br 0, .br 1, .ex (wLst [.ex (w1 pNeg (.ex (wC (.int 60)))), .ex (w2 pSub (.ex (w1 pNeg (.ex (wC (.int 60))))) (.ex (wC (.int 1))))])]))
    (wSeq (wIf (wtAnd (wtB (w2 (pIs false) (.ex (wCall f_highest_lead [.br 2])) (.ex (wC .none)))) (wtB (w2 pGt (.ex (w2 pIx (.br 3) (.ex (wC (.int 1))))) (.ex (w2 pIx (.br 3) (.ex (wC (.int 0)))))))) (wSeq (wRet (wC (.bool true)))
    wNx) wNx)
    (wSeq (wRet (weAnd (w2 (pIs false) (.ex (wCall f_lowest_lead [.br 2])) (.ex (wC .none))) (w2 pGt (.ex (w2 pIx (.br 4) (.ex (wC (.int 1))))) (.ex (w2 pIx (.br 4) (.ex (wC (.int 0))))))))
    wNx))))
def w_best_lead (f_leads_of f_worths_of : FI) : WS :=
  (wSeq (wSet 3 (wCall f_leads_of [.br 2]))
    (wSeq (wSet 4 (wCall f_worths_of [.br 0, .br 1, .br 3]))
    (wSeq (wRet (wTup [.ex (w2 pIx (.br 3) (.ex (wIdx 4 (.ex (wL pMax [.br 4]))))), .ex (wL pMax [.br 4])]))
    wNx)))
def w_other_at (f_lines_with f_top_at : FI) : WS :=
  (wSeq (wSets2 3 4 (wCall f_lines_with [.br 0, .ex (wC (.int 1))]) (wCall f_lines_with [.br 0, .ex (w1 pNeg (.ex (wC (.int 1))))]))
    (wSeq (wIf (wtOr (wtB (w2 pLt (.ex (w2 pIx (.br 1) (.ex (wC (.int 1))))) (.ex (wC (.int 0))))) (wtB (w2 pEq (.br 3) (.ex (wLst []))))) (wSeq (wRet (weIf (wtB (w2 pNe (.br 4) (.ex (wLst [])))) (w1 pNeg (.ex (wCall f_top_at [.br 4, .br 2]))) (wC (.int 0))))
    wNx) wNx)
    (wSeq (wRet (wCall f_top_at [.br 3, .br 2]))
    wNx)))
def w_is_plain_set (f_fits_plain_set : FI) : WS :=
  (wSeq (wRet (wCall f_fits_plain_set [.br 0]))
    wNx)
def w_corners_of (f_need_plain_set f_lines_of f_bounds_in f_has_points f_tops_that_turn f_lines_with : FI) : WS :=
  (wSeq (wEx (wCall f_need_plain_set [.br 0]))
    (wSeq (wSet 1 (wCall f_lines_of [.br 0]))
    (wSeq (wSet 2 (wCall f_bounds_in [.br 1]))
    (wSeq (wIf (wtNot (wtB (wCall f_has_points [.br 2]))) (wSeq (wRet (wTup []))
    wNx) wNx)
    (wSeq (wSet 3 (wCall f_tops_that_turn [.ex (wCall f_lines_with [.br 1, .ex (wC (.int 1))]), .br 2]))
    (wSeq (wAug 3 (.ex (wLc (wiSeq (wCall f_tops_that_turn [.ex (wCall f_lines_with [.br 1, .ex (w1 pNeg (.ex (wC (.int 1))))]), .br 2])) [4, 5] (wgT 2 (wgCons (wgN 4) (wgCons (wgN 5) wgNil))) wtYes (wTup [.ex (wN 4), .ex (w1 pNeg (.br 5))]))))
    (wSeq (wRet (wL pTup [.ex (weAlt (wSrtSet (.br 3)) (wSrtSetP (.br 3)))]))
    wNx)))))))
def w__law_plain_set (f__law_some f__law_roll : FI) : WS :=
  (wSeq (wSet 1 (wLst []))
    (wSeq (wFor (wiRng1 (.ex (wCall f__law_some [.br 0, .ex ((wLst [.ex (wC (.int 0)), .ex (wC (.int 1)), .ex (wC (.int 2)), .ex (wC (.int 3)), .ex (wC (.int 3)), .ex (wC (.int 4)), .ex (wC (.int 5)), .ex (wC (.int 6))]))]))) (wgN 2) (wSeq (wSet 3 (wTup [.ex (w2 pSub (.ex (wCall f__law_roll [.br 0, .ex (wC (.int 7))])) (.ex (wC (.int 3)))), .ex (wCall f__law_some [.br 0, .ex ((wLst [.ex (w1 pNeg (.ex (wC (.int 1)))), .ex (wC (.int 1)), .ex (w1 pNeg (.ex (wC (.int 1)))), .ex (wC (.int 1)), .ex (wC (.int 0))]))])]))
    (wSeq (wEx (wApp 1 (wTup [.ex (wC (.str "most")), .ex (wN 3), .ex (wCall f__law_some [.br 0, .ex ((wLst [.ex (wCall f__law_roll [.br 0, .ex (wC (.int 21))]), .ex (w2 pSub (.ex (wCall f__law_roll [.br 0, .ex (wC (.int 41))])) (.ex (wC (.int 20)))), .ex (wCall f__law_roll [.br 0, .ex (wC (.int 6))])]))])])))
    wNx)))
    (wSeq (wIf (wtAnd (wtB (w2 pEq (.ex (wL pLen [.br 1])) (.ex (wC (.int 1))))) (wtB (w2 pEq (.ex (wCall f__law_roll [.br 0, .ex (wC (.int 2))])) (.ex (wC (.int 0)))))) (wSeq (wRet (wTup [.ex (wC (.int 2)), .ex (wTup []), .ex (w2 pIx (.br 1) (.ex (wC (.int 0))))]))
    wNx) wNx)
    (wSeq (wRet (wTup [.ex (wC (.int 2)), .ex (wTup []), .ex (wTup [.ex (wC (.str "and")), .ex (wL pTup [.br 1])])]))
    wNx))))
def w__law_lines : WS :=
  (wSeq (wSet 1 (w2 pIx (.br 0) (.ex (wC (.int 2)))))
    (wSeq (wRet (wLc (wiSeq (weIf (wtB (w2 pEq (.ex (w2 pIx (.br 1) (.ex (wC (.int 0))))) (.ex (wC (.str "most"))))) (wLst [.ex (wN 1)]) (w2 pIx (.br 1) (.ex (wC (.int 1)))))) [2] (wgN 2) wtYes (wTup [.ex (w2 pIx (.br 2) (.ex (wC (.int 1)))), .ex (w2 pIx (.br 2) (.ex (wC (.int 2))))])))
    wNx))
def w__law_ends : WS :=
  (wSeq (wAsg (wTup [.ex (wC .none), .ex (wC .none)]) (wgT 2 (wgCons (wgN 2) (wgCons (wgN 3) wgNil))))
    (wSeq (wFor (wiSeq (wN 0)) (wgT 2 (wgCons (wgN 4) (wgCons (wgN 5) wgNil))) (wSeq (wSet 6 (w2 pSub (.br 5) (.ex (w2 pMulA (.ex (w2 pIx (.br 4) (.ex (wC (.int 0))))) (.br 1)))))
    (wSeq (wIf (wtAnd (wtB (w2 pEq (.ex (w2 pIx (.br 4) (.ex (wC (.int 1))))) (.ex (wC (.int 0))))) (wtB (w2 pLt (.br 6) (.ex (wC (.int 0)))))) (wSeq (wRet (wC .none))
    wNx) wNx)
    (wSeq (wIf (wtAnd (wtB (w2 pEq (.ex (w2 pIx (.br 4) (.ex (wC (.int 1))))) (.ex (wC (.int 1))))) (wtOr (wtB (w2 (pIs false) (.br 3) (.ex (wC .none)))) (wtB (w2 pLt (.br 6) (.br 3))))) (wSeq (wSet 3 (wN 6))
    wNx) wNx)
    (wSeq (wIf (wtAnd (wtB (w2 pEq (.ex (w2 pIx (.br 4) (.ex (wC (.int 1))))) (.ex (w1 pNeg (.ex (wC (.int 1))))))) (wtOr (wtB (w2 (pIs false) (.br 2) (.ex (wC .none)))) (wtB (w2 pGt (.ex (w1 pNeg (.br 6))) (.br 2))))) (wSeq (wSet 2 (w1 pNeg (.br 6)))
    wNx) wNx)
    wNx)))))
    (wSeq (wRet (weIf (wtAnd (wtB (w2 (pIs true) (.br 2) (.ex (wC .none)))) (wtAnd (wtB (w2 (pIs true) (.br 3) (.ex (wC .none)))) (wtB (w2 pGt (.br 2) (.br 3))))) (wC .none) (wTup [.ex (wN 2), .ex (wN 3)])))
    wNx)))
def w__law_pairs (f__law_ends : FI) : WS :=
  (wSeq (wSet 2 (wLst []))
    (wSeq (wFor (wiRng2 (.ex (w1 pNeg (.br 1))) (.ex (w2 pAdd (.br 1) (.ex (wC (.int 1)))))) (wgN 3) (wSeq (wSet 4 (wCall f__law_ends [.br 0, .br 3]))
    (wSeq (wIf (wtB (w2 (pIs true) (.br 4) (.ex (wC .none)))) (wSeq (wSet 2 (w2 pAdd (.br 2) (.ex (wLst [.ex (wTup [.ex (wN 3), .ex (weIf (wtB (w2 (pIs false) (.ex (w2 pIx (.br 4) (.ex (wC (.int 0))))) (.ex (wC .none)))) (w1 pNeg (.ex (wC (.int 900)))) (w2 pIx (.br 4) (.ex (wC (.int 0)))))]), .ex (wTup [.ex (wN 3), .ex (weIf (wtB (w2 (pIs false) (.ex (w2 pIx (.br 4) (.ex (wC (.int 1))))) (.ex (wC .none)))) (wC (.int 900)) (w2 pIx (.br 4) (.ex (wC (.int 1)))))])]))))
    wNx) wNx)
    wNx)))
    (wSeq (wRet (wMv 2))
    wNx)))
def w__law_ways : WS :=
  (wSeq (wSet 1 (w2 pAdd (.ex (w2 pAdd (.ex (wLst [.ex (wTup [.ex (wC (.int 0)), .ex (wC (.int 1))]), .ex (wTup [.ex (wC (.int 0)), .ex (w1 pNeg (.ex (wC (.int 1))))])])) (.ex (wLc (wiRng2 (.ex (w1 pNeg (.ex (wC (.int 3))))) (.ex (wC (.int 4)))) [2] (wgN 2) wtYes (wTup [.ex (wC (.int 1)), .ex (wN 2)]))))) (.ex (wLc (wiRng2 (.ex (w1 pNeg (.ex (wC (.int 3))))) (.ex (wC (.int 4)))) [2] (wgN 2) wtYes (wTup [.ex (w1 pNeg (.ex (wC (.int 1)))), .ex (wN 2)])))))
    (wSeq (wRet (wLc (wiSeq (wN 1)) [5] (wgN 5) (wtB (w2 pEq (.ex (wLc (wiSeq (wN 0)) [3, 4] (wgT 2 (wgCons (wgN 3) (wgCons (wgN 4) wgNil))) (wtB (w2 pGt (.ex (w2 pAdd (.ex (w2 pMulA (.ex (w2 pIx (.br 3) (.ex (wC (.int 0))))) (.ex (w2 pIx (.br 5) (.ex (wC (.int 0))))))) (.ex (w2 pMulA (.ex (w2 pIx (.br 3) (.ex (wC (.int 1))))) (.ex (w2 pIx (.br 5) (.ex (wC (.int 1))))))))) (.ex (wC (.int 0))))) (wC (.int 1)))) (.ex (wLst [])))) (wN 5)))
    wNx))
def w__law_greatest (f__law_pairs f__law_ways : FI) : WS :=
  (wSeq (wSet 2 (wCall f__law_pairs [.br 0, .ex (wC (.int 70))]))
    (wSeq (wIf (wtB (w2 pEq (.br 2) (.ex (wLst [])))) (wSeq (wRet (wC (.str "none")))
    wNx) wNx)
    (wSeq (wIf (wtB (w2 pNe (.ex (wLc (wiSeq (wCall f__law_ways [.br 0])) [3] (wgN 3) (wtB (w2 pGt (.ex (w2 pAdd (.ex (w2 pMulA (.ex (w2 pIx (.br 1) (.ex (wC (.int 0))))) (.ex (w2 pIx (.br 3) (.ex (wC (.int 0))))))) (.ex (w2 pMulA (.ex (w2 pIx (.br 1) (.ex (wC (.int 1))))) (.ex (w2 pIx (.br 3) (.ex (wC (.int 1))))))))) (.ex (wC (.int 0))))) (wC (.int 1)))) (.ex (wLst [])))) (wSeq (wRet (wC (.str "endless")))
    wNx) wNx)
    (wSeq (wRet (wL pMax [.ex (wLc (wiSeq (wN 2)) [4] (wgN 4) (wtOr (wtB (w2 pLt (.ex (wL pAbs [.ex (w2 pIx (.br 4) (.ex (wC (.int 1))))])) (.ex (wC (.int 900))))) (wtB (w2 pEq (.ex (w2 pIx (.br 1) (.ex (wC (.int 1))))) (.ex (wC (.int 0)))))) (w2 pAdd (.ex (w2 pMulA (.ex (w2 pIx (.br 1) (.ex (wC (.int 0))))) (.ex (w2 pIx (.br 4) (.ex (wC (.int 0))))))) (.ex (w2 pMulA (.ex (w2 pIx (.br 1) (.ex (wC (.int 1))))) (.ex (w2 pIx (.br 4) (.ex (wC (.int 1)))))))))]))
    wNx))))
def w__law_any_row (f__law_roll f__law_some : FI) : WS :=
  (wSeq (wSet 2 (wTup [.ex (w2 pSub (.ex (wCall f__law_roll [.br 0, .ex (wC (.int 13))])) (.ex (wC (.int 6)))), .ex (w2 pSub (.ex (wCall f__law_roll [.br 0, .ex (wC (.int 9))])) (.ex (wC (.int 4))))]))
    (wSeq (wSet 3 (w2 pAdd (.ex (wLc (wiSeq (wN 1)) [8] (wgN 8) wtYes (w2 pIx (.br 8) (.ex (wC (.int 0)))))) (.ex (wLst [.ex (wN 2)]))))
    (wSeq (wSets3 4 5 6 (wCall f__law_some [.br 0, .ex ((wN 3))]) (wCall f__law_some [.br 0, .ex ((wN 3))]) (wCall f__law_roll [.br 0, .ex (wC (.int 4))]))
    (wSeq (wSet 7 (wTup [.ex (w2 pSub (.ex (wCall f__law_roll [.br 0, .ex (w2 pAdd (.ex (w2 pMulA (.ex (wC (.int 2))) (.ex (w2 pPow (.ex (wC (.int 10))) (.ex (wC (.int 6))))))) (.ex (wC (.int 1))))])) (.ex (w2 pPow (.ex (wC (.int 10))) (.ex (wC (.int 6)))))), .ex (w2 pSub (.ex (wCall f__law_roll [.br 0, .ex (w2 pAdd (.ex (w2 pMulA (.ex (wC (.int 2))) (.ex (w2 pPow (.ex (wC (.int 10))) (.ex (wC (.int 6))))))) (.ex (wC (.int 1))))])) (.ex (w2 pPow (.ex (wC (.int 10))) (.ex (wC (.int 6))))))]))
    (wSeq (wRet (wCall f__law_some [.br 0, .ex ((wLst [.ex (wN 2), .ex (wN 4), .ex (wTup [.ex (w2 pAdd (.ex (w2 pMulA (.br 6) (.ex (w2 pIx (.br 4) (.ex (wC (.int 0))))))) (.ex (w2 pIx (.br 5) (.ex (wC (.int 0)))))), .ex (w2 pAdd (.ex (w2 pMulA (.br 6) (.ex (w2 pIx (.br 4) (.ex (wC (.int 1))))))) (.ex (w2 pIx (.br 5) (.ex (wC (.int 1))))))]), .ex (wN 7), .ex (wTup [.ex (wC (.int 0)), .ex (wC (.int 0))]), .ex (wTup [.ex (wC (.int 1)), .ex (wC (.int 0))]), .ex (wTup [.ex (w1 pNeg (.ex (wC (.int 1)))), .ex (wC (.int 0))])]))]))
    wNx)))))
end DL
end L2

set_option Elab.async false
set_option maxRecDepth 100000
set_option maxHeartbeats 1000000
/-! Plain part 1: leaves.py, what it does on data. -/
namespace L2
open PySem PySem.Spec PyProof.Rows
namespace DL
/-- a def that gives data and nothing else -/
def fnR (n : Nat) (f : List D → Option Rv) : FI := ⟨n, none, fun ds Q _ => ∃ r, f ds = some r ∧ Q r .none⟩
@[simp] theorem fnR_n {n : Nat} {f : List D → Option Rv} : (fnR n f).n = n := rfl
@[simp] theorem fnR_ix {n : Nat} {f : List D → Option Rv} : (fnR n f).ix = none := rfl
@[simp] theorem fnR_sp {n : Nat} {f : List D → Option Rv} {ds : List D} {Q : Rv → D → Prop} {X : XW} : (fnR n f).sp ds Q X ↔ ∃ r, f ds = some r ∧ Q r .none := Iff.rfl
/-- a reading of such a def -/
theorem reads_R {n m : Nat} {f : List D → Option Rv} {w : WS} (h : ∀ ds r, f ds = some r → ∀ (Q : Rv → Prop) X, Q r → w X ⟨fun _ => Q (.d .none), fun r _ => Q r, fun _ => False, fun _ => False⟩ (startD none m 0 ds)) : Reads (fnR n f) m w := fun ds Qd X hl hs => by
  obtain ⟨r, e, hq⟩ := hs
  exact h ds r e (fun r => Qd r .none) X hq

/-! places -/
section
variable {x y z u : D} {l : List D} {i : Nat}
theorem at_nat {α : Type} {l : List α} {i : Nat} (h : i < l.length) : atI l (i : Int) = l[i]? := by
  unfold atI ixN
  rw [if_pos (by omega), if_pos (by omega), Int.toNat_natCast]
  rfl
@[simp] theorem at_0 : atI (x :: l) 0 = some x := (at_nat (i := 0) (by simp)).trans rfl
@[simp] theorem at_1 : atI (x :: y :: l) 1 = some y := (at_nat (i := 1) (by simp)).trans rfl
@[simp] theorem at_2 : atI (x :: y :: z :: l) 2 = some z := (at_nat (i := 2) (by simp)).trans rfl
@[simp] theorem at_3 : atI (x :: y :: z :: u :: l) 3 = some u := (at_nat (i := 3) (by simp)).trans rfl
end
/-! comparisons -/
@[simp] theorem eq_ss {a b : Str} {Q : Rv → Prop} : pEq (.str a) (.str b) Q ↔ ((PyData.str a).canLay0 = true ∧ (PyData.str b).canLay0 = true) ∧ Q (.d (.bool (decide (a = b)))) := by
  have : PyData.eqv (.str a) (.str b) = decide (a = b) := by
    rw [PyData.eqv]
    by_cases h : a = b <;> simp [h]
  unfold pEq CmpOk
  rw [this]
  simp [PyData.depth]
@[simp] theorem ne_ss {a b : Str} {Q : Rv → Prop} : pNe (.str a) (.str b) Q ↔ ((PyData.str a).canLay0 = true ∧ (PyData.str b).canLay0 = true) ∧ Q (.d (.bool (!decide (a = b)))) := by
  have : PyData.eqv (.str a) (.str b) = decide (a = b) := by
    rw [PyData.eqv]
    by_cases h : a = b <;> simp [h]
  unfold pNe CmpOk
  rw [this]
  simp [PyData.depth]
@[simp] theorem eq_ii {a b : Int} {Q : Rv → Prop} : pEq (.int a) (.int b) Q ↔ Q (.d (.bool (decide (a = b)))) := by
  have : PyData.eqv (.int a) (.int b) = decide (a = b) := by
    rw [PyData.eqv]
    by_cases h : a = b <;> simp [h]
  unfold pEq CmpOk
  rw [this]
  simp [PyData.depth, PyData.canLay0]
@[simp] theorem ne_ii {a b : Int} {Q : Rv → Prop} : pNe (.int a) (.int b) Q ↔ Q (.d (.bool (!decide (a = b)))) := by
  have : PyData.eqv (.int a) (.int b) = decide (a = b) := by
    rw [PyData.eqv]
    by_cases h : a = b <;> simp [h]
  unfold pNe CmpOk
  rw [this]
  simp [PyData.depth, PyData.canLay0]
@[simp] theorem eq_l0 {l : List D} {Q : Rv → Prop} : pEq (.list l) (.list []) Q ↔ (PyData.list l).canLay0 = true ∧ Q (.d (.bool l.isEmpty)) := by
  have : PyData.eqv (.list l) (.list []) = l.isEmpty := by
    rw [PyData.eqv]
    cases l <;> rfl
  unfold pEq CmpOk
  rw [this]
  simp [PyData.depth, PyData.canLay0, PyData.canLayAll0, PyData.depthAll]
@[simp] theorem ne_l0 {l : List D} {Q : Rv → Prop} : pNe (.list l) (.list []) Q ↔ (PyData.list l).canLay0 = true ∧ Q (.d (.bool (!l.isEmpty))) := by
  have : PyData.eqv (.list l) (.list []) = l.isEmpty := by
    rw [PyData.eqv]
    cases l <;> rfl
  unfold pNe CmpOk
  rw [this]
  simp [PyData.depth, PyData.canLay0, PyData.canLayAll0, PyData.depthAll]
@[simp] theorem lay_most : (PyData.str "most").canLay0 = true := by decide +kernel
@[simp] theorem lay_div : (PyData.str "div").canLay0 = true := by decide +kernel
@[simp] theorem lay_not : (PyData.str "not").canLay0 = true := by decide +kernel
@[simp] theorem lay_and : (PyData.str "and").canLay0 = true := by decide +kernel
@[simp] theorem lay_or : (PyData.str "or").canLay0 = true := by decide +kernel
@[simp] theorem ne_most_div : (("most" : Str) = ("div" : Str)) = False := eq_false (by decide +kernel)
@[simp] theorem ne_most_not : (("most" : Str) = ("not" : Str)) = False := eq_false (by decide +kernel)
@[simp] theorem ne_most_and : (("most" : Str) = ("and" : Str)) = False := eq_false (by decide +kernel)
@[simp] theorem ne_most_or : (("most" : Str) = ("or" : Str)) = False := eq_false (by decide +kernel)
@[simp] theorem ne_div_most : (("div" : Str) = ("most" : Str)) = False := eq_false (by decide +kernel)
@[simp] theorem ne_div_not : (("div" : Str) = ("not" : Str)) = False := eq_false (by decide +kernel)
@[simp] theorem ne_div_and : (("div" : Str) = ("and" : Str)) = False := eq_false (by decide +kernel)
@[simp] theorem ne_div_or : (("div" : Str) = ("or" : Str)) = False := eq_false (by decide +kernel)
@[simp] theorem ne_not_most : (("not" : Str) = ("most" : Str)) = False := eq_false (by decide +kernel)
@[simp] theorem ne_not_div : (("not" : Str) = ("div" : Str)) = False := eq_false (by decide +kernel)
@[simp] theorem ne_not_and : (("not" : Str) = ("and" : Str)) = False := eq_false (by decide +kernel)
@[simp] theorem ne_not_or : (("not" : Str) = ("or" : Str)) = False := eq_false (by decide +kernel)
@[simp] theorem ne_and_most : (("and" : Str) = ("most" : Str)) = False := eq_false (by decide +kernel)
@[simp] theorem ne_and_div : (("and" : Str) = ("div" : Str)) = False := eq_false (by decide +kernel)
@[simp] theorem ne_and_not : (("and" : Str) = ("not" : Str)) = False := eq_false (by decide +kernel)
@[simp] theorem ne_and_or : (("and" : Str) = ("or" : Str)) = False := eq_false (by decide +kernel)
@[simp] theorem ne_or_most : (("or" : Str) = ("most" : Str)) = False := eq_false (by decide +kernel)
@[simp] theorem ne_or_div : (("or" : Str) = ("div" : Str)) = False := eq_false (by decide +kernel)
@[simp] theorem ne_or_not : (("or" : Str) = ("not" : Str)) = False := eq_false (by decide +kernel)
@[simp] theorem ne_or_and : (("or" : Str) = ("and" : Str)) = False := eq_false (by decide +kernel)

/-! slices, in -/
section
variable {x : D} {l : List D} {Q : Rv → Prop} {lo hi : Option Int}
@[simp] theorem sl_t : pSl lo hi (.tuple l) Q ↔ Q (.d (.tuple (cutA l lo hi))) := Iff.rfl
@[simp] theorem sl_l : pSl lo hi (.list l) Q ↔ Q (.f (.list (cutA l lo hi))) := Iff.rfl
@[simp] theorem sb_no {X : XW} {σ : SD} {R : Option Int → SD → Prop} : wSb .no X σ R ↔ R none σ := Iff.rfl
@[simp] theorem sb_ex {o : Opd} {X : XW} {σ : SD} {R : Option Int → SD → Prop} : wSb (.ex o) X σ R ↔ wO o X σ fun a σ1 => ∃ i, rs σ1 a = some (.int i) ∧ R (some i) σ1 := Iff.rfl
@[simp] theorem s_sl {o : Opd} {a b : SlB} {X : XW} {σ : SD} {R : Rv → SD → Prop} : wSl o a b X σ R ↔ wO o X σ fun x σ1 => wSb a X σ1 fun i σ2 => wSb b X σ2 fun j σ3 => ∃ d, rs σ3 x = some d ∧ pSl i j d fun r => R r σ3 := Iff.rfl
theorem cut_from {α : Type} (l : List α) (k : Nat) : cutA l (some (k : Int)) none = l.drop k := by
  unfold cutA
  rw [HT.sIx_nat, HT.sIx_none]
  by_cases h : k ≤ l.length
  · rw [Nat.min_eq_left h, List.take_of_length_le (by rw [List.length_drop]; omega)]
  · rw [Nat.min_eq_right (by omega), List.drop_length, List.drop_of_length_le (by omega), List.take_nil]
theorem cut_upto {α : Type} (l : List α) (k : Nat) : cutA l none (some (k : Int)) = l.take k := by
  unfold cutA
  rw [HT.sIx_nat, HT.sIx_none, List.drop_zero, Nat.sub_zero]
  by_cases h : k ≤ l.length
  · rw [Nat.min_eq_left h]
  · rw [Nat.min_eq_right (by omega), List.take_of_length_le (by omega), List.take_of_length_le (by omega)]
@[simp] theorem cut_1 : cutA l (some 1) none = l.drop 1 := cut_from l 1
@[simp] theorem cut_2 : cutA l (some 2) none = l.drop 2 := cut_from l 2
@[simp] theorem cut_3 : cutA l (some 3) none = l.drop 3 := cut_from l 3
@[simp] theorem upto_1 : cutA l none (some 1) = l.take 1 := cut_upto l 1
@[simp] theorem upto_2 : cutA l none (some 2) = l.take 2 := cut_upto l 2
@[simp] theorem upto_3 : cutA l none (some 3) = l.take 3 := cut_upto l 3
@[simp] theorem in_ss {s a b : Str} : pIn false (.str s) (.tuple [.str a, .str b]) Q ↔ Q (.d (.bool (decide (s = a) || decide (s = b)))) := by
  have e : ∀ x : Str, eqF (.str x) (.str s) = decide (s = x) := fun x => by
    show (x == s) = _
    by_cases h : s = x
    · simp [h]
    · have h2 : ¬ x = s := fun z => h z.symm
      simp [h, h2]
  unfold pIn
  simp [flatD, e]
@[simp] theorem sl_eq : sizeLine = 16777216 := sizeLine_eq
end
/-! ### is_whole, is_tuple_of, fits_row -/
def isWh (v : D) (lo hi : Int) : Bool := match v with
  | .int i => decide (lo ≤ i) && decide (i ≤ hi)
  | _ => false
def g_is_whole : List D → Option Rv
  | [v, .int lo, .int hi] => some (.d (.bool (isWh v lo hi)))
  | _ => none
@[simp] theorem g_is_whole_eq {v : D} {lo hi : Int} : g_is_whole [v, .int lo, .int hi] = some (.d (.bool (isWh v lo hi))) := rfl
abbrev f_is_whole : FI := fnR 3 g_is_whole
theorem r_is_whole : Reads f_is_whole 0 w_is_whole := reads_R fun ds r e Q X hq => by
  unfold g_is_whole at e
  split at e
  · rename_i v lo hi
    cases e
    simp [w_is_whole]
    cases v <;> simp [tyD, isiB, isWh] at hq ⊢ <;> try exact hq
    rename_i z
    by_cases h : lo ≤ z <;> simpa [h] using hq
  · cases e
def tupLen (v : D) (lo hi : Int) : Bool := match v with
  | .tuple l => decide (lo ≤ l.length) && decide ((l.length : Int) ≤ hi)
  | _ => false
def g_is_tuple_of : List D → Option Rv
  | [v, .int lo, .int hi] => some (.d (.bool (tupLen v lo hi)))
  | _ => none
@[simp] theorem g_is_tuple_of_eq {v : D} {lo hi : Int} : g_is_tuple_of [v, .int lo, .int hi] = some (.d (.bool (tupLen v lo hi))) := rfl
abbrev f_is_tuple_of : FI := fnR 3 g_is_tuple_of
theorem r_is_tuple_of : Reads f_is_tuple_of 0 w_is_tuple_of := reads_R fun ds r e Q X hq => by
  unfold g_is_tuple_of at e
  split at e
  · rename_i v lo hi
    cases e
    simp [w_is_tuple_of]
    cases v <;> simp [tyD, isiB, tupLen] at hq ⊢ <;> try exact hq
    rename_i l
    by_cases h : lo ≤ l.length <;> simpa [h] using hq
  · cases e
def rowFits (n : Int) (v : D) : Bool := match v with
  | .tuple l => decide (n = l.length) && l.all fun d => isWh d (-1000000000) 1000000000
  | _ => false
def g_fits_row : List D → Option Rv
  | [.int n, v] => if n ≤ 3 then some (.d (.bool (rowFits n v))) else none
  | _ => none
@[simp] theorem g_fits_row_eq {n : Int} {v : D} : g_fits_row [.int n, v] = if n ≤ 3 then some (.d (.bool (rowFits n v))) else none := rfl
theorem bolsD_all (l : List D) (p : D → Bool) : bolsD (l.map fun d => .bool (p d)) = some (l.map p) := by
  have := bolsD_map (l.map p)
  rw [List.map_map] at this
  exact this
abbrev f_fits_row : FI := fnR 2 g_fits_row
theorem r_fits_row : Reads f_fits_row 1 (w_fits_row f_is_tuple_of f_is_whole) := reads_R fun ds r e Q X hq => by
  unfold g_fits_row at e
  split at e
  · rename_i n v
    split at e
    · rename_i hn
      cases e
      simp [w_fits_row]
      cases v with
      | tuple l =>
        by_cases h : n = l.length
        · subst h
          simp [tupLen]
          refine lc_map (fun d => .bool (isWh d (-1000000000) 1000000000)) l (fun d hd A B a => ?_) (by rw [sizeLine_eq]; omega) ?_
          · simp [a]
          · refine ⟨_, bolsD_all l _, ?_⟩
            simpa [rowFits, List.all_map] using hq
        · have h2 : ¬ (n ≤ l.length ∧ (l.length : Int) ≤ n) := by omega
          simp [tupLen, rowFits, h, h2] at hq ⊢
          exact hq
      | _ => simpa [tupLen, rowFits] using hq
    · cases e
  · cases e
/-! ### fits_leaf -/
/-- s the first item, l the others -/
def leafFits (n : Int) (s : Str) (l : List D) : Bool := if s = "most" then (match l with
  | [row, k] => rowFits n row && isWh k (-1000000000000) 1000000000000
  | _ => false) else (match l with
  | [m, row, k] => isWh m 1 1000000 && (rowFits n row && isWh k (-1000000000000) 1000000000000)
  | _ => false)
def g_fits_leaf : List D → Option Rv
  | [.int n, .tuple (.str s :: l)] => if n ≤ 3 ∧ (PyData.str s).canLay0 = true then some (.d (.bool (leafFits n s l))) else none
  | _ => none
abbrev f_fits_leaf : FI := fnR 2 g_fits_leaf
theorem r_fits_leaf : Reads f_fits_leaf 0 (w_fits_leaf f_fits_row f_is_whole) := reads_R fun ds r e Q X hq => by
  unfold g_fits_leaf at e
  split at e
  · rename_i n s l
    split at e
    · rename_i hn
      obtain ⟨hn, hs⟩ := hn
      cases e
      simp [w_fits_leaf, hs, hn]
      have no3 : ∀ {a b c : D} {l : List D}, ¬ (((a :: b :: c :: l).length : Int) + 1 = 3) := fun {a b c l} z => by simp only [List.length_cons] at z; omega
      by_cases h : s = "most"
      · rcases l with _ | ⟨a, _ | ⟨b, _ | ⟨c, l⟩⟩⟩
        · simpa [leafFits, h] using hq
        · simpa [leafFits, h] using hq
        · simp [leafFits, h] at hq ⊢
          cases e : rowFits n a <;> simpa [e] using hq
        · rw [if_pos h, if_neg no3]
          simpa [leafFits, h] using hq
      · rcases l with _ | ⟨a, _ | ⟨b, _ | ⟨c, _ | ⟨d, l⟩⟩⟩⟩
        · simpa [leafFits, h] using hq
        · simpa [leafFits, h] using hq
        · simpa [leafFits, h] using hq
        · simp [leafFits, h] at hq ⊢
          cases e : isWh a 1 1000000 <;> cases e2 : rowFits n b <;> simpa [e, e2] using hq
        · rw [if_neg h, if_neg (fun z => by simp only [List.length_cons] at z; omega)]
          simpa [leafFits, h] using hq
    · cases e
  · cases e
/-! ### parts_of, fits_knot -/
/-- the parts of a knot: the first item, the others -/
def g_parts_of : List D → Option Rv
  | [.tuple (.str s :: x :: l)] => if (PyData.str s).canLay0 = true then (if s = "not" then some (.d (.tuple (x :: l))) else some (.d x)) else none
  | _ => none
abbrev f_parts_of : FI := fnR 1 g_parts_of
theorem r_parts_of : Reads f_parts_of 0 w_parts_of := reads_R fun ds r e Q X hq => by
  unfold g_parts_of at e
  split at e
  · rename_i s x l
    split at e
    · rename_i hs
      simp [w_parts_of, hs]
      split at e
      · rename_i h
        cases e
        simpa [h] using hq
      · rename_i h
        cases e
        simpa [h] using hq
    · cases e
  · cases e
def knot1 : List D → Bool
  | [x] => tupLen x 0 4000
  | _ => false
def knotFits (s : Str) (l : List D) : Bool := if s = "not" then l.length == 1 else decide (s = "and" ∨ s = "or") && knot1 l
def g_fits_knot : List D → Option Rv
  | [.tuple (.str s :: l)] => if (PyData.str s).canLay0 = true then some (.d (.bool (knotFits s l))) else none
  | _ => none
abbrev f_fits_knot : FI := fnR 1 g_fits_knot
theorem r_fits_knot : Reads f_fits_knot 0 (w_fits_knot f_is_tuple_of) := reads_R fun ds r e Q X hq => by
  unfold g_fits_knot at e
  split at e
  · rename_i s l
    split at e
    · rename_i hs
      cases e
      simp [w_fits_knot, hs]
      by_cases h : s = "not"
      · rcases l with _ | ⟨a, _ | ⟨b, l⟩⟩
        · simpa [knotFits, h] using hq
        · simpa [knotFits, h] using hq
        · simp only [knotFits, h, if_true] at hq ⊢
          have e1 : decide (((a :: b :: l).length : Int) + 1 = 2) = false := decide_eq_false (fun z => by simp only [List.length_cons] at z; omega)
          have e2 : ((a :: b :: l).length == 1) = false := by simp
          rw [e1]
          rw [e2] at hq
          exact hq
      · rw [if_neg h]
        unfold knotFits at hq
        rw [if_neg h] at hq
        by_cases e : s = "and" ∨ s = "or"
        · rw [if_pos e]
          rw [decide_eq_true e] at hq
          rcases l with _ | ⟨a, _ | ⟨b, l⟩⟩
          · simpa [knot1] using hq
          · simpa [knot1] using hq
          · rw [if_neg (fun z => by simp only [List.length_cons] at z; omega)]
            simpa [knot1] using hq
        · rw [if_neg e]
          rw [decide_eq_false e] at hq
          simpa using hq
    · cases e
  · cases e
/-! ### fits_test -/
/-- what is still to be looked at -/
def encS (st : List (D × Int)) : List D := st.map fun p => .tuple [p.1, .int p.2]
/-- the parts of a knot that is one -/
def partsD (v : D) : List D := match v with
  | .tuple (.str s :: x :: l) => if s = "not" then x :: l else (match x with
    | .tuple m => m
    | _ => [])
  | _ => []
/-- the loop of fits_test; the last of the list comes first -/
def fitsLoop (n : Int) : Nat → List (D × Int) → Nat → Bool
  | 0, _, _ => false
  | f + 1, st, many => match st.getLast? with
    | none => true
    | some (one, deep) => if many + 1 > 4000 ∨ deep > 12 ∨ tupLen one 2 4 = false then false else (match one with
      | .tuple (.str s :: l) => if s = "most" ∨ s = "div" then (if leafFits n s l = true then fitsLoop n f st.dropLast (many + 1) else false)
        else (if knotFits s l = true then fitsLoop n f (st.dropLast ++ (partsD one).map fun p => (p, deep + 1)) (many + 1) else false)
      | _ => false)
def testFits (n : Int) (v : D) : Bool := fitsLoop n 4002 [(v, 1)] 0
def g_fits_test : List D → Option Rv
  | [.int n, v] => if n ≤ 3 ∧ v.canLay0 = true then some (.d (.bool (testFits n v))) else none
  | _ => none
abbrev f_fits_test : FI := fnR 2 g_fits_test
theorem encS_lay : ∀ {st : List (D × Int)}, (∀ p ∈ st, p.1.canLay0 = true) → PyData.canLayAll0 (encS st) = true
  | [], _ => rfl
  | p :: st, h => by
    show PyData.canLayAll0 (.tuple [p.1, .int p.2] :: encS st) = true
    simp [PyData.canLayAll0, PyData.canLay0, h p List.mem_cons_self, encS_lay fun q hq => h q (List.mem_cons_of_mem _ hq)]
theorem lay_parts {v : D} (h : v.canLay0 = true) : ∀ p ∈ partsD v, p.canLay0 = true := by
  have all : ∀ {l : List D}, PyData.canLayAll0 l = true → ∀ p ∈ l, p.canLay0 = true := by
    intro l
    induction l with
    | nil => exact fun _ p hp => by cases hp
    | cons x l ih =>
      intro h p hp
      simp [PyData.canLayAll0] at h
      rcases List.mem_cons.mp hp with rfl | hp
      · exact h.1
      · exact ih h.2 p hp
  intro p hp
  unfold partsD at hp
  split at hp
  · rename_i s x l
    simp [PyData.canLay0, PyData.canLayAll0] at h
    split at hp
    · rcases List.mem_cons.mp hp with rfl | hp
      · exact h.2.1
      · exact all h.2.2 p hp
    · split at hp
      · rename_i m
        have h2 := h.2.1
        simp [PyData.canLay0] at h2
        exact all h2 p hp
      · cases hp
  · cases hp
theorem parts_ok {s : Str} {l : List D} (hs : (PyData.str s).canLay0 = true) (h : knotFits s l = true) : g_parts_of [.tuple (.str s :: l)] = some (.d (.tuple (partsD (.tuple (.str s :: l))))) ∧ (partsD (.tuple (.str s :: l))).length ≤ 4000 := by
  unfold knotFits at h
  by_cases hn : s = "not"
  · rw [if_pos hn] at h
    rcases l with _ | ⟨x, _ | ⟨y, l⟩⟩
    · simp at h
    · simp [g_parts_of, hs, hn, partsD]
    · simp at h
  · rw [if_neg hn, Bool.and_eq_true] at h
    rcases l with _ | ⟨x, _ | ⟨y, l⟩⟩
    · simp [knot1] at h
    · have h2 := h.2
      simp only [knot1] at h2
      cases x with
      | tuple m =>
        simp [tupLen] at h2
        simp [g_parts_of, hs, hn, partsD]
        omega
      | _ => simp [tupLen] at h2
    · simp [knot1] at h
structure Fst where
  st : List (D × Int)
  m : Nat
  a : Sl
  b : Sl
def Fst.S (n : Int) (v : D) (c : Fst) : SD := [.val (.int n), .val v, .own (.list (encS c.st)), .val (.int c.m), c.a, c.b, .un]
structure Fst.P (n : Int) (v : D) (c : Fst) : Prop where
  ha : freeSl (some c.a)
  hb : freeSl (some c.b)
  lay : ∀ p ∈ c.st, p.1.canLay0 = true
  run : fitsLoop n (4002 - c.m) c.st c.m = testFits n v
  le : c.m ≤ 4000
  len : c.st.length ≤ 1 + 4000 * c.m
theorem r_fits_test : Reads f_fits_test 5 (w_fits_test f_is_tuple_of f_fits_leaf f_fits_knot f_parts_of) := reads_R fun ds r e Q X hq => by
  unfold g_fits_test at e
  split at e
  · rename_i n v
    split at e
    · rename_i hn
      obtain ⟨hn, hv⟩ := hn
      cases e
      simp [w_fits_test]
      refine wh_gen (Fst.S n v) (fun c => 4002 - c.m) (Fst.P n v) ⟨[(v, 1)], 0, .un, .un⟩ ⟨trivial, trivial, fun p hp => by rw [List.mem_singleton.mp hp]; exact hv, rfl, Nat.zero_le _, by simp⟩ ?_
      rintro ⟨st, m, a, b⟩ ⟨ha, hb, lay, run, le, len⟩ nx hnx
      have lay2 := encS_lay lay
      dsimp only at ha hb lay run le len hnx lay2
      rcases List.eq_nil_or_concat st with rfl | ⟨st', p, rfl⟩
      · have e : (4002 - m) = (4001 - m) + 1 := by omega
        rw [e] at run
        simp [fitsLoop] at run
        simp [Fst.S, encS, PyData.canLay0, PyData.canLayAll0]
        rw [run] at hq
        exact hq
      · obtain ⟨one, deep⟩ := p
        have e : (4002 - m) = (4001 - m) + 1 := by omega
        rw [e] at run
        simp [fitsLoop] at run
        have le2 : PyData.canLay0 (.list (encS (st'.concat (one, deep)))) = true := by simpa [PyData.canLay0] using lay2
        have en : encS (st'.concat (one, deep)) = encS st' ++ [.tuple [one, .int deep]] := by simp [encS]
        rw [en] at le2
        simp only [whTurn_def, Fst.S, en]
        simp [le2, ha, hb]
        by_cases h1 : 4000 < m + 1
        · simp [h1] at run
          rw [if_pos (by omega)]
          rw [run] at hq
          exact hq
        rw [if_neg (by omega)]
        by_cases h2 : 12 < deep
        · simp [h1, h2] at run
          rw [if_pos h2]
          rw [run] at hq
          exact hq
        rw [if_neg h2]
        cases h3 : tupLen one 2 4
        · simp [h1, h2, h3] at run
          rw [run] at hq
          exact hq
        rw [if_pos rfl]
        cases one with
        | tuple l =>
          rcases l with _ | ⟨x, l⟩
          · simp [tupLen] at h3
          cases x with
          | str s =>
            have lay3 := lay (.tuple (.str s :: l), deep) (by simp)
            simp [PyData.canLay0, PyData.canLayAll0] at lay3
            have ls : (PyData.str s).canLay0 = true := by simp [PyData.canLay0, lay3]
            simp [h1, h2, h3] at run
            simp [tyD, isiB]
            by_cases h4 : s = "most" ∨ s = "div"
            · rw [if_pos h4]
              rw [if_pos h4] at run
              simp [g_fits_leaf, ls, hn]
              cases h5 : leafFits n s l
              · simp [h5] at run
                rw [run] at hq
                simpa using hq
              · simp [h5] at run
                simp
                have := hnx ⟨st', m + 1, .val (.tuple (.str s :: l)), .val (.int deep)⟩ ⟨trivial, trivial, fun p hp => lay p (by simp [hp]), by
                  rw [← run, show 4002 - (m + 1) = 4001 - m by omega], by dsimp only; omega, by
                  dsimp only
                  rw [List.length_concat] at len
                  omega⟩ (by dsimp only; omega)
                simpa [Fst.S] using this
            · rw [if_neg h4]
              rw [if_neg h4] at run
              simp [g_fits_knot, ls]
              cases h5 : knotFits s l
              · simp [h5] at run
                rw [run] at hq
                simpa using hq
              · simp [h5] at run
                obtain ⟨p1, p2⟩ := parts_ok ls h5
                simp [p1]
                have lp := lay_parts (lay (.tuple (.str s :: l), deep) (by simp))
                generalize partsD (.tuple (.str s :: l)) = parts at run p2 lp
                rw [List.length_concat] at len
                refine lc_map (fun d => .tuple [d, .int (deep + 1)]) parts (fun d hd A B a => ?_) (by rw [sl_eq]; omega) ?_
                · simpa using a
                · have e1 : (encS st').length = st'.length := by simp [encS]
                  have e2 : encS st' ++ parts.map (fun d => PyData.tuple [d, .int (deep + 1)]) = encS (st' ++ parts.map fun p => (p, deep + 1)) := by simp [encS, Function.comp_def]
                  simp [e1]
                  refine ⟨by omega, ?_⟩
                  rw [e2]
                  have := hnx ⟨st' ++ parts.map fun p => (p, deep + 1), m + 1, .val (.tuple (.str s :: l)), .val (.int deep)⟩ ⟨trivial, trivial, fun p hp => by
                      rcases List.mem_append.mp hp with hp | hp
                      · exact lay p (by simp [hp])
                      · obtain ⟨q, hq, rfl⟩ := List.mem_map.mp hp
                        exact lp q hq, by
                    rw [← run, show 4002 - (m + 1) = 4001 - m by omega], by dsimp only; omega, by
                    dsimp only
                    rw [List.length_append, List.length_map]
                    omega⟩ (by dsimp only; omega)
                  simpa [Fst.S] using this
          | _ =>
            simp [h1, h2, h3] at run
            rw [run] at hq
            simpa [tyD, isiB] using hq
        | _ => simp [tupLen] at h3
    · cases e
  · cases e
end DL
end L2
set_option Elab.async false
set_option maxRecDepth 100000
set_option maxHeartbeats 1000000
/-! Plain part 2: tests as trees; leaves_of, sum_at, leaf_at, test_at. -/
namespace L2
open PySem PySem.Spec PyProof.Rows
namespace DL
/-- a def that gives data, told by a relation -/
def fnT (n : Nat) (R : List D → Rv → Prop) : FI := ⟨n, none, fun ds Q _ => ∃ r, R ds r ∧ Q r .none⟩
@[simp] theorem fnT_n {n : Nat} {R : List D → Rv → Prop} : (fnT n R).n = n := rfl
@[simp] theorem fnT_ix {n : Nat} {R : List D → Rv → Prop} : (fnT n R).ix = none := rfl
@[simp] theorem fnT_sp {n : Nat} {R : List D → Rv → Prop} {ds : List D} {Q : Rv → D → Prop} {X : XW} : (fnT n R).sp ds Q X ↔ ∃ r, R ds r ∧ Q r .none := Iff.rfl
theorem reads_T {n m : Nat} {R : List D → Rv → Prop} {w : WS} (h : ∀ ds r, R ds r → ∀ (Q : Rv → Prop) X, Q r → w X ⟨fun _ => Q (.d .none), fun r _ => Q r, fun _ => False, fun _ => False⟩ (startD none m 0 ds)) : Reads (fnT n R) m w := fun ds Qd X hl hs => by
  obtain ⟨r, e, hq⟩ := hs
  exact h ds r e (fun r => Qd r .none) X hq

mutual
/-- a test -/
inductive Tt where
  | most (row : List Int) (k : Int)
  | div (m : Int) (row : List Int) (k : Int)
  | neg (t : Tt)
  | all (ts : Tts)
  | any (ts : Tts)
inductive Tts where
  | nil
  | cons (t : Tt) (ts : Tts)
end
abbrev encI (l : List Int) : D := .tuple (l.map .int)
mutual
def Tt.enc : Tt → D
  | .most row k => .tuple [.str "most", encI row, .int k]
  | .div m row k => .tuple [.str "div", .int m, encI row, .int k]
  | .neg t => .tuple [.str "not", t.enc]
  | .all ts => .tuple [.str "and", .tuple ts.enc]
  | .any ts => .tuple [.str "or", .tuple ts.enc]
def Tts.enc : Tts → List D
  | .nil => []
  | .cons t ts => t.enc :: ts.enc
end
/-- the sum of products -/
def dot : List Int → List Int → Int
  | x :: xs, y :: ys => x * y + dot xs ys
  | _, _ => 0
mutual
def Tt.at (p : List Int) : Tt → Bool
  | .most row k => decide (dot row p ≤ k)
  | .div m row k => decide ((dot row p + k) % m = 0)
  | .neg t => !t.at p
  | .all ts => ts.allAt p
  | .any ts => ts.anyAt p
def Tts.allAt (p : List Int) : Tts → Bool
  | .nil => true
  | .cons t ts => t.at p && ts.allAt p
def Tts.anyAt (p : List Int) : Tts → Bool
  | .nil => false
  | .cons t ts => t.at p || ts.anyAt p
end
mutual
def Tt.leaves : Tt → List Tt
  | .neg t => t.leaves
  | .all ts => ts.leaves
  | .any ts => ts.leaves
  | t => [t]
def Tts.leaves : Tts → List Tt
  | .nil => []
  | .cons t ts => t.leaves ++ ts.leaves
end
mutual
/-- how many tests are within, itself counted -/
def Tt.size : Tt → Nat
  | .neg t => t.size + 1
  | .all ts => ts.size + 1
  | .any ts => ts.size + 1
  | _ => 1
def Tts.size : Tts → Nat
  | .nil => 0
  | .cons t ts => t.size + ts.size
end
mutual
def Tt.deep : Tt → Nat
  | .neg t => t.deep + 1
  | .all ts => ts.deep + 1
  | .any ts => ts.deep + 1
  | _ => 1
def Tts.deep : Tts → Nat
  | .nil => 0
  | .cons t ts => max t.deep ts.deep
end
def Tts.len : Tts → Nat
  | .nil => 0
  | .cons _ ts => ts.len + 1
/-- a leaf of n letters -/
def leafOk (n : Nat) (R K : Int) : Tt → Prop
  | .most row k => row.length = n ∧ (∀ x ∈ row, -R ≤ x ∧ x ≤ R) ∧ -K ≤ k ∧ k ≤ K
  | .div m row k => (1 ≤ m ∧ m ≤ 1000000) ∧ row.length = n ∧ (∀ x ∈ row, -R ≤ x ∧ x ≤ R) ∧ -K ≤ k ∧ k ≤ K
  | _ => False
mutual
/-- a test of n letters -/
def Tt.ok (n : Nat) : Tt → Prop
  | .neg t => t.ok n
  | .all ts => ts.ok n ∧ ts.len ≤ 4000
  | .any ts => ts.ok n ∧ ts.len ≤ 4000
  | .most row k => leafOk n 1000000000 1000000000000 (.most row k)
  | .div m row k => leafOk n 1000000000 1000000000000 (.div m row k)
def Tts.ok (n : Nat) : Tts → Prop
  | .nil => True
  | .cons t ts => t.ok n ∧ ts.ok n
end
theorem Tts.enc_len : ∀ ts : Tts, ts.enc.length = ts.len
  | .nil => rfl
  | .cons t ts => congrArg Nat.succ (Tts.enc_len ts)

/-! ### sum_at -/
def g_sum_at (ds : List D) (r : Rv) : Prop := ∃ (a p : List Int), ds = [encI a, encI p] ∧ a.length ≤ 100 ∧ (∀ x ∈ a, -(2 ^ 64) < x ∧ x < 2 ^ 64) ∧ r = .d (.int (dot a p))
abbrev f_sum_at : FI := fnT 2 g_sum_at
theorem zip_ints : ∀ a p : List Int, zipD (a.map .int) (p.map .int) = (a.zip p).map fun q => .tuple [.int q.1, .int q.2]
  | [], _ => by simp [zipD]
  | x :: a, [] => by simp [zipD]
  | x :: a, y :: p => by simp [zipD, zip_ints a p]
theorem dot_zip : ∀ a p : List Int, ((a.zip p).map fun q => q.1 * q.2).sum = dot a p
  | [], p => by cases p <;> rfl
  | x :: a, [] => rfl
  | x :: a, y :: p => by simp [dot, dot_zip a p]
def prodD : D → D
  | .tuple [.int x, .int y] => .int (x * y)
  | d => d
theorem r_sum_at : Reads f_sum_at 2 w_sum_at := reads_T fun ds r e Q X hq => by
  obtain ⟨a, p, rfl, hl, hb, rfl⟩ := e
  simp [w_sum_at]
  have hlen : (zipD (a.map .int) (p.map .int)).length ≤ 100 := by
    rw [zipD_len, List.length_map, List.length_map]
    omega
  refine lc_map prodD _ (fun d hd A B a1 => ?_) (by rw [sl_eq]; omega) ?_
  · rw [zip_ints] at hd
    obtain ⟨q, hq, rfl⟩ := List.mem_map.mp hd
    have hx := hb q.1 (List.of_mem_zip hq).1
    have := mulOk_left (j := q.2) hx.1 hx.2
    simp [this]
    exact a1
  · have e : (zipD (a.map .int) (p.map .int)).map prodD = ((a.zip p).map fun q => q.1 * q.2).map .int := by
      rw [zip_ints]
      simp [prodD, Function.comp_def]
    rw [e]
    exact ⟨_, intsD_map _, by rw [dot_zip]; exact hq⟩
/-! ### leaf_at, test_at -/
def rowOk (row : List Int) : Prop := row.length ≤ 100 ∧ ∀ x ∈ row, -(2 ^ 64) < x ∧ x < 2 ^ 64
def isLeaf : Tt → Prop
  | .most row _ => rowOk row
  | .div m row _ => 1 ≤ m ∧ rowOk row
  | _ => False
def g_leaf_at (ds : List D) (r : Rv) : Prop := ∃ (t : Tt) (p : List Int), ds = [t.enc, encI p] ∧ isLeaf t ∧ r = .d (.bool (t.at p))
abbrev f_leaf_at : FI := fnT 2 g_leaf_at
theorem r_leaf_at : Reads f_leaf_at 0 (w_leaf_at f_sum_at) := reads_T fun ds r e Q X hq => by
  obtain ⟨t, p, rfl, hl, rfl⟩ := e
  cases t with
  | most row k =>
    simp [w_leaf_at, Tt.enc]
    exact ⟨_, ⟨row, p, rfl, hl.1, hl.2, rfl⟩, by simpa [Tt.at] using hq⟩
  | div m row k =>
    simp [w_leaf_at, Tt.enc]
    have hm : m ≠ 0 := by
      have := hl.1
      omega
    refine ⟨_, ⟨row, p, rfl, hl.2.1, hl.2.2, rfl⟩, ?_⟩
    have e : (dot row p + k).fmod m = (dot row p + k) % m := Int.fmod_eq_emod_of_nonneg _ (by have := hl.1; omega)
    simp [hm, e]
    simpa [Tt.at] using hq
  | _ => exact hl.elim
theorem isLeaf_of {n : Nat} {t : Tt} (h : t.ok n) (hn : n ≤ 100) (hl : (∃ row k, t = .most row k) ∨ ∃ m row k, t = .div m row k) : isLeaf t := by
  rcases hl with ⟨row, k, rfl⟩ | ⟨m, row, k, rfl⟩
  · simp only [Tt.ok, leafOk] at h
    refine ⟨by omega, fun x hx => ?_⟩
    have := h.2.1 x hx
    omega
  · simp only [Tt.ok, leafOk] at h
    refine ⟨by omega, by omega, fun x hx => ?_⟩
    have := h.2.2.1 x hx
    omega
def g_test_at (k : Nat) (ds : List D) (r : Rv) : Prop := ∃ (n : Nat) (t : Tt) (p : List Int), ds = [t.enc, encI p] ∧ n ≤ 100 ∧ t.ok n ∧ t.deep ≤ k ∧ r = .d (.bool (t.at p))
abbrev f_test_at (k : Nat) : FI := fnT 2 (g_test_at k)
theorem Tts.mem_enc : ∀ {ts : Tts} {d : D}, d ∈ ts.enc → ∃ t : Tt, d = t.enc ∧ t.deep ≤ ts.deep ∧ ∀ n, ts.ok n → t.ok n
  | .nil, d, h => by simp [Tts.enc] at h
  | .cons t ts, d, h => by
    simp only [Tts.enc, List.mem_cons] at h
    rcases h with rfl | h
    · exact ⟨t, rfl, Nat.le_max_left _ _, fun n h => h.1⟩
    · obtain ⟨u, e, h1, h2⟩ := Tts.mem_enc h
      exact ⟨u, e, Nat.le_trans h1 (Nat.le_max_right _ _), fun n h => h2 n h.2⟩
/-- what the run of the parts gives, as a list -/
def Tts.vals (p : List Int) : Tts → List Bool
  | .nil => []
  | .cons t ts => t.at p :: ts.vals p
theorem Tts.vals_all {p : List Int} : ∀ ts : Tts, (ts.vals p).all id = ts.allAt p
  | .nil => rfl
  | .cons t ts => by simp [Tts.vals, Tts.allAt, Tts.vals_all ts]
theorem Tts.vals_any {p : List Int} : ∀ ts : Tts, (ts.vals p).any id = ts.anyAt p
  | .nil => rfl
  | .cons t ts => by simp [Tts.vals, Tts.anyAt, Tts.vals_any ts]
/-- a comprehension over the parts of a knot -/
theorem lc_parts {X : XW} {vs : List Nat} {g : WG} {w : WE} {σ : SD} {Q : List D → SD → Prop} {p : List Int} : ∀ (ts : Tts) (acc : List D), (∀ t : Tt, t.deep ≤ ts.deep → (∀ n, ts.ok n → t.ok n) → ∀ (A : D → SD → Prop) (B : SD → Prop), A (.bool (t.at p)) σ → lcTurn X vs g wtYes w t.enc σ A B) → acc.length + ts.len ≤ sizeLine →
    Q (acc ++ (ts.vals p).map .bool) σ → lcD X vs g wtYes w Q ts.enc acc σ
  | .nil, acc, _, _, h => by
    show Q acc σ
    simpa [Tts.vals] using h
  | .cons t ts, acc, st, hl, h => by
    simp only [Tts.len] at hl
    refine st t (Nat.le_max_left _ _) (fun n h => h.1) (fun y σ3 => acc.length < sizeLine ∧ lcD X vs g wtYes w Q ts.enc (acc ++ [y]) σ3) (fun σ3 => lcD X vs g wtYes w Q ts.enc acc σ3) ⟨by omega, ?_⟩
    refine lc_parts ts (acc ++ [.bool (t.at p)]) (fun u h1 h2 => st u (Nat.le_trans h1 (Nat.le_max_right _ _)) fun n h => h2 n h.2) (by rw [List.length_append, List.length_singleton]; omega) ?_
    simpa [Tts.vals] using h
theorem r_test_at (k : Nat) : Reads (f_test_at (k + 1)) 1 (w_test_at f_leaf_at (f_test_at k)) := reads_T fun ds r e Q X hq => by
  obtain ⟨n, t, p, rfl, hn, ok, dp, rfl⟩ := e
  cases t with
  | most row c =>
    simp [w_test_at, Tt.enc]
    exact ⟨_, ⟨.most row c, p, rfl, isLeaf_of ok hn (.inl ⟨row, c, rfl⟩), rfl⟩, hq⟩
  | div m row c =>
    simp [w_test_at, Tt.enc]
    exact ⟨_, ⟨.div m row c, p, rfl, isLeaf_of ok hn (.inr ⟨m, row, c, rfl⟩), rfl⟩, hq⟩
  | neg t =>
    simp [w_test_at, Tt.enc]
    refine ⟨_, ⟨n, t, p, rfl, hn, ok, Nat.le_of_succ_le_succ dp, rfl⟩, ?_⟩
    simpa [Tt.at] using hq
  | all ts =>
    simp [w_test_at, Tt.enc]
    refine lc_parts (p := p) ts [] (fun t h1 h2 A B a => ?_) (by have := ok.2; rw [sl_eq]; simp; omega) ?_
    · simp
      exact ⟨_, ⟨n, t, p, rfl, hn, h2 n ok.1, Nat.le_trans h1 (Nat.le_of_succ_le_succ dp), rfl⟩, a⟩
    · refine ⟨_, bolsD_map _, ?_⟩
      rw [Tts.vals_all]
      exact hq
  | any ts =>
    simp [w_test_at, Tt.enc]
    refine lc_parts (p := p) ts [] (fun t h1 h2 A B a => ?_) (by have := ok.2; rw [sl_eq]; simp; omega) ?_
    · simp
      exact ⟨_, ⟨n, t, p, rfl, hn, h2 n ok.1, Nat.le_trans h1 (Nat.le_of_succ_le_succ dp), rfl⟩, a⟩
    · refine ⟨_, bolsD_map _, ?_⟩
      rw [Tts.vals_any]
      exact hq
theorem r_test_at0 {w : WS} : Reads (f_test_at 0) 1 w := reads_T fun ds r e Q X hq => by
  obtain ⟨n, t, p, rfl, hn, ok, dp, rfl⟩ := e
  cases t <;> simp [Tt.deep] at dp
/-! ### leaves_of -/
def sizeAll : List Tt → Nat
  | [] => 0
  | t :: l => t.size + sizeAll l
def leavesAll : List Tt → List Tt
  | [] => []
  | t :: l => t.leaves ++ leavesAll l
def Tts.toList : Tts → List Tt
  | .nil => []
  | .cons t ts => t :: ts.toList
theorem Tts.enc_list : ∀ ts : Tts, ts.enc = ts.toList.map Tt.enc
  | .nil => rfl
  | .cons t ts => by simp [Tts.enc, Tts.toList, Tts.enc_list ts]
theorem Tts.size_list : ∀ ts : Tts, ts.size = sizeAll ts.toList
  | .nil => rfl
  | .cons t ts => by simp [Tts.size, Tts.toList, sizeAll, Tts.size_list ts]
theorem Tts.leaves_list : ∀ ts : Tts, ts.leaves = leavesAll ts.toList
  | .nil => rfl
  | .cons t ts => by simp [Tts.leaves, Tts.toList, leavesAll, Tts.leaves_list ts]
theorem Tts.len_list : ∀ ts : Tts, ts.toList.length = ts.len
  | .nil => rfl
  | .cons t ts => by simp [Tts.toList, Tts.len, Tts.len_list ts]
theorem sizeAll_app : ∀ l m : List Tt, sizeAll (l ++ m) = sizeAll l + sizeAll m
  | [], m => by simp [sizeAll]
  | t :: l, m => by simp [sizeAll, sizeAll_app l m, Nat.add_assoc]
theorem leavesAll_app : ∀ l m : List Tt, leavesAll (l ++ m) = leavesAll l ++ leavesAll m
  | [], m => by simp [leavesAll]
  | t :: l, m => by simp [leavesAll, leavesAll_app l m]
theorem size_pos (t : Tt) : 1 ≤ t.size := by cases t <;> simp [Tt.size]
theorem len_size : ∀ l : List Tt, l.length ≤ sizeAll l
  | [] => Nat.le_refl _
  | t :: l => by
    have := len_size l
    have := size_pos t
    simp only [List.length_cons, sizeAll]
    omega
mutual
theorem Tt.leaves_size : ∀ t : Tt, t.leaves.length ≤ t.size
  | .most _ _ => by simp [Tt.leaves, Tt.size]
  | .div _ _ _ => by simp [Tt.leaves, Tt.size]
  | .neg t => by have := Tt.leaves_size t; simp only [Tt.leaves, Tt.size]; omega
  | .all ts => by have := Tts.leaves_size ts; simp only [Tt.leaves, Tt.size]; omega
  | .any ts => by have := Tts.leaves_size ts; simp only [Tt.leaves, Tt.size]; omega
theorem Tts.leaves_size : ∀ ts : Tts, ts.leaves.length ≤ ts.size
  | .nil => by simp [Tts.leaves]
  | .cons t ts => by
    have h1 := Tt.leaves_size t
    have h2 := Tts.leaves_size ts
    simp only [Tts.leaves, Tts.size, List.length_append]
    omega
end
def g_leaves_of (ds : List D) (r : Rv) : Prop := ∃ t : Tt, ds = [t.enc] ∧ t.size ≤ 1000000 ∧ t.enc.canLay0 = true ∧ r = .f (.list (t.leaves.map Tt.enc))
abbrev f_leaves_of : FI := fnT 1 g_leaves_of
theorem lay_all {l : List Tt} (h : ∀ t ∈ l, t.enc.canLay0 = true) : PyData.canLayAll0 (l.map Tt.enc) = true := by
  induction l with
  | nil => rfl
  | cons t l ih => simp [PyData.canLayAll0, h t List.mem_cons_self, ih fun u hu => h u (List.mem_cons_of_mem _ hu)]
theorem lay_ints : ∀ l : List Int, PyData.canLayAll0 (l.map .int) = true
  | [] => rfl
  | x :: l => by simp [PyData.canLayAll0, PyData.canLay0, lay_ints l]
mutual
theorem Tt.lay : ∀ t : Tt, t.enc.canLay0 = true
  | .most row k => by
    have := lay_most
    simp [PyData.canLay0] at this
    simp [Tt.enc, PyData.canLay0, PyData.canLayAll0, lay_ints, this]
  | .div m row k => by
    have := lay_div
    simp [PyData.canLay0] at this
    simp [Tt.enc, PyData.canLay0, PyData.canLayAll0, lay_ints, this]
  | .neg t => by
    have := lay_not
    simp [PyData.canLay0] at this
    simp [Tt.enc, PyData.canLay0, PyData.canLayAll0, this, Tt.lay t]
  | .all ts => by
    have := lay_and
    simp [PyData.canLay0] at this
    simp [Tt.enc, PyData.canLay0, PyData.canLayAll0, this, Tts.lay ts]
  | .any ts => by
    have := lay_or
    simp [PyData.canLay0] at this
    simp [Tt.enc, PyData.canLay0, PyData.canLayAll0, this, Tts.lay ts]
theorem Tts.lay : ∀ ts : Tts, PyData.canLayAll0 ts.enc = true
  | .nil => rfl
  | .cons t ts => by simp [Tts.enc, PyData.canLayAll0, Tt.lay t, Tts.lay ts]
end
/-- the parts of a test that is no leaf -/
def Tt.parts : Tt → List Tt
  | .neg t => [t]
  | .all ts => ts.toList
  | .any ts => ts.toList
  | _ => []
theorem seq_0 (n : Nat) : seqIndex? 0 (n + 1) = some 0 := by
  unfold seqIndex?
  have : (0 : Int) < ((n + 1 : Nat) : Int) := by omega
  simp
structure Lst where
  fo : List Tt
  li : List Tt
  a : Sl
def Lst.S (v : D) (c : Lst) : SD := [.val v, .own (.list (c.fo.map Tt.enc)), .own (.list (c.li.map Tt.enc)), c.a]
theorem r_leaves_of : Reads f_leaves_of 3 (w_leaves_of f_parts_of) := reads_T fun ds r e Q X hq => by
  obtain ⟨t, rfl, hz, _, rfl⟩ := e
  simp [w_leaves_of]
  have start : ([.val t.enc, .own (.list []), .own (.list [t.enc]), .un] : SD) = Lst.S t.enc ⟨[], [t], .un⟩ := rfl
  rw [start]
  refine wh_gen (Lst.S t.enc) (fun c => sizeAll c.li) (fun c => freeSl (some c.a) ∧ c.fo ++ leavesAll c.li = t.leaves ∧ sizeAll c.li ≤ 1000000) _ ⟨trivial, by simp [leavesAll], by simpa [sizeAll] using hz⟩ ?_
  rintro ⟨fo, li, a⟩ ⟨ha, hl, hs⟩ nx hnx
  dsimp only at ha hl hs hnx
  have lay2 : PyData.canLayAll0 (li.map Tt.enc) = true := lay_all fun t _ => t.lay
  have lay3 : PyData.canLay0 (.list (li.map Tt.enc)) = true := by simpa [PyData.canLay0] using lay2
  have flen : fo.length ≤ 1000000 := by
    have h1 := congrArg List.length hl
    rw [List.length_append] at h1
    have := t.leaves_size
    omega
  have slen : li.length ≤ 1000000 := Nat.le_trans (len_size li) hs
  cases li with
  | nil =>
    simp [Lst.S, PyData.canLay0, PyData.canLayAll0]
    simp [leavesAll] at hl
    rw [hl]
    exact hq
  | cons u li =>
    simp only [sizeAll] at hs
    simp at lay3
    simp [Lst.S, lay3, ha]
    refine ⟨0, seq_0 _, u.enc, rfl, ?_⟩
    have leaf : ∀ w : SD → Prop, w = nx → u.leaves = [u] → u.size = 1 → nx (Lst.S t.enc ⟨fo ++ [u], li, .val u.enc⟩) := fun w _ e1 e2 =>
      hnx ⟨fo ++ [u], li, .val u.enc⟩ ⟨trivial, by rw [← hl]; simp [leavesAll, e1], by dsimp only; omega⟩ (by simp only [sizeAll]; omega)
    have knot : ∀ ps : List Tt, u.leaves = leavesAll ps → u.size = sizeAll ps + 1 → nx (Lst.S t.enc ⟨fo, ps ++ li, .val u.enc⟩) := fun ps e1 e2 =>
      hnx ⟨fo, ps ++ li, .val u.enc⟩ ⟨trivial, by rw [← hl]; simp [leavesAll, leavesAll_app, e1], by dsimp only; rw [sizeAll_app]; omega⟩ (by simp only [sizeAll]; rw [sizeAll_app]; omega)
    rw [List.length_cons] at slen
    cases u with
    | most row k =>
      have := leaf nx rfl rfl rfl
      simp [Tt.enc]
      refine ⟨by omega, ?_⟩
      simpa [Lst.S, Tt.enc] using this
    | div m row k =>
      have := leaf nx rfl rfl rfl
      simp [Tt.enc]
      refine ⟨by omega, ?_⟩
      simpa [Lst.S, Tt.enc] using this
    | neg v =>
      have := knot [v] (by simp [Tt.leaves, leavesAll]) (by simp [Tt.size, sizeAll])
      simp [Tt.enc, g_parts_of]
      refine ⟨by omega, ?_⟩
      simpa [Lst.S, Tt.enc] using this
    | all ts =>
      have := knot ts.toList (by simp [Tt.leaves, Tts.leaves_list]) (by simp [Tt.size, Tts.size_list])
      have l1 := len_size ts.toList
      simp only [Tt.size, Tts.size_list] at hs
      simp [Tt.enc, g_parts_of, Tts.enc_list]
      refine ⟨by omega, ?_⟩
      simpa [Lst.S, Tt.enc, Tts.enc_list] using this
    | any ts =>
      have := knot ts.toList (by simp [Tt.leaves, Tts.leaves_list]) (by simp [Tt.size, Tts.size_list])
      have l1 := len_size ts.toList
      simp only [Tt.size, Tts.size_list] at hs
      simp [Tt.enc, g_parts_of, Tts.enc_list]
      refine ⟨by omega, ?_⟩
      simpa [Lst.S, Tt.enc, Tts.enc_list] using this
end DL
end L2
set_option Elab.async false
set_option maxRecDepth 100000
set_option maxHeartbeats 1000000
/-! Helpers. -/
namespace L2
open PySem PySem.Spec PyProof.Rows
namespace DL
theorem div_ok {i j : Int} (h : j ≠ 0) (hb : j.natAbs < 2 ^ 64) : CDivA i j := ⟨h, by
  have h0 : (0 : Nat) < 64 := by decide
  have := PySem.Flt.log2_lt_of h0 hb
  omega⟩
/-- a statement by itself: keeps simp off the rest -/
theorem seq_k {s s' : WS} {X : XW} {D' : EndsD} {σ : SD} (h : ∀ k : SD → Prop, (∀ σ1, s' X D' σ1 → k σ1) → s X { D' with nx := k } σ) : wSeq s s' X D' σ := h _ fun _ h => h
section
variable {X : XW} {vs : List Nat} {g : WG} {t : WT} {w : WE} {Q : List D → SD → Prop}
theorem lc_inv (I : List D → List D → SD → Prop) (st : ∀ d ds acc σ, I (d :: ds) acc σ → ∀ (A : D → SD → Prop) (B : SD → Prop), (∀ y σ', I ds (acc ++ [y]) σ' → A y σ') → (∀ σ', I ds acc σ' → B σ') → lcTurn X vs g t w d σ A B) (hl : ∀ ds acc σ, I ds acc σ → acc.length ≤ sizeLine) (fin : ∀ acc σ, I [] acc σ → Q acc σ) :
    ∀ (items acc : List D) (σ : SD), I items acc σ → lcD X vs g t w Q items acc σ
  | [], acc, σ, h => fin acc σ h
  | d :: ds, acc, σ, h => st d ds acc σ h (fun y σ3 => acc.length < sizeLine ∧ lcD X vs g t w Q ds (acc ++ [y]) σ3) (fun σ3 => lcD X vs g t w Q ds acc σ3) (fun y σ' h' => ⟨by
      have := hl _ _ _ h'
      rw [List.length_append, List.length_singleton] at this
      omega, lc_inv I st hl fin ds _ _ h'⟩) (fun σ' h' => lc_inv I st hl fin ds _ _ h')
end
@[simp] theorem emp_ints {l : List Int} : (l.map PyData.int).isEmpty = l.isEmpty := by cases l <;> rfl
theorem ints_inj {l m : List Int} (h : l.map PyData.int = m.map PyData.int) : l = m := by
  have := congrArg intsD h
  rw [intsD_map, intsD_map] at this
  exact Option.some.inj this
def encO : Option Int → D
  | none => .none
  | some i => .int i
@[simp] theorem encO_n : encO none = .none := rfl
@[simp] theorem encO_s {i : Int} : encO (some i) = .int i := rfl
/-- the ints of a range -/
def rangeI (i : Int) (n : Nat) : List Int := (List.range n).map fun j => i + (j : Nat)
theorem rangeD_I (i : Int) (n : Nat) : rangeD i n = (rangeI i n).map .int := by
  unfold rangeD rangeI
  rw [List.map_map]
  rfl
theorem rangeI_mem {i y : Int} {n : Nat} : y ∈ rangeI i n ↔ i ≤ y ∧ y < i + (n : Nat) := by
  unfold rangeI
  rw [List.mem_map]
  constructor
  · rintro ⟨j, hj, rfl⟩
    rw [List.mem_range] at hj
    omega
  · rintro ⟨h1, h2⟩
    exact ⟨(y - i).toNat, by rw [List.mem_range]; omega, by omega⟩
theorem le_fdiv {c k x : Int} (hc : 0 < c) : c * x ≤ k ↔ x ≤ k.fdiv c := by
  rw [Int.fdiv_eq_ediv_of_nonneg _ (by omega), Int.le_ediv_iff_mul_le hc, Int.mul_comm]
theorem fdiv_b {k c m : Int} (hc : 0 < c) (hm : 0 ≤ m) (h0 : -m ≤ k) (h1 : k ≤ m) : -m ≤ k.fdiv c ∧ k.fdiv c ≤ m := by
  have e : ∀ z : Int, 0 ≤ z → z ≤ c * z := fun z hz => by
    have := Int.mul_le_mul_of_nonneg_right (show (1 : Int) ≤ c by omega) hz
    omega
  constructor
  · rw [← le_fdiv hc, Int.mul_neg]
    have := e m hm
    omega
  · have : ¬ (m + 1 ≤ k.fdiv c) := by
      rw [← le_fdiv hc]
      have := e (m + 1) (by omega)
      omega
    omega
/-- the reading of a def that catches -/
abbrev ReadsTry (fi : FI) (m : Nat) (tbl : Str → Str → Option Bool) (c : Str) (h : (Str → Option Bool) → Option HV) (w v : WS) : Prop := ∀ ds (Qd : Rv → D → Prop) X, ds.length = fi.n → fi.sp ds Qd X →
  w (xTry tbl c (fun nm => h (tbl nm)) (fun r => Qd r .none) X) ⟨v X ⟨fun σ => Qd (.d .none) .none, fun r σ => Qd r .none, fun _ => False, fun _ => False⟩, fun r σ => Qd r .none, fun _ => False, fun _ => False⟩ (startD fi.ix m 0 ds)
@[simp] theorem q_mult {l : List D} {k : Int} {Q : Rv → Prop} : pMulA (.tuple l) (.int k) Q ↔ l ≠ [] ∧ 2 ≤ k ∧ k.toNat * l.length ≤ sizeLine ∧ Q (.d (.tuple (List.replicate k.toNat l).flatten)) := Iff.rfl
def mn (i j : Int) : Int := if j < i then j else i
def mx (i j : Int) : Int := if j > i then j else i
theorem q_mn {i j : Int} {Q : Rv → Prop} : pMin [.int i, .int j] Q ↔ Q (.d (.int (mn i j))) := Iff.rfl
theorem q_mx {i j : Int} {Q : Rv → Prop} : pMax [.int i, .int j] Q ↔ Q (.d (.int (mx i j))) := Iff.rfl
/-! comprehensions over coded things -/
section
variable {X : XW} {vs : List Nat} {g : WG} {t : WT} {w : WE} {Q : List D → SD → Prop} {σ : SD} {γ : Type}
theorem lc_encF (enc : γ → D) (f : γ → Option D) (l : List γ) (st : ∀ u ∈ l, ∀ (A : D → SD → Prop) (B : SD → Prop), (match f u with
    | some y => A y σ
    | none => B σ) → lcTurn X vs g t w (enc u) σ A B) (hl : l.length ≤ sizeLine) (h : Q (l.filterMap f) σ) : lcD X vs g t w Q (l.map enc) [] σ := by
  refine lc_inv (fun ds acc σ' => ∃ l1 l2, l = l1 ++ l2 ∧ ds = l2.map enc ∧ acc = l1.filterMap f ∧ σ' = σ) ?_ ?_ ?_ _ _ _ ⟨[], l, rfl, rfl, rfl, rfl⟩
  · rintro d ds acc σ' ⟨l1, l2, e1, e2, rfl, rfl⟩ A B hA hB
    rcases l2 with _ | ⟨u, l2⟩
    · cases e2
    simp only [List.map_cons, List.cons.injEq] at e2
    obtain ⟨rfl, rfl⟩ := e2
    refine st u (by rw [e1]; simp) A B ?_
    have e3 : l = (l1 ++ [u]) ++ l2 := by rw [e1]; simp
    cases hf : f u with
    | some y => exact hA y _ ⟨l1 ++ [u], l2, e3, rfl, by simp [hf], rfl⟩
    | none => exact hB _ ⟨l1 ++ [u], l2, e3, rfl, by simp [hf], rfl⟩
  · rintro ds acc σ' ⟨l1, l2, e1, e2, rfl, rfl⟩
    have h1 := List.length_filterMap_le f l1
    rw [e1, List.length_append] at hl
    omega
  · rintro acc σ' ⟨l1, l2, e1, e2, rfl, rfl⟩
    have : l2 = [] := by
      cases l2 with
      | nil => rfl
      | cons u l => cases e2
    subst this
    rw [List.append_nil] at e1
    rw [← e1]
    exact h
theorem lc_enc (enc : γ → D) (f : γ → D) (l : List γ) (st : ∀ u ∈ l, ∀ (A : D → SD → Prop) (B : SD → Prop), A (f u) σ → lcTurn X vs g t w (enc u) σ A B) (hl : l.length ≤ sizeLine) (h : Q (l.map f) σ) : lcD X vs g t w Q (l.map enc) [] σ :=
  lc_encF enc (fun u => some (f u)) l st hl (by have e : l.filterMap (fun u => some (f u)) = l.map f := congrFun List.filterMap_eq_map' l; rw [e]; exact h)
end
theorem maxL_eq {v x : Int} {r : List Int} (h : v ∈ x :: r) (h2 : ∀ y ∈ x :: r, y ≤ v) : maxL (x :: r) = v := by
  obtain ⟨a, b⟩ := maxL_spec x r
  have := b v h
  have := h2 _ a
  omega
/-- a def that gives nothing, or an error -/
def fnE (n : Nat) (P : List D → Prop) (nm : Str) (B : List D → Bool) : FI := ⟨n, none, fun ds Q X => P ds ∧ ((B ds = true ∧ Q (.d .none) .none) ∨ (B ds = false ∧ X nm))⟩
end DL
end L2
set_option Elab.async false
set_option maxRecDepth 100000
set_option maxHeartbeats 1000000
/-! The law's own dice. -/
namespace L2
open PySem PySem.Spec PyProof.Rows
namespace DL
/-- the cup: two numbers -/
def CupOk (c : D) : Prop := ∃ a b : Int, c = .list [.int a, .int b] ∧ 0 ≤ a ∧ 0 ≤ b ∧ b < 4294967296
/-- a def that has the cup for its first parameter, and may give what R tells -/
def fnC (n : Nat) (P : List D → Prop) (R : List D → Rv → Prop) : FI := ⟨n, some 0, fun ds Q _ => ∃ c r, ds = c :: r ∧ CupOk c ∧ P r ∧ ∀ v c', CupOk c' → R r v → Q v c'⟩
section
variable {n m : Nat} {P : List D → Prop} {R : List D → Rv → Prop}
@[simp] theorem fnC_n : (fnC n P R).n = n := rfl
@[simp] theorem fnC_ix : (fnC n P R).ix = some 0 := rfl
@[simp] theorem fnC_sp {c : D} {r : List D} {Q : Rv → D → Prop} {X : XW} : (fnC n P R).sp (c :: r) Q X ↔ CupOk c ∧ P r ∧ ∀ v c', CupOk c' → R r v → Q v c' := by
  constructor
  · rintro ⟨c2, r2, e, h⟩
    cases e
    exact h
  · intro h
    exact ⟨c, r, rfl, h⟩
theorem reads_C {w : WS} (h : ∀ c r, CupOk c → P r → ∀ (Q : Rv → D → Prop) X, (∀ v c', CupOk c' → R r v → Q v c') → w X ⟨fun σ => Q (.d .none) (ioC (some 0) σ), fun v σ => Q v (ioC (some 0) σ), fun _ => False, fun _ => False⟩ (.io c :: startD (some 0) m 1 r)) : Reads (fnC n P R) m w := fun ds Qd X hl hs => by
  obtain ⟨c, r, rfl, hc, hp, hq⟩ := hs
  exact h c r hc hp Qd X hq
end
@[simp] theorem ix2_0 : ixN 2 0 = some 0 := by decide
@[simp] theorem ix2_1 : ixN 2 1 = some 1 := by decide
def pRoll (r : List D) : Prop := ∃ many : Int, r = [.int many] ∧ 0 < many ∧ many < 4611686018427387904
def rRoll (r : List D) (v : Rv) : Prop := ∃ many k : Int, r = [.int many] ∧ v = .d (.int k) ∧ 0 ≤ k ∧ k < many
abbrev f__law_roll : FI := fnC 2 pRoll rRoll
theorem r__law_roll : Reads f__law_roll 2 w__law_roll := reads_C fun c r hc hp Q X hq => by
  obtain ⟨a, b, rfl, ha, hb, hb2⟩ := hc
  obtain ⟨many, rfl, h0, h1⟩ := hp
  have hm : many ≠ 0 := by omega
  have fm : ∀ x m : Int, 0 < m → x.fmod m = x % m := fun x m h => Int.fmod_eq_emod_of_nonneg _ (by omega)
  have nn : ∀ x m : Int, 0 < m → 0 ≤ x % m := fun x m h => Int.emod_nonneg _ (by omega)
  have lt : ∀ x m : Int, 0 < m → x % m < m := fun x m h => Int.emod_lt_of_pos _ h
  have dv : ∀ x, CDivA x many := fun x => div_ok hm (by omega)
  simp [w__law_roll]
  by_cases h : 0 < a
  · rw [if_pos h]
    simp [hm, dv]
    exact hq _ _ ⟨_, _, rfl, Int.fdiv_nonneg (by omega) (by omega), hb, hb2⟩ ⟨many, _, rfl, rfl, by rw [fm _ _ h0]; exact nn _ _ h0, by rw [fm _ _ h0]; exact lt _ _ h0⟩
  · rw [if_neg h]
    have m1 : IntMulOk b 31069 := mulOk_right (by omega) (by omega)
    have hb' : ∀ x : Int, 0 ≤ x.fmod 2147483489 ∧ x.fmod 2147483489 < 2147483489 := fun x => by
      rw [fm _ _ (by omega)]
      exact ⟨nn _ _ (by omega), lt _ _ (by omega)⟩
    have h2 := hb' (b * 31069 + 8017)
    have m2 : IntMulOk ((b * 31069 + 8017).fmod 2147483489) ((b * 31069 + 8017).fmod 2147483489 + 241) := mulOk_left (by omega) (by omega)
    have d2 : ∀ x, CDivA x 829 := fun x => div_ok (by omega) (by omega)
    simp [m1, m2, d2, hm]
    exact hq _ _ ⟨_, _, rfl, ha, h2.1, by omega⟩ ⟨many, _, rfl, rfl, by rw [fm _ _ h0]; exact nn _ _ h0, by rw [fm _ _ h0]; exact lt _ _ h0⟩
def pSome (r : List D) : Prop := ∃ l : List D, r = [.list l] ∧ l ≠ [] ∧ l.length < 1000000
def rSome (r : List D) (v : Rv) : Prop := ∃ (l : List D) (d : D), r = [.list l] ∧ d ∈ l ∧ v = .d d
abbrev f__law_some : FI := fnC 2 pSome rSome
theorem r__law_some : Reads f__law_some 0 (w__law_some f__law_roll) := reads_C fun c r hc hp Q X hq => by
  obtain ⟨l, rfl, h0, h1⟩ := hp
  have hl : 0 < l.length := List.length_pos_iff.mpr h0
  simp [w__law_some, hc]
  refine ⟨⟨_, rfl, by omega, by omega⟩, ?_⟩
  rintro v c' hc' ⟨many, k, e, rfl, k0, k1⟩
  cases e
  simp
  have hk : k.toNat < l.length := by omega
  refine ⟨l[k.toNat], ?_, ?_⟩
  · have := at_nat hk
    rw [Int.toNat_of_nonneg k0] at this
    rw [this, List.getElem?_eq_getElem hk]
  · exact hq _ _ hc' ⟨l, _, rfl, List.getElem_mem hk, rfl⟩
def g__law_cup (ds : List D) (Q : Rv → D → Prop) (_ : XW) : Prop := ∃ ns : List Int, ds = [.list (ns.map .int)] ∧ ns.length < 16777216 ∧ ∀ c, CupOk c → Q (.f c) .none
abbrev f__law_cup : FI := ⟨1, none, g__law_cup⟩
@[simp] theorem cpow_18 : CPow 10 18 := ⟨by decide, by decide, by decide⟩
@[simp] theorem cpow_12 : CPow 10 12 := ⟨by decide, by decide, by decide⟩
@[simp] theorem cpow_9 : CPow 10 9 := ⟨by decide, by decide, by decide⟩
@[simp] theorem cpow_6 : CPow 10 6 := ⟨by decide, by decide, by decide⟩
theorem r__law_cup : Reads f__law_cup 1 w__law_cup := by
  rintro ds Q X hl ⟨ns, rfl, hn, hq⟩
  have fin : ∀ z : Int, 0 ≤ z → (∀ c : D, CupOk c → Q (.f c) .none) → ∃ d, atI [PyData.int (if 1000000000000000000 ≤ z then z.fdiv 79 else 0), PyData.int ((z * 293 + 2903).fmod 2077503127 + 179)] 0 = some d := fun z _ _ => ⟨_, at_0⟩
  have cup : ∀ z : Int, 0 ≤ z → ∀ a, (a = z.fdiv 79 ∨ a = 0) → CupOk (.list [.int a, .int ((z * 293 + 2903).fmod 2077503127 + 179)]) := fun z hz a ha => by
    rw [Int.fmod_eq_emod_of_nonneg _ (by omega)]
    refine ⟨_, _, rfl, ?_, ?_, ?_⟩
    · rcases ha with rfl | rfl
      · exact Int.fdiv_nonneg hz (by omega)
      · omega
    · have := Int.emod_nonneg (z * 293 + 2903) (show (2077503127 : Int) ≠ 0 by omega)
      omega
    · have := Int.emod_lt_of_pos (z * 293 + 2903) (show (0 : Int) < 2077503127 by omega)
      omega
  have m1 : ∀ x : Int, IntMulOk x 293 := fun x => mulOk_right (by omega) (by omega)
  have d2 : ∀ x, CDivA x 79 := fun x => div_ok (by omega) (by omega)
  have ex : ∃ z rest, ns.map PyData.int ++ [PyData.int 0] = .int z :: rest := by
    cases ns with
    | nil => exact ⟨0, [], rfl⟩
    | cons z r => exact ⟨z, r.map .int ++ [.int 0], rfl⟩
  obtain ⟨z, rest, ez⟩ := ex
  simp [w__law_cup]
  refine ⟨by omega, ?_⟩
  rw [ez]
  simp [m1, d2]
  have hz : 0 ≤ (if z < 0 then -z else z) := by split <;> omega
  generalize (if z < 0 then -z else z) = y at hz
  split
  · exact hq _ (cup y hz _ (.inl rfl))
  · exact hq _ (cup y hz _ (.inr rfl))
end DL
end L2
set_option Elab.async false
set_option maxRecDepth 100000
set_option maxHeartbeats 1000000
/-! Tests that fit are trees. -/
namespace L2
open PySem PySem.Spec PyProof.Rows
namespace DL
def Tts.of : List Tt → Tts
  | [] => .nil
  | t :: l => .cons t (Tts.of l)
theorem Tts.of_list : ∀ l : List Tt, (Tts.of l).toList = l
  | [] => rfl
  | t :: l => by simp [Tts.of, Tts.toList, Tts.of_list l]
theorem Tts.of_enc (l : List Tt) : (Tts.of l).enc = l.map Tt.enc := by rw [Tts.enc_list, Tts.of_list]
theorem Tts.of_len (l : List Tt) : (Tts.of l).len = l.length := by rw [← Tts.len_list, Tts.of_list]
def deepAll (k : Nat) (l : List Tt) : Prop := ∀ t ∈ l, t.deep ≤ k
theorem Tts.deep_list {k : Nat} : ∀ {ts : Tts}, ts.deep ≤ k → deepAll k ts.toList
  | .nil, _ => fun t h => by cases h
  | .cons t ts, h => fun u hu => by
    simp only [Tts.deep] at h
    rcases List.mem_cons.mp hu with rfl | hu
    · omega
    · exact Tts.deep_list (ts := ts) (by omega) u hu
theorem rowFits_ok {n : Nat} {row : List Int} (h : row.length = n) (hb : ∀ x ∈ row, -1000000000 ≤ x ∧ x ≤ 1000000000) : rowFits n (encI row) = true := by
  simp [rowFits, h]
  intro x hx
  have := hb x hx
  simp [isWh]
  omega
theorem leafFits_ok {n : Nat} {t : Tt} (h : leafOk n 1000000000 1000000000000 t) : ∃ s l, t.enc = .tuple (.str s :: l) ∧ (s = "most" ∨ s = "div") ∧ leafFits n s l = true ∧ tupLen t.enc 2 4 = true := by
  cases t with
  | most row k =>
    simp only [leafOk] at h
    refine ⟨_, _, rfl, .inl rfl, ?_, by simp [Tt.enc, tupLen]⟩
    simp [leafFits, rowFits_ok h.1 h.2.1, isWh]
    omega
  | div m row k =>
    simp only [leafOk] at h
    refine ⟨_, _, rfl, .inr rfl, ?_, by simp [Tt.enc, tupLen]⟩
    simp [leafFits, rowFits_ok h.2.1 h.2.2.1, isWh]
    omega
  | _ => exact h.elim
/-- a tree to be looked at, so deep -/
def encT (st : List (Tt × Int)) : List (D × Int) := st.map fun p => (p.1.enc, p.2)
def sizeT (st : List (Tt × Int)) : Nat := sizeAll (st.map (·.1))
theorem sizeT_app (a b : List (Tt × Int)) : sizeT (a ++ b) = sizeT a + sizeT b := by
  unfold sizeT
  rw [List.map_append, sizeAll_app]
theorem sizeT_parts (l : List Tt) (d : Int) : sizeT (l.map fun u => (u, d)) = sizeAll l := by
  unfold sizeT
  rw [List.map_map]
  simp [Function.comp_def]
theorem encT_parts (l : List Tt) (d : Int) : encT (l.map fun u => (u, d)) = (l.map Tt.enc).map fun p => (p, d) := by
  unfold encT
  rw [List.map_map, List.map_map]
  rfl
theorem Tts.mem_list {n : Nat} : ∀ {ts : Tts}, ts.ok n → ∀ u ∈ ts.toList, u.ok n
  | .nil, _, u, h => by cases h
  | .cons t ts, h, u, hu => by
    rcases List.mem_cons.mp hu with rfl | hu
    · exact h.1
    · exact Tts.mem_list (ts := ts) h.2 u hu
/-- the parts of a tree that is no leaf -/
theorem knot_ok {n : Nat} {t : Tt} (ok : t.ok n) (hl : ∀ R K, ¬ leafOk n R K t) : ∃ s l, t.enc = .tuple (.str s :: l) ∧ ¬ (s = "most" ∨ s = "div") ∧ knotFits s l = true ∧ tupLen t.enc 2 4 = true ∧ partsD t.enc = t.parts.map Tt.enc ∧ t.size = sizeAll t.parts + 1 ∧
    (∀ u ∈ t.parts, u.ok n ∧ u.deep + 1 ≤ t.deep) := by
  cases t with
  | most row k => exact absurd ok (hl _ _)
  | div m row k => exact absurd ok (hl _ _)
  | neg t =>
    refine ⟨_, _, rfl, by simp, by simp [knotFits], by simp [Tt.enc, tupLen], by simp [Tt.enc, partsD, Tt.parts], by simp [Tt.parts, Tt.size, sizeAll], fun u hu => ?_⟩
    rw [List.mem_singleton.mp hu]
    exact ⟨ok, Nat.le_refl _⟩
  | all ts =>
    have := ok.2
    refine ⟨_, _, rfl, by simp, by simp [knotFits, knot1, tupLen, Tts.enc_len]; omega, by simp [Tt.enc, tupLen], by simp [Tt.enc, partsD, Tt.parts, Tts.enc_list], by simp [Tt.parts, Tt.size, Tts.size_list], fun u hu => ?_⟩
    exact ⟨Tts.mem_list ok.1 u hu, by have := Tts.deep_list (Nat.le_refl ts.deep) u hu; simp only [Tt.deep]; omega⟩
  | any ts =>
    have := ok.2
    refine ⟨_, _, rfl, by simp, by simp [knotFits, knot1, tupLen, Tts.enc_len]; omega, by simp [Tt.enc, tupLen], by simp [Tt.enc, partsD, Tt.parts, Tts.enc_list], by simp [Tt.parts, Tt.size, Tts.size_list], fun u hu => ?_⟩
    exact ⟨Tts.mem_list ok.1 u hu, by have := Tts.deep_list (Nat.le_refl ts.deep) u hu; simp only [Tt.deep]; omega⟩
theorem fits_loop {n : Nat} : ∀ (f : Nat) (st : List (Tt × Int)) (many : Nat), (∀ p ∈ st, p.1.ok n ∧ p.2 + p.1.deep ≤ 13) → sizeT st + many ≤ 4000 → sizeT st < f → fitsLoop n f (encT st) many = true
  | 0, st, many, _, _, h => absurd h (by omega)
  | f + 1, st, many, hs, hm, hf => by
    rcases List.eq_nil_or_concat st with rfl | ⟨st', p, rfl⟩
    · simp [fitsLoop, encT]
    · obtain ⟨t, d⟩ := p
      rw [List.concat_eq_append] at *
      obtain ⟨ok, hd⟩ := hs (t, d) (by simp)
      dsimp only at ok hd
      have en : encT (st' ++ [(t, d)]) = encT st' ++ [(t.enc, d)] := by simp [encT]
      have ez : sizeT (st' ++ [(t, d)]) = sizeT st' + t.size := by
        rw [sizeT_app]
        simp [sizeT, sizeAll]
      have sp := size_pos t
      have dpos : 1 ≤ t.deep := by cases t <;> simp [Tt.deep]
      rw [ez] at hm hf
      have rest : ∀ p ∈ st', p.1.ok n ∧ p.2 + p.1.deep ≤ 13 := fun p hp => hs p (by simp [hp])
      unfold fitsLoop
      rw [en]
      simp only [List.getLast?_append, List.getLast?_singleton, Option.some_or, List.dropLast_concat]
      by_cases hl : leafOk n 1000000000 1000000000000 t
      · obtain ⟨s, l, e1, e2, e3, e4⟩ := leafFits_ok hl
        rw [if_neg (by rw [e4]; simp; omega), e1]
        simp only [e2, e3, if_true]
        exact fits_loop f st' (many + 1) rest (by omega) (by omega)
      · have hl2 : ∀ R K, ¬ leafOk n R K t := fun R K z => by
          cases t with
          | most row k => exact hl ok
          | div m row k => exact hl ok
          | _ => exact z
        obtain ⟨s, l, e1, e2, e3, e4, e5, e6, e7⟩ := knot_ok ok hl2
        rw [if_neg (by rw [e4]; simp; omega)]
        have e8 := e5
        rw [e1] at e8
        rw [e1]
        simp only [e2, e3, if_true, if_false]
        rw [e8, ← encT_parts]
        have : encT st' ++ encT (t.parts.map fun u => (u, d + 1)) = encT (st' ++ t.parts.map fun u => (u, d + 1)) := by simp [encT]
        rw [this]
        refine fits_loop f _ (many + 1) (fun p hp => ?_) (by rw [sizeT_app, sizeT_parts]; omega) (by rw [sizeT_app, sizeT_parts]; omega)
        rcases List.mem_append.mp hp with hp | hp
        · exact rest p hp
        · obtain ⟨u, hu, rfl⟩ := List.mem_map.mp hp
          have := e7 u hu
          exact ⟨this.1, by dsimp only; omega⟩
theorem fits_ok {n : Nat} {t : Tt} (ok : t.ok n) (hd : t.deep ≤ 12) (hz : t.size ≤ 4000) : testFits n t.enc = true :=
  fits_loop 4002 [(t, 1)] 0 (fun p hp => by rw [List.mem_singleton.mp hp]; exact ⟨ok, by dsimp only; omega⟩) (by simp [sizeT, sizeAll]; omega) (by simp [sizeT, sizeAll]; omega)
theorem bad_none {n : Int} : testFits n .none = false := by simp [testFits, fitsLoop, tupLen]
mutual
theorem Tt.leaves_ok {n : Nat} : ∀ {t : Tt}, t.ok n → ∀ u ∈ t.leaves, leafOk n 1000000000 1000000000000 u ∧ u.ok n
  | .most row k, h, u, hu => by
    simp [Tt.leaves] at hu
    subst hu
    exact ⟨h, h⟩
  | .div m row k, h, u, hu => by
    simp [Tt.leaves] at hu
    subst hu
    exact ⟨h, h⟩
  | .neg t, h, u, hu => Tt.leaves_ok (t := t) h u hu
  | .all ts, h, u, hu => Tts.leaves_ok (ts := ts) h.1 u hu
  | .any ts, h, u, hu => Tts.leaves_ok (ts := ts) h.1 u hu
theorem Tts.leaves_ok {n : Nat} : ∀ {ts : Tts}, ts.ok n → ∀ u ∈ ts.leaves, leafOk n 1000000000 1000000000000 u ∧ u.ok n
  | .nil, _, u, hu => by simp [Tts.leaves] at hu
  | .cons t ts, h, u, hu => by
    simp only [Tts.leaves, List.mem_append] at hu
    rcases hu with hu | hu
    · exact Tt.leaves_ok (t := t) h.1 u hu
    · exact Tts.leaves_ok (ts := ts) h.2 u hu
end
theorem isWh_dec {v : D} {lo hi : Int} (h : isWh v lo hi = true) : ∃ i : Int, v = .int i ∧ lo ≤ i ∧ i ≤ hi := by
  cases v with
  | int i =>
    simp [isWh] at h
    exact ⟨i, rfl, h.1, h.2⟩
  | _ => simp [isWh] at h
theorem row_dec {n : Nat} {v : D} (h : rowFits n v = true) : ∃ row : List Int, v = encI row ∧ row.length = n ∧ ∀ x ∈ row, -1000000000 ≤ x ∧ x ≤ 1000000000 := by
  cases v with
  | tuple l =>
    simp only [rowFits, Bool.and_eq_true, decide_eq_true_eq] at h
    obtain ⟨h1, h2⟩ := h
    have h1 : n = l.length := by omega
    subst h1
    have go : ∀ l : List D, (l.all fun d => isWh d (-1000000000) 1000000000) = true → ∃ row : List Int, l = row.map .int ∧ ∀ x ∈ row, -1000000000 ≤ x ∧ x ≤ 1000000000 := by
      intro l
      induction l with
      | nil => exact fun _ => ⟨[], rfl, fun x h => by cases h⟩
      | cons d l ih =>
        intro h
        rw [List.all_cons, Bool.and_eq_true] at h
        obtain ⟨i, rfl, i1, i2⟩ := isWh_dec h.1
        obtain ⟨row, rfl, hr⟩ := ih h.2
        exact ⟨i :: row, rfl, fun x hx => by
          rcases List.mem_cons.mp hx with rfl | hx
          · exact ⟨i1, i2⟩
          · exact hr x hx⟩
    obtain ⟨row, e, hr⟩ := go l h2
    exact ⟨row, by rw [e], by rw [e, List.length_map], hr⟩
  | _ => simp [rowFits] at h
theorem leaf_dec {n : Nat} {s : Str} {l : List D} (hs : s = "most" ∨ s = "div") (h : leafFits n s l = true) : ∃ t : Tt, .tuple (.str s :: l) = t.enc ∧ t.ok n ∧ t.deep = 1 ∧ t.size = 1 := by
  rcases hs with rfl | rfl
  · unfold leafFits at h
    rw [if_pos rfl] at h
    split at h
    · rename_i row k
      rw [Bool.and_eq_true] at h
      obtain ⟨r, rfl, r1, r2⟩ := row_dec h.1
      obtain ⟨i, rfl, i1, i2⟩ := isWh_dec h.2
      exact ⟨.most r i, rfl, ⟨r1, r2, i1, i2⟩, rfl, rfl⟩
    · cases h
  · unfold leafFits at h
    rw [if_neg (by simp)] at h
    split at h
    · rename_i m row k
      rw [Bool.and_eq_true, Bool.and_eq_true] at h
      obtain ⟨m, rfl, m1, m2⟩ := isWh_dec h.1
      obtain ⟨r, rfl, r1, r2⟩ := row_dec h.2.1
      obtain ⟨i, rfl, i1, i2⟩ := isWh_dec h.2.2
      exact ⟨.div m r i, rfl, ⟨⟨m1, m2⟩, r1, r2, i1, i2⟩, rfl, rfl⟩
    · cases h
theorem of_sizeAll (l : List Tt) : (Tts.of l).size = sizeAll l := by rw [Tts.size_list, Tts.of_list]
theorem of_ok {n : Nat} : ∀ {l : List Tt}, (∀ u ∈ l, u.ok n) → (Tts.of l).ok n
  | [], _ => trivial
  | t :: l, h => ⟨h t List.mem_cons_self, of_ok fun u hu => h u (List.mem_cons_of_mem _ hu)⟩
theorem of_deep {d : Int} : ∀ {l : List Tt}, (∀ u ∈ l, (u.deep : Int) ≤ d) → 0 ≤ d → ((Tts.of l).deep : Int) ≤ d
  | [], _, h => h
  | t :: l, h, h0 => by
    have h1 := h t List.mem_cons_self
    have h2 := of_deep (l := l) (fun u hu => h u (List.mem_cons_of_mem _ hu)) h0
    simp only [Tts.of, Tts.deep]
    omega
theorem knot_dec {n : Nat} {s : Str} {l : List D} {us : List Tt} {d : Int} (h : knotFits s l = true) (e : partsD (.tuple (.str s :: l)) = us.map Tt.enc) (hu : ∀ u ∈ us, u.ok n ∧ d + 1 + u.deep ≤ 13) (hd : d ≤ 12) :
    ∃ t : Tt, .tuple (.str s :: l) = t.enc ∧ t.ok n ∧ d + t.deep ≤ 13 ∧ t.size = sizeAll us + 1 := by
  unfold knotFits at h
  by_cases hn : s = "not"
  · subst hn
    rw [if_pos rfl] at h
    rcases l with _ | ⟨x, _ | ⟨y, l⟩⟩
    · simp at h
    · simp [partsD] at e
      rcases us with _ | ⟨u, _ | ⟨u2, us⟩⟩
      · simp at e
      · simp at e
        obtain ⟨a, b⟩ := hu u (by simp)
        refine ⟨.neg u, by simp [Tt.enc, e], a, ?_, ?_⟩
        · simp only [Tt.deep]; omega
        · simp [Tt.size, sizeAll]
      · simp at e
    · simp at h
  · rw [if_neg hn, Bool.and_eq_true, decide_eq_true_eq] at h
    obtain ⟨h1, h2⟩ := h
    rcases l with _ | ⟨x, _ | ⟨y, l⟩⟩
    · simp [knot1] at h2
    · simp only [knot1] at h2
      cases x with
      | tuple m =>
        simp [tupLen] at h2
        simp [partsD, hn] at e
        subst e
        have k1 : (Tts.of us).ok n := of_ok fun u q => (hu u q).1
        have k2 : (Tts.of us).len ≤ 4000 := by
          rw [Tts.of_len]
          simp at h2
          omega
        have k3 : ((Tts.of us).deep : Int) ≤ 12 - d := of_deep (fun u q => by have := (hu u q).2; omega) (by omega)
        rcases h1 with rfl | rfl
        · exact ⟨.all (Tts.of us), by simp [Tt.enc, Tts.of_enc], ⟨k1, k2⟩, by simp only [Tt.deep]; omega, by simp only [Tt.size, of_sizeAll]⟩
        · exact ⟨.any (Tts.of us), by simp [Tt.enc, Tts.of_enc], ⟨k1, k2⟩, by simp only [Tt.deep]; omega, by simp only [Tt.size, of_sizeAll]⟩
      | _ => simp [tupLen] at h2
    · simp [knot1] at h2
theorem encT_app (a b : List (Tt × Int)) : encT (a ++ b) = encT a ++ encT b := by simp [encT]
theorem loop_dec {n : Nat} : ∀ (f : Nat) (st : List (D × Int)) (many : Nat), many ≤ 4000 → fitsLoop n f st many = true → ∃ l : List (Tt × Int), encT l = st ∧ (∀ p ∈ l, p.1.ok n ∧ p.2 + p.1.deep ≤ 13) ∧ sizeT l + many ≤ 4000
  | 0, st, many, _, h => by cases h
  | f + 1, st, many, hm, h => by
    rcases List.eq_nil_or_concat st with rfl | ⟨st', p, rfl⟩
    · exact ⟨[], rfl, fun p h => (by cases h), by simpa [sizeT, sizeAll] using hm⟩
    · obtain ⟨one, deep⟩ := p
      rw [List.concat_eq_append] at h ⊢
      unfold fitsLoop at h
      simp only [List.getLast?_append, List.getLast?_singleton, Option.some_or, List.dropLast_concat] at h
      split at h
      · cases h
      · rename_i hc
        have c1 : many + 1 ≤ 4000 := by omega
        have c2 : deep ≤ 12 := by omega
        split at h
        · rename_i s l
          split at h
          · rename_i hs
            split at h
            · rename_i hl
              obtain ⟨t, e, k1, k2, k3⟩ := leaf_dec hs hl
              obtain ⟨l', e', a1, a2⟩ := loop_dec f st' (many + 1) c1 h
              refine ⟨l' ++ [(t, deep)], by rw [encT_app, e', e]; rfl, fun p hp => ?_, ?_⟩
              · rcases List.mem_append.mp hp with hp | hp
                · exact a1 p hp
                · rw [List.mem_singleton.mp hp]
                  exact ⟨k1, by dsimp only; omega⟩
              · rw [sizeT_app]
                have : sizeT [(t, deep)] = t.size := by simp [sizeT, sizeAll]
                omega
            · cases h
          · split at h
            · rename_i hl
              obtain ⟨l', e', a1, a2⟩ := loop_dec f _ (many + 1) c1 h
              unfold encT at e'
              obtain ⟨l1, l2, rfl, e1, e2⟩ := List.map_eq_append_iff.mp e'
              have e3 : partsD (.tuple (.str s :: l)) = (l2.map (·.1)).map Tt.enc := by
                have := congrArg (List.map (fun p : D × Int => p.1)) e2
                rw [List.map_map, List.map_map] at this
                rw [List.map_map]
                have z : (partsD (.tuple (.str s :: l))).map ((fun p : D × Int => p.1) ∘ fun p => (p, deep + 1)) = partsD (.tuple (.str s :: l)) := by
                  rw [show ((fun p : D × Int => p.1) ∘ fun p : D => (p, deep + 1)) = id from rfl, List.map_id]
                rw [z] at this
                rw [← this]
                rfl
              have e4 : ∀ p ∈ l2, p.2 = deep + 1 := fun p hp => by
                have : (p.1.enc, p.2) ∈ (partsD (.tuple (.str s :: l))).map fun p => (p, deep + 1) := by
                  rw [← e2]
                  exact List.mem_map.mpr ⟨p, hp, rfl⟩
                obtain ⟨q, _, hq⟩ := List.mem_map.mp this
                exact (congrArg (·.2) hq).symm
              obtain ⟨t, te, t1, t2, t3⟩ := knot_dec (n := n) (us := l2.map (·.1)) (d := deep) hl e3 (fun u hu => by
                obtain ⟨p, hp, rfl⟩ := List.mem_map.mp hu
                have := a1 p (List.mem_append_right _ hp)
                have := e4 p hp
                exact ⟨(a1 p (List.mem_append_right _ hp)).1, by omega⟩) c2
              refine ⟨l1 ++ [(t, deep)], by rw [encT_app, te]; show encT l1 ++ _ = _; unfold encT; rw [e1]; rfl, fun p hp => ?_, ?_⟩
              · rcases List.mem_append.mp hp with hp | hp
                · exact a1 p (List.mem_append_left _ hp)
                · rw [List.mem_singleton.mp hp]
                  exact ⟨t1, t2⟩
              · rw [sizeT_app] at a2 ⊢
                have : sizeT [(t, deep)] = t.size := by simp [sizeT, sizeAll]
                have : sizeT l2 = sizeAll (l2.map (·.1)) := rfl
                omega
            · cases h
        · cases h
theorem fits_dec {n : Nat} {v : D} (h : testFits n v = true) : ∃ t : Tt, v = t.enc ∧ t.ok n ∧ t.deep ≤ 12 ∧ t.size ≤ 4000 := by
  obtain ⟨l, e, a1, a2⟩ := loop_dec 4002 [(v, 1)] 0 (by omega) h
  rcases l with _ | ⟨p, _ | ⟨q, l⟩⟩
  · cases e
  · simp [encT] at e
    obtain ⟨rfl, e2⟩ := e
    obtain ⟨k1, k2⟩ := a1 p (by simp)
    have : sizeT [p] = p.1.size := by simp [sizeT, sizeAll]
    exact ⟨p.1, rfl, k1, by omega, by omega⟩
  · simp [encT] at e
end DL
end L2
set_option Elab.async false
set_option maxRecDepth 100000
set_option maxHeartbeats 1000000
/-! Formulas. -/
namespace L2
open PySem PySem.Spec PyProof.Rows
namespace DL
/-! ### common divisor, common multiple -/
def g_common_divisor (ds : List D) (r : Rv) : Prop := ∃ a b : Nat, ds = [.int a, .int b] ∧ r = .d (.int (Nat.gcd a b : Nat))
abbrev f_common_divisor : FI := fnT 2 g_common_divisor
theorem fmod_nat (a b : Nat) : (a : Int).fmod (b : Int) = ((a % b : Nat) : Int) := by
  rw [Int.fmod_eq_emod_of_nonneg _ (by omega)]
  rfl
theorem fdiv_nat (a b : Nat) : (a : Int).fdiv (b : Int) = ((a / b : Nat) : Int) := by
  rw [Int.fdiv_eq_ediv_of_nonneg _ (by omega)]
  rfl
theorem r_common_divisor : Reads f_common_divisor 0 w_common_divisor := reads_T fun ds r e Q X hq => by
  obtain ⟨a, b, rfl, rfl⟩ := e
  simp [w_common_divisor]
  have start : ([.val (.int (a : Nat)), .val (.int (b : Nat))] : SD) = (fun p : Nat × Nat => ([.val (.int (p.1 : Nat)), .val (.int (p.2 : Nat))] : SD)) (a, b) := rfl
  rw [start]
  refine wh_gen (fun p : Nat × Nat => [.val (.int (p.1 : Nat)), .val (.int (p.2 : Nat))]) (fun p => p.2) (fun p => Nat.gcd p.1 p.2 = Nat.gcd a b) _ rfl ?_
  rintro ⟨c, d⟩ hg nx hnx
  dsimp only at hg hnx
  by_cases h : d = 0
  · subst h
    simp
    rw [Nat.gcd_zero_right] at hg
    subst hg
    have : ¬ ((Nat.gcd a b : Nat) : Int) < 0 := by omega
    simp [this]
    exact hq
  · have h2 : ¬ ((d : Nat) : Int) = 0 := by omega
    simp [h]
    rw [fmod_nat]
    refine hnx (d, c % d) ?_ (Nat.mod_lt _ (by omega))
    show Nat.gcd d (c % d) = _
    rw [← hg, Nat.gcd_comm d, ← Nat.gcd_rec, Nat.gcd_comm]
def g_common_multiple (ds : List D) (r : Rv) : Prop := ∃ l : List Nat, ds = [.list (l.map fun (m : Nat) => .int (m : Nat))] ∧ (∀ m ∈ l, 1 ≤ m ∧ m ≤ 1000000) ∧ r = .d (.int (l.foldl Nat.lcm 1 : Nat))
abbrev f_common_multiple : FI := fnT 1 g_common_multiple
theorem r_common_multiple : Reads f_common_multiple 2 (w_common_multiple f_common_divisor) := reads_T fun ds r e Q X hq => by
  obtain ⟨l, rfl, hl, rfl⟩ := e
  simp [w_common_multiple]
  refine for_inv (fun ds σ => ∃ (m : List Nat) (a : Nat) (s : Sl), ds = m.map (fun (m : Nat) => .int (m : Nat)) ∧ (∀ k ∈ m, 1 ≤ k ∧ k ≤ 1000000) ∧ 1 ≤ a ∧ m.foldl Nat.lcm a = l.foldl Nat.lcm 1 ∧ freeSl (some s) ∧
    σ = [.val (.list (l.map fun (m : Nat) => .int (m : Nat))), .val (.int (a : Nat)), s]) ?_ ?_ _ _ ⟨l, 1, .un, rfl, hl, by omega, rfl, trivial, rfl⟩
  · rintro d ds σ ⟨m, a, s, e, hm, ha, hf, hs, rfl⟩ nx hnx
    rcases m with _ | ⟨k, m⟩
    · cases e
    simp only [List.map_cons, List.cons.injEq] at e
    obtain ⟨rfl, rfl⟩ := e
    have hk := hm k List.mem_cons_self
    have m1 : IntMulOk (a : Nat) (k : Nat) := mulOk_right (by omega) (by omega)
    have g1 : 1 ≤ Nat.gcd a k := Nat.gcd_pos_of_pos_left _ (by omega)
    have g2 : Nat.gcd a k ≤ k := Nat.gcd_le_right _ (by omega)
    have d1 : CDivA ((a : Int) * (k : Int)) ((Nat.gcd a k : Nat) : Int) := div_ok (by omega) (by omega)
    simp [hs, m1]
    refine ⟨_, ⟨a, k, rfl, rfl⟩, ?_⟩
    simp [d1]
    have e2 : ((a : Int) * (k : Int)).fdiv ((Nat.gcd a k : Nat) : Int) = ((Nat.lcm a k : Nat) : Int) := by
      have : ((a : Int) * (k : Int)) = ((a * k : Nat) : Int) := by simp
      rw [this, fdiv_nat]
      rfl
    rw [e2]
    exact hnx _ ⟨m, Nat.lcm a k, .val (.int (k : Nat)), rfl, fun j hj => hm j (List.mem_cons_of_mem _ hj), Nat.lcm_pos (by omega) (by omega), hf, trivial, rfl⟩
  · rintro σ ⟨m, a, s, e, hm, ha, hf, hs, rfl⟩
    have : m = [] := by
      cases m with
      | nil => rfl
      | cons u l => cases e
    subst this
    simp at hf
    subst hf
    simp
    exact hq
/-! ### divisors, period -/
def divOf : Tt → Option Nat
  | .div m _ _ => some m.toNat
  | _ => none
def divsN (t : Tt) : List Nat := t.leaves.filterMap divOf
def period (t : Tt) : Nat := (divsN t).foldl Nat.lcm 1
/-- leaves are leaves, of any letters -/
def lvOk (u : Tt) : Prop := match u with
  | .most _ _ => True
  | .div m _ _ => 1 ≤ m ∧ m ≤ 1000000
  | _ => False
def lvsOk (t : Tt) : Prop := ∀ u ∈ t.leaves, lvOk u
def g_divisors_in (ds : List D) (r : Rv) : Prop := ∃ t : Tt, ds = [t.enc] ∧ lvsOk t ∧ t.size ≤ 1000000 ∧ r = .f (.list ((divsN t).map fun (m : Nat) => .int (m : Nat)))
abbrev f_divisors_in : FI := fnT 1 g_divisors_in
def divD1 : D → Option D
  | .tuple [_, m, _, _] => some m
  | _ => none
theorem r_divisors_in : Reads f_divisors_in 1 (w_divisors_in f_leaves_of) := reads_T fun ds r e Q X hq => by
  obtain ⟨t, rfl, lo, hz, rfl⟩ := e
  have hls := t.leaves_size
  simp [w_divisors_in]
  refine ⟨_, ⟨t, rfl, hz, t.lay, rfl⟩, ?_⟩
  simp
  refine lc_filter divD1 _ (fun d hd A B a => ?_) (by rw [sl_eq, List.length_map]; omega) ?_
  · obtain ⟨u, hu, rfl⟩ := List.mem_map.mp hd
    have := lo u hu
    cases u with
    | most row k => simpa [Tt.enc, divD1] using a
    | div m row k => simpa [Tt.enc, divD1] using a
    | _ => exact this.elim
  · have e : ∀ l : List Tt, (∀ u ∈ l, lvOk u) → (l.map Tt.enc).filterMap divD1 = (l.filterMap divOf).map fun (m : Nat) => .int (m : Nat) := by
      intro l
      induction l with
      | nil => exact fun _ => rfl
      | cons u l ih =>
        intro h
        have h1 := h u List.mem_cons_self
        rw [List.map_cons, List.filterMap_cons, ih fun v hv => h v (List.mem_cons_of_mem _ hv), List.filterMap_cons]
        cases u with
        | most row k => rfl
        | div m row k =>
          have : ((m.toNat : Nat) : Int) = m := Int.toNat_of_nonneg (by have := h1.1; omega)
          simp [Tt.enc, divD1, divOf, this]
        | _ => exact h1.elim
    rw [e t.leaves lo]
    exact hq
def g_period_of (ds : List D) (r : Rv) : Prop := ∃ t : Tt, ds = [t.enc] ∧ lvsOk t ∧ t.size ≤ 1000000 ∧ r = .d (.int (period t : Nat))
abbrev f_period_of : FI := fnT 1 g_period_of
theorem divs_mem {t : Tt} (lo : lvsOk t) : ∀ m ∈ divsN t, 1 ≤ m ∧ m ≤ 1000000 := by
  intro m hm
  unfold divsN at hm
  obtain ⟨u, hu, e⟩ := List.mem_filterMap.mp hm
  have := lo u hu
  cases u with
  | div m row k =>
    cases e
    have h1 := this.1
    have h2 := this.2
    omega
  | _ => cases e
theorem r_period_of : Reads f_period_of 0 (w_period_of f_common_multiple f_divisors_in) := reads_T fun ds r e Q X hq => by
  obtain ⟨t, rfl, lo, hz, rfl⟩ := e
  simp [w_period_of]
  refine ⟨_, ⟨t, rfl, lo, hz, rfl⟩, ?_⟩
  simp
  exact ⟨_, ⟨divsN t, rfl, divs_mem lo, rfl⟩, hq⟩
/-! ### rows of leaves -/
def Tt.row : Tt → List Int
  | .most row _ => row
  | .div _ row _ => row
  | _ => []
def Tt.num : Tt → Int
  | .most _ k => k
  | .div _ _ k => k
  | _ => 0
def isLf : Tt → Prop
  | .most _ _ => True
  | .div _ _ _ => True
  | _ => False
def g_row_of (ds : List D) (r : Rv) : Prop := ∃ t : Tt, ds = [t.enc] ∧ isLf t ∧ r = .d (encI t.row)
abbrev f_row_of : FI := fnT 1 g_row_of
theorem r_row_of : Reads f_row_of 0 w_row_of := reads_T fun ds r e Q X hq => by
  obtain ⟨t, rfl, hl, rfl⟩ := e
  cases t with
  | most row k => simpa [w_row_of, Tt.enc, Tt.row] using hq
  | div m row k => simpa [w_row_of, Tt.enc, Tt.row] using hq
  | _ => exact hl.elim
/-! ### small leaves -/
def within (a : Int) (x : Int) : Bool := decide (-a ≤ x) && decide (x ≤ a)
def lastL (u : Tt) : Bool := within 20 u.num && match u with
  | .div m _ _ => decide (2 ≤ m) && decide (m ≤ 6)
  | _ => true
def smallL (u : Tt) : Bool := (u.row.take 1).all (within 3) && (u.row.tail.all (within 1) && lastL u)
def g_is_small_leaf (ds : List D) (r : Rv) : Prop := ∃ u : Tt, ds = [u.enc] ∧ isLf u ∧ u.row.length ≤ 100 ∧ r = .d (.bool (smallL u))
abbrev f_is_small_leaf : FI := fnT 1 g_is_small_leaf
theorem at_neg1 {l : List D} {x : D} : atI (l ++ [x]) (-1) = some x := by
  unfold atI ixN
  rw [if_neg (by omega), if_pos (by simp only [List.length_append, List.length_singleton]; omega)]
  have : ((-1 : Int) + ((l ++ [x]).length : Nat)).toNat = l.length := by
    simp only [List.length_append, List.length_singleton]
    omega
  simp only [this]
  simp
theorem neg1_3 {a b c : D} : atI [a, b, c] (-1) = some c := at_neg1 (l := [a, b])
theorem neg1_4 {a b c d : D} : atI [a, b, c, d] (-1) = some d := at_neg1 (l := [a, b, c])
def wiD (a : Int) : D → D
  | .int x => .bool (within a x)
  | d => d
theorem wiD_all (a : Int) (l : List Int) : bolsD ((l.map PyData.int).map (wiD a)) = some (l.map (within a)) := by
  rw [List.map_map]
  have := bolsD_map (l.map (within a))
  rw [List.map_map] at this
  exact this
theorem r_is_small_leaf : Reads f_is_small_leaf 2 (w_is_small_leaf f_row_of) := reads_T fun ds r e Q X hq => by
  obtain ⟨u, rfl, hl, hr, rfl⟩ := e
  have tail : ∀ (s : Sl) (Q' : Rv → SD → Prop), Q' (.d (.bool (lastL u))) [.val u.enc, .val (encI u.row), s] → (weAnd (w3 pLe pLe (.ex (w1 pNeg (.ex (wC (.int 20))))) (.ex (w2 pIx (.br 0) (.ex (w1 pNeg (.ex (wC (.int 1))))))) (.ex (wC (.int 20)))) (weOr (w2 pEq (.ex (w2 pIx (.br 0) (.ex (wC (.int 0))))) (.ex (wC (.str "most")))) (w3 pLe pLe (.ex (wC (.int 2))) (.ex (w2 pIx (.br 0) (.ex (wC (.int 1))))) (.ex (wC (.int 6))))))
      X [.val u.enc, .val (encI u.row), s] Q' := fun s Q' hq => by
    cases u with
    | most row k =>
      simp [Tt.enc, neg1_3]
      simp only [lastL, Tt.num, within] at hq
      by_cases h : (-20 : Int) ≤ k <;> by_cases h2 : k ≤ 20 <;> simpa [h, h2, Tt.enc] using hq
    | div m row k =>
      simp [Tt.enc, neg1_4]
      simp only [lastL, Tt.num, within] at hq
      by_cases h : (-20 : Int) ≤ k <;> by_cases h2 : k ≤ 20 <;> by_cases h3 : (2 : Int) ≤ m <;> simpa [h, h2, h3, Tt.enc] using hq
    | _ => exact hl.elim
  unfold w_is_small_leaf
  refine seq_k fun K hk => ?_
  simp
  refine ⟨_, ⟨u, rfl, hl, rfl⟩, ?_⟩
  simp
  refine hk _ ?_
  clear hk
  clear K
  refine seq_k fun K hk => ?_
  simp
  refine lc_map (wiD 3) _ (fun d hd A B a => ?_) (by rw [sl_eq]; simp; omega) ?_
  · rw [← List.map_take] at hd
    obtain ⟨x, hx, rfl⟩ := List.mem_map.mp hd
    simp [wiD, within] at a
    by_cases h : (-3 : Int) ≤ x <;> simpa [h] using a
  rw [← List.map_take]
  refine ⟨_, wiD_all 3 _, ?_⟩
  have all_id : ∀ (a : Int) (l : List Int), (l.map (within a)).all id = l.all (within a) := fun a l => by simp [List.all_map, Function.comp_def]
  rw [all_id]
  unfold smallL at hq
  generalize (u.row.take 1).all (within 3) = b1 at hq
  cases b1
  · simp
    simpa using hq
  simp
  refine lc_map (wiD 1) _ (fun d hd A B a => ?_) (by rw [sl_eq]; simp; omega) ?_
  · have hd : d ∈ (List.map PyData.int u.row).tail := by simpa using hd
    rw [← List.map_tail] at hd
    obtain ⟨x, hx, rfl⟩ := List.mem_map.mp hd
    simp [wiD, within] at a
    by_cases h : (-1 : Int) ≤ x <;> simpa [h] using a
  rw [← List.map_tail]
  refine ⟨_, wiD_all 1 _, ?_⟩
  rw [all_id]
  generalize u.row.tail.all (within 1) = b2 at hq
  cases b2
  · simp
    simpa using hq
  simp
  refine hk _ ?_
  clear hk
  clear K
  rw [s_seq, s_ret]
  refine tail _ _ ?_
  simpa using hq
/-! ### height -/
def g_height_of (k : Nat) (ds : List D) (r : Rv) : Prop := ∃ t : Tt, ds = [t.enc] ∧ t.deep ≤ k ∧ t.size ≤ 1000000 ∧ r = .d (.int (t.deep : Nat))
abbrev f_height_of (k : Nat) : FI := fnT 1 (g_height_of k)
theorem of_deep_mem : ∀ l : List Tt, (Tts.of l).deep = 0 ∨ ∃ u ∈ l, u.deep = (Tts.of l).deep
  | [] => .inl rfl
  | t :: l => by
    simp only [Tts.of, Tts.deep]
    rcases of_deep_mem l with h | ⟨u, hu, h⟩
    · right
      exact ⟨t, by simp, by omega⟩
    · right
      rcases Nat.le_total t.deep (Tts.of l).deep with q | q
      · exact ⟨u, by simp [hu], by omega⟩
      · exact ⟨t, by simp, by omega⟩
theorem maxL_deep (l : List Tt) : maxL (0 :: l.map fun (u : Tt) => ((u.deep : Nat) : Int)) = ((Tts.of l).deep : Nat) := by
  refine maxL_eq ?_ fun y hy => ?_
  · rcases of_deep_mem l with h | ⟨u, hu, h⟩
    · rw [h]
      simp
    · exact List.mem_cons_of_mem _ (List.mem_map.mpr ⟨u, hu, by rw [h]⟩)
  · rcases List.mem_cons.mp hy with rfl | hy
    · omega
    · obtain ⟨u, hu, rfl⟩ := List.mem_map.mp hy
      have : deepAll (Tts.of l).deep (Tts.of l).toList := Tts.deep_list (Nat.le_refl _)
      rw [Tts.of_list] at this
      have := this u hu
      omega
theorem Tts.of_toList : ∀ ts : Tts, Tts.of ts.toList = ts
  | .nil => rfl
  | .cons t ts => by simp [Tts.of, Tts.toList, Tts.of_toList ts]
theorem sizeAll_mem : ∀ {l : List Tt} {u : Tt}, u ∈ l → u.size ≤ sizeAll l
  | t :: l, u, h => by
    simp only [sizeAll]
    rcases List.mem_cons.mp h with rfl | h
    · omega
    · have := sizeAll_mem h
      omega
theorem r_height_of (k : Nat) : Reads (f_height_of (k + 1)) 2 (w_height_of (f_height_of k)) := reads_T fun ds r e Q X hq => by
  obtain ⟨t, rfl, dp, hz, rfl⟩ := e
  have loop : ∀ (l : List Tt) (s : Sl), (∀ u ∈ l, u.deep ≤ k ∧ u.size ≤ 1000000) → l.length ≤ 1000000 → ∀ P : Rv → SD → Prop, P (.d (.int (1 + (((Tts.of l).deep : Nat) : Int)))) [.val t.enc, .val (.tuple (l.map Tt.enc)), .un] →
      (w2 pAdd (.ex (wC (.int 1))) (.ex (wL pMax [.ex (w2 pAdd (.ex (wLst [.ex (wC (.int 0))])) (.ex (wLc (wiSeq (wN 1)) [2] (wgN 2) wtYes (wCall (f_height_of k) [.br 2]))))]))) X [.val t.enc, .val (.tuple (l.map Tt.enc)), .un] P := by
    intro l s hl hlen P hP
    simp
    refine lc_enc Tt.enc (fun u => .int ((u.deep : Nat) : Int)) l (fun u hu A B a => ?_) (by rw [sl_eq]; omega) ?_
    · simp
      exact ⟨_, ⟨u, rfl, (hl u hu).1, (hl u hu).2, rfl⟩, by simpa using a⟩
    · simp
      refine ⟨by omega, ?_⟩
      refine ⟨0 :: l.map (fun (u : Tt) => ((u.deep : Nat) : Int)), ?_, by simp, ?_⟩
      · have := intsD_map (0 :: l.map (fun (u : Tt) => ((u.deep : Nat) : Int)))
        simpa [Function.comp_def] using this
      · rw [maxL_deep]
        exact hP
  cases t with
  | most row c => simpa [w_height_of, Tt.enc, Tt.deep] using hq
  | div m row c => simpa [w_height_of, Tt.enc, Tt.deep] using hq
  | neg t =>
    simp only [Tt.size] at hz
    simp only [Tt.deep] at dp
    have := loop [t] .un (fun u hu => by rw [List.mem_singleton.mp hu]; exact ⟨by omega, by omega⟩) (by simp) (fun r _ => Q r) (by
      simp [Tts.of, Tts.deep]
      simp [Tt.deep] at hq
      rw [Int.add_comm]
      exact hq)
    unfold w_height_of
    refine seq_k fun K hk => ?_
    simp [Tt.enc]
    refine hk _ ?_
    refine seq_k fun K hk => ?_
    simp [Tt.enc]
    refine hk _ ?_
    rw [s_seq, s_ret]
    simpa [Tt.enc] using this
  | all ts =>
    simp only [Tt.size, Tts.size_list] at hz
    simp only [Tt.deep] at dp
    have hlen := len_size ts.toList
    have := loop ts.toList .un (fun u hu => ⟨Tts.deep_list (by omega) u hu, by have := sizeAll_mem hu; omega⟩) (by omega) (fun r _ => Q r) (by
      rw [Tts.of_toList]
      simp [Tt.deep] at hq
      rw [Int.add_comm]
      exact hq)
    unfold w_height_of
    refine seq_k fun K hk => ?_
    simp [Tt.enc]
    refine hk _ ?_
    refine seq_k fun K hk => ?_
    simp [Tt.enc]
    refine hk _ ?_
    rw [s_seq, s_ret]
    simpa [Tt.enc, Tts.enc_list] using this
  | any ts =>
    simp only [Tt.size, Tts.size_list] at hz
    simp only [Tt.deep] at dp
    have hlen := len_size ts.toList
    have := loop ts.toList .un (fun u hu => ⟨Tts.deep_list (by omega) u hu, by have := sizeAll_mem hu; omega⟩) (by omega) (fun r _ => Q r) (by
      rw [Tts.of_toList]
      simp [Tt.deep] at hq
      rw [Int.add_comm]
      exact hq)
    unfold w_height_of
    refine seq_k fun K hk => ?_
    simp [Tt.enc]
    refine hk _ ?_
    refine seq_k fun K hk => ?_
    simp [Tt.enc]
    refine hk _ ?_
    rw [s_seq, s_ret]
    simpa [Tt.enc, Tts.enc_list] using this
end DL
end L2
set_option Elab.async false
set_option maxRecDepth 100000
set_option maxHeartbeats 1000000
/-! What a formula is. -/
namespace L2
open PySem PySem.Spec PyProof.Rows
namespace DL
/-- a formula: free letters, told ones (true: all), a test -/
structure Fo where
  free : Nat
  told : List Bool
  t : Tt
def wordD (b : Bool) : D := .str (if b then "all" else "some")
def Fo.enc (F : Fo) : D := .tuple [.int (F.free : Nat), .tuple (F.told.map wordD), F.t.enc]
def Fo.letters (F : Fo) : Nat := F.free + F.told.length
structure Fo.ok (F : Fo) : Prop where
  told : F.told.length ≤ 2
  letters : F.letters ≤ 3
  t : F.t.ok F.letters
  size : F.t.size ≤ 4000
  deep : F.t.deep ≤ 6
  many : F.t.leaves.length ≤ 6
  small : ∀ u ∈ F.t.leaves, smallL u = true
  per : period F.t ≤ 6
open Classical in
noncomputable def foFits (v : D) : Bool := decide (∃ F : Fo, v = F.enc ∧ F.ok)
open Classical in
theorem fo_yes {F : Fo} (h : F.ok) : foFits F.enc = true := by
  unfold foFits
  exact decide_eq_true ⟨F, rfl, h⟩
open Classical in
theorem fo_no {v : D} (h : ∀ F : Fo, v = F.enc → F.ok → False) : foFits v = false := by
  unfold foFits
  exact decide_eq_false fun ⟨F, e, o⟩ => h F e o
open Classical in
theorem fo_dec {v : D} (h : foFits v = true) : ∃ F : Fo, v = F.enc ∧ F.ok := by
  unfold foFits at h
  exact of_decide_eq_true h
def g_fits_formula (ds : List D) (r : Rv) : Prop := ∃ v, ds = [v] ∧ v.canLay0 = true ∧ r = .d (.bool (foFits v))
abbrev f_fits_formula : FI := fnT 1 g_fits_formula
def isTell : D → Bool
  | .str s => decide (s = "some") || decide (s = "all")
  | _ => false
theorem tells_dec : ∀ {l : List D}, l.all isTell = true → ∃ bs : List Bool, l = bs.map wordD
  | [], _ => ⟨[], rfl⟩
  | d :: l, h => by
    rw [List.all_cons, Bool.and_eq_true] at h
    obtain ⟨bs, rfl⟩ := tells_dec h.2
    cases d with
    | str s =>
      have h1 := h.1
      simp only [isTell, Bool.or_eq_true, decide_eq_true_eq] at h1
      rcases h1 with rfl | rfl
      · exact ⟨false :: bs, rfl⟩
      · exact ⟨true :: bs, rfl⟩
    | _ => cases h.1
theorem tells_all : ∀ bs : List Bool, (bs.map wordD).all isTell = true
  | [] => rfl
  | b :: bs => by
    rw [List.map_cons, List.all_cons, tells_all bs]
    cases b <;> decide +kernel
@[simp] theorem lay_some : (PyData.str "some").canLay0 = true := by decide +kernel
@[simp] theorem lay_alls : (PyData.str "all").canLay0 = true := by decide +kernel
theorem lvsOk_of {n : Nat} {t : Tt} (ok : t.ok n) : lvsOk t := fun u hu => by
  have := (Tt.leaves_ok ok u hu).1
  cases u with
  | most row k => trivial
  | div m row k => exact this.1
  | _ => exact this.elim
theorem encI_inj {a b : List Int} (h : encI a = encI b) : a = b := ints_inj (by simpa [encI] using h)
mutual
theorem Tt.enc_inj : ∀ t u : Tt, t.enc = u.enc → t = u
  | .most r k, u, h => by
    cases u with
    | most r2 k2 =>
      simp [Tt.enc] at h
      rw [ints_inj h.1, h.2]
    | _ => simp [Tt.enc] at h
  | .div m r k, u, h => by
    cases u with
    | div m2 r2 k2 =>
      simp [Tt.enc] at h
      rw [ints_inj h.2.1, h.1, h.2.2]
    | _ => simp [Tt.enc] at h
  | .neg t, u, h => by
    cases u with
    | neg t2 =>
      simp [Tt.enc] at h
      rw [Tt.enc_inj t t2 h]
    | _ => simp [Tt.enc] at h
  | .all ts, u, h => by
    cases u with
    | all t2 =>
      simp [Tt.enc] at h
      rw [Tts.enc_inj ts t2 h]
    | _ => simp [Tt.enc] at h
  | .any ts, u, h => by
    cases u with
    | any t2 =>
      simp [Tt.enc] at h
      rw [Tts.enc_inj ts t2 h]
    | _ => simp [Tt.enc] at h
theorem Tts.enc_inj : ∀ t u : Tts, t.enc = u.enc → t = u
  | .nil, u, h => by
    cases u with
    | nil => rfl
    | cons t ts => simp [Tts.enc] at h
  | .cons t ts, u, h => by
    cases u with
    | nil => simp [Tts.enc] at h
    | cons t2 ts2 =>
      simp [Tts.enc] at h
      rw [Tt.enc_inj t t2 h.1, Tts.enc_inj ts ts2 h.2]
end
theorem r_fits_formula : Reads f_fits_formula 4 (w_fits_formula f_is_tuple_of f_is_whole f_fits_test (f_height_of 12) f_leaves_of f_period_of f_is_small_leaf) := reads_T fun ds r e Q X hq => by
  obtain ⟨v, rfl, lay, rfl⟩ := e
  have no : (∀ F : Fo, v = F.enc → F.ok → False) → Q (.d (.bool false)) := fun h => by rwa [fo_no h] at hq
  unfold w_fits_formula
  refine seq_k fun K hk => ?_
  simp
  have sh : tupLen v 3 3 = false ∨ ∃ a b c, v = .tuple [a, b, c] := by
    cases v with
    | tuple l =>
      rcases l with _ | ⟨a, _ | ⟨b, _ | ⟨c, _ | ⟨d, l⟩⟩⟩⟩
      · exact .inl (by simp [tupLen])
      · exact .inl (by simp [tupLen])
      · exact .inl (by simp [tupLen])
      · exact .inr ⟨a, b, c, rfl⟩
      · refine .inl ?_
        simp [tupLen]
        omega
    | _ => exact .inl rfl
  rcases sh with sh | ⟨a, b, c, rfl⟩
  · simp [sh]
    refine no fun F e _ => ?_
    rw [e] at sh
    simp [Fo.enc, tupLen] at sh
  have t3 : tupLen (.tuple [a, b, c]) 3 3 = true := by simp [tupLen]
  simp [t3]
  cases q1 : isWh a 0 3
  · simp
    refine no fun F e o => ?_
    simp [Fo.enc] at e
    obtain ⟨rfl, _, _⟩ := e
    have := o.letters
    simp [isWh] at q1
    unfold Fo.letters at this
    omega
  obtain ⟨f, rfl, f0, f3⟩ := isWh_dec q1
  obtain ⟨f, rfl⟩ : ∃ n : Nat, f = (n : Nat) := ⟨f.toNat, by omega⟩
  simp
  cases q2 : tupLen b 0 2
  · simp
    refine no fun F e o => ?_
    simp [Fo.enc] at e
    obtain ⟨_, rfl, _⟩ := e
    have := o.told
    simp [tupLen] at q2
    omega
  have hb : ∃ ws : List D, b = .tuple ws ∧ ws.length ≤ 2 := by
    cases b with
    | tuple ws =>
      simp [tupLen] at q2
      exact ⟨ws, rfl, by omega⟩
    | _ => simp [tupLen] at q2
  obtain ⟨ws, rfl, ws2⟩ := hb
  simp
  refine hk _ ?_
  clear hk
  clear K
  refine seq_k fun K hk => ?_
  simp
  refine hk _ ?_
  clear hk
  clear K
  refine seq_k fun K hk => ?_
  simp
  by_cases l3 : (3 : Int) < (f : Int) + ws.length
  · simp [l3]
    refine no fun F e o => ?_
    simp [Fo.enc] at e
    obtain ⟨e1, rfl, _⟩ := e
    have := o.letters
    unfold Fo.letters at this
    rw [List.length_map] at l3
    omega
  simp [l3]
  refine lc_map (fun d => .bool (isTell d)) ws (fun d hd A B a => ?_) (by rw [sl_eq]; omega) ?_
  · cases d with
    | str s => simpa [tyD, isiB, isTell] using a
    | _ => simpa [tyD, isiB, isTell] using a
  refine ⟨_, bolsD_all ws _, ?_⟩
  have tell_id : (ws.map isTell).all id = ws.all isTell := by simp [List.all_map, Function.comp_def]
  rw [tell_id]
  cases wt : ws.all isTell
  · simp
    refine no fun F e o => ?_
    simp [Fo.enc] at e
    obtain ⟨_, rfl, _⟩ := e
    rw [tells_all] at wt
    cases wt
  obtain ⟨bs, rfl⟩ := tells_dec wt
  simp
  refine hk _ ?_
  clear hk
  clear K
  rw [List.length_map] at l3 ws2
  have n3 : ((f + bs.length : Nat) : Int) ≤ 3 := by omega
  have layc : c.canLay0 = true := by
    simp [PyData.canLay0, PyData.canLayAll0] at lay
    exact lay.2
  have dec : ∀ F : Fo, PyData.tuple [.int (f : Nat), .tuple (bs.map wordD), c] = F.enc → F.letters = f + bs.length ∧ c = F.t.enc := fun F e => by
    simp [Fo.enc] at e
    obtain ⟨e1, e2, e3⟩ := e
    have := congrArg List.length e2
    simp at this
    exact ⟨by unfold Fo.letters; omega, e3⟩
  refine seq_k fun K hk => ?_
  simp [g_fits_test]
  have n3' : (f : Int) + (bs.length : Nat) ≤ 3 := by omega
  refine ⟨_, ⟨⟨n3', layc⟩, rfl⟩, ?_⟩
  have ec : (f : Int) + (bs.length : Nat) = ((f + bs.length : Nat) : Int) := by simp
  rw [ec]
  cases ft : testFits ((f + bs.length : Nat) : Int) c
  · simp
    refine no fun F e o => ?_
    obtain ⟨e1, rfl⟩ := dec F e
    have := fits_ok o.t (by have := o.deep; omega) o.size
    rw [e1, ft] at this
    cases this
  obtain ⟨t, rfl, tok, td, tz⟩ := fits_dec ft
  have same : ∀ F : Fo, PyData.tuple [.int (f : Nat), .tuple (bs.map wordD), t.enc] = F.enc → F.t = t := fun F e => (Tt.enc_inj _ _ (dec F e).2).symm
  have lvs := lvsOk_of tok
  simp
  refine ⟨_, ⟨t, rfl, td, by omega, rfl⟩, ?_⟩
  simp
  by_cases d6 : (6 : Int) < (t.deep : Nat)
  · simp [d6]
    refine no fun F e o => ?_
    have := o.deep
    rw [same F e] at this
    omega
  simp [d6]
  refine hk _ ?_
  clear hk
  clear K
  refine seq_k fun K hk => ?_
  simp
  refine ⟨_, ⟨t, rfl, by omega, t.lay, rfl⟩, ?_⟩
  simp
  refine hk _ ?_
  clear hk
  clear K
  refine seq_k fun K hk => ?_
  simp
  by_cases l6 : (6 : Int) < (t.leaves.length : Nat)
  · simp [l6]
    refine no fun F e o => ?_
    have := o.many
    rw [same F e] at this
    omega
  simp [l6]
  refine lc_enc Tt.enc (fun u => .bool (smallL u)) t.leaves (fun u hu A B a => ?_) (by rw [sl_eq]; omega) ?_
  · simp
    have lo := (Tt.leaves_ok tok u hu).1
    refine ⟨_, ⟨u, rfl, ?_, ?_, rfl⟩, a⟩
    · cases u with
      | most row k => trivial
      | div m row k => trivial
      | _ => exact lo.elim
    · cases u with
      | most row k =>
        simp only [leafOk] at lo
        simp only [Tt.row]
        omega
      | div m row k =>
        simp only [leafOk] at lo
        simp only [Tt.row]
        omega
      | _ => exact lo.elim
  have sm : bolsD (t.leaves.map fun u => .bool (smallL u)) = some (t.leaves.map smallL) := by
    have := bolsD_map (t.leaves.map smallL)
    rw [List.map_map] at this
    exact this
  refine ⟨_, sm, ?_⟩
  have sm_id : (t.leaves.map smallL).all id = t.leaves.all smallL := by simp [List.all_map, Function.comp_def]
  rw [sm_id]
  cases q3 : t.leaves.all smallL
  · simp
    refine no fun F e o => ?_
    have := o.small
    rw [same F e] at this
    rw [List.all_eq_true.mpr this] at q3
    cases q3
  simp
  refine hk _ ?_
  clear hk
  clear K
  simp
  refine ⟨_, ⟨t, rfl, lvs, by omega, rfl⟩, ?_⟩
  simp
  by_cases p6 : period t ≤ 6
  · have ok : Fo.ok ⟨f, bs, t⟩ := ⟨by dsimp only; omega, by unfold Fo.letters; dsimp only; omega, tok, tz, by dsimp only; omega, by dsimp only; omega, fun u hu => List.all_eq_true.mp q3 u hu, p6⟩
    have := fo_yes ok
    have e : (Fo.enc ⟨f, bs, t⟩) = PyData.tuple [.int (f : Nat), .tuple (bs.map wordD), t.enc] := rfl
    rw [e] at this
    rw [this] at hq
    have : ((period t : Nat) : Int) ≤ 6 := by omega
    simpa [p6, this] using hq
  · have : ¬ ((period t : Nat) : Int) ≤ 6 := by omega
    have q := no fun F e o => by
      have := o.per
      rw [same F e] at this
      exact p6 this
    simpa [this] using q
end DL
end L2
set_option Elab.async false
set_option maxRecDepth 100000
set_option maxHeartbeats 1000000
/-! Lines, bounds, leads. -/
namespace L2
open PySem PySem.Spec PyProof.Rows
namespace DL
abbrev Ln := Int × Int × Int
def lineD (l : Ln) : D := .tuple [.tuple [.int l.1, .int l.2.1], .int l.2.2]
abbrev Lw := Nat × Int × Int
def lwD (q : Lw) : D := .tuple [.int (q.1 : Nat), .int q.2.1, .int q.2.2]
abbrev Bo := List Nat × Int × Int
def boD (q : Bo) : D := .tuple [.tuple (q.1.map fun (n : Nat) => .int (n : Nat)), .int q.2.1, .int q.2.2]
theorem enum_zip {γ : Type} (f : γ → D) : ∀ (l : List γ) (n : Nat), enumD n (l.map f) = (l.zipIdx n).map fun p => .tuple [.int (p.2 : Nat), f p.1]
  | [], n => rfl
  | x :: l, n => by
    rw [List.map_cons, List.zipIdx_cons, List.map_cons, ← enum_zip f l (n + 1)]
    rfl
/-! ### lines_with -/
def lw (ls : List Ln) (o : Int) : List Lw := ls.zipIdx.filterMap fun p => if p.1.2.1 = o then some (p.2, p.1.1, p.1.2.2) else none
theorem lw_len (ls : List Ln) (o : Int) : (lw ls o).length ≤ ls.length := by
  have := List.length_filterMap_le (fun p : Ln × Nat => if p.1.2.1 = o then some ((p.2, p.1.1, p.1.2.2) : Lw) else none) ls.zipIdx
  rw [List.length_zipIdx] at this
  exact this
theorem lw_mem {ls : List Ln} {o : Int} {q : Lw} (h : q ∈ lw ls o) : (q.2.1, o, q.2.2) ∈ ls := by
  unfold lw at h
  obtain ⟨p, hp, e⟩ := List.mem_filterMap.mp h
  split at e
  · rename_i h0
    cases e
    have := List.fst_mem_of_mem_zipIdx hp
    rw [← h0]
    exact this
  · cases e
theorem lw_mem' {ls : List Ln} {a o c : Int} (h : (a, o, c) ∈ ls) : ∃ k, (k, a, c) ∈ lw ls o := by
  obtain ⟨i, hi, e⟩ := List.mem_iff_getElem.mp h
  refine ⟨i, List.mem_filterMap.mpr ⟨((a, o, c), i), ?_, by simp⟩⟩
  rw [List.mem_iff_getElem]
  exact ⟨i, by rw [List.length_zipIdx]; exact hi, by rw [List.getElem_zipIdx]; simp [e]⟩
def g_lines_with (ds : List D) (r : Rv) : Prop := ∃ (ls : List Ln) (o : Int), ds = [.list (ls.map lineD), .int o] ∧ ls.length ≤ 1000000 ∧ r = .f (.list ((lw ls o).map lwD))
abbrev f_lines_with : FI := fnT 2 g_lines_with
theorem r_lines_with : Reads f_lines_with 3 w_lines_with := reads_T fun ds r e Q X hq => by
  obtain ⟨ls, o, rfl, hl, rfl⟩ := e
  simp [w_lines_with]
  rw [enum_zip]
  refine lc_encF (fun p : Ln × Nat => .tuple [.int (p.2 : Nat), lineD p.1]) (fun p => if p.1.2.1 = o then some (lwD (p.2, p.1.1, p.1.2.2)) else none) _ (fun p hp A B a => ?_) (by rw [sl_eq, List.length_zipIdx]; omega) ?_
  · obtain ⟨⟨x, y, z⟩, k⟩ := p
    simp [lineD]
    by_cases h : y = o
    · simp [h] at a ⊢
      simpa [lwD] using a
    · simp [h] at a ⊢
      simpa [lineD] using a
  · have e : (ls.zipIdx.filterMap fun p : Ln × Nat => if p.1.2.1 = o then some (lwD (p.2, p.1.1, p.1.2.2)) else none) = (lw ls o).map lwD := by
      unfold lw
      rw [List.map_filterMap]
      congr 1
      funext p
      split <;> rfl
    rw [e]
    exact hq
/-! ### bounds_in -/
def bnds (ls : List Ln) : List Bo := (lw ls 0).map (fun q => ([q.1], q.2.1, q.2.2)) ++ (lw ls 1).flatMap fun u => (lw ls (-1)).map fun d => ([u.1, d.1], u.2.1 + d.2.1, u.2.2 + d.2.2)
def g_bounds_in (ds : List D) (r : Rv) : Prop := ∃ ls : List Ln, ds = [.list (ls.map lineD)] ∧ ls.length ≤ 1000 ∧ r = .f (.list ((bnds ls).map boD))
abbrev f_bounds_in : FI := fnT 1 g_bounds_in
theorem r_bounds_in : Reads f_bounds_in 6 (w_bounds_in f_lines_with) := reads_T fun ds r e Q X hq => by
  obtain ⟨ls, rfl, hl, rfl⟩ := e
  have l0 := lw_len ls 0
  have l1 := lw_len ls 1
  have l2 := lw_len ls (-1)
  unfold w_bounds_in
  refine seq_k fun K hk => ?_
  simp
  refine ⟨_, ⟨ls, 0, rfl, by omega, rfl⟩, ?_⟩
  simp
  refine lc_enc lwD (fun q => boD ([q.1], q.2.1, q.2.2)) _ (fun q hq A B a => ?_) (by rw [sl_eq]; omega) ?_
  · obtain ⟨k, x, y⟩ := q
    simpa [lwD, boD] using a
  simp
  refine hk _ ?_
  clear hk
  clear K
  refine seq_k fun K hk => ?_
  simp
  refine ⟨_, ⟨ls, 1, rfl, by omega, rfl⟩, ?_⟩
  simp
  refine for_inv (fun ds σ => ∃ (l : List Lw) (acc : List Bo) (s2 : Sl), ds = l.map lwD ∧ freeSl (some s2) ∧ acc.length + 1000 * l.length ≤ 1001000 ∧ (acc ++ l.flatMap fun u => (lw ls (-1)).map fun d => ([u.1, d.1], u.2.1 + d.2.1, u.2.2 + d.2.2)) = bnds ls ∧
    σ = [.val (.list (ls.map lineD)), .own (.list (acc.map boD)), s2, .un, .un, .un, .un]) ?_ ?_ _ _ ⟨lw ls 1, (lw ls 0).map (fun q => ([q.1], q.2.1, q.2.2)), .un, rfl, trivial, by rw [List.length_map]; omega, rfl, by rw [List.map_map]; rfl⟩
  · rintro d ds σ ⟨l, acc, s2, e, h2, hlen, hb, rfl⟩ nx hnx
    rcases l with _ | ⟨⟨k, x, y⟩, l⟩
    · cases e
    simp only [List.map_cons, List.cons.injEq] at e
    obtain ⟨rfl, rfl⟩ := e
    rw [List.length_cons] at hlen
    simp [h2]
    refine ⟨_, ⟨ls, -1, rfl, by omega, rfl⟩, ?_⟩
    simp
    refine lc_enc lwD (fun d => boD ([k, d.1], x + d.2.1, y + d.2.2)) _ (fun q hq A B a => ?_) (by rw [sl_eq]; omega) ?_
    · obtain ⟨k2, x2, y2⟩ := q
      simp [lwD] at a ⊢
      simpa [boD] using a
    · simp
      refine ⟨by omega, ?_⟩
      have := hnx _ ⟨l, acc ++ (lw ls (-1)).map (fun d => ([k, d.1], x + d.2.1, y + d.2.2)), .val (lwD (k, x, y)), rfl, trivial, by rw [List.length_append, List.length_map]; omega, by rw [← hb]; simp, rfl⟩
      simpa [Function.comp_def] using this
  · rintro σ ⟨l, acc, s2, e, h2, hlen, hb, rfl⟩
    have : l = [] := by
      cases l with
      | nil => rfl
      | cons u l => cases e
    subst this
    simp at hb
    subst hb
    refine hk _ ?_
    simp
    exact hq
/-! ### highest_lead, lowest_lead -/
def highs (bs : List Bo) : List Int := bs.filterMap fun q => if 0 < q.2.1 then some (q.2.2.fdiv q.2.1) else none
def lows (bs : List Bo) : List Int := bs.filterMap fun q => if q.2.1 < 0 then some (-(q.2.2.fdiv (-q.2.1))) else none
def highest (bs : List Bo) : Option Int := match highs bs with
  | [] => none
  | x :: r => some (minL (x :: r))
def lowest (bs : List Bo) : Option Int := match lows bs with
  | [] => none
  | x :: r => some (maxL (x :: r))
/-- bounds of the size that is meant -/
def boOk (bs : List Bo) : Prop := bs.length ≤ 1000000 ∧ ∀ q ∈ bs, q.2.1.natAbs < 2 ^ 60 ∧ q.2.2.natAbs < 2 ^ 60
def g_highest_lead (ds : List D) (r : Rv) : Prop := ∃ bs : List Bo, ds = [.list (bs.map boD)] ∧ boOk bs ∧ r = .d (encO (highest bs))
def g_lowest_lead (ds : List D) (r : Rv) : Prop := ∃ bs : List Bo, ds = [.list (bs.map boD)] ∧ boOk bs ∧ r = .d (encO (lowest bs))
abbrev f_highest_lead : FI := fnT 1 g_highest_lead
abbrev f_lowest_lead : FI := fnT 1 g_lowest_lead
theorem lay_il (l : List Int) : (PyData.list (l.map .int)).canLay0 = true := by simp [PyData.canLay0, lay_ints]
theorem r_highest_lead : Reads f_highest_lead 4 w_highest_lead := reads_T fun ds r e Q X hq => by
  obtain ⟨bs, rfl, ⟨hl, hb⟩, rfl⟩ := e
  unfold w_highest_lead
  refine seq_k fun K hk => ?_
  simp
  refine lc_encF boD (fun q => if 0 < q.2.1 then some (.int (q.2.2.fdiv q.2.1)) else none) _ (fun q hq A B a => ?_) (by rw [sl_eq]; omega) ?_
  · obtain ⟨ps, s, t⟩ := q
    obtain ⟨h1, h2⟩ := hb _ hq
    dsimp only at h1 h2
    simp [boD]
    by_cases h : 0 < s
    · have := div_ok (i := t) (j := s) (by omega) (by omega)
      simp [h] at a ⊢
      simpa [this, boD] using a
    · simp [h] at a ⊢
      simpa [boD] using a
  have e : (bs.filterMap fun q : Bo => if 0 < q.2.1 then some (PyData.int (q.2.2.fdiv q.2.1)) else none) = (highs bs).map .int := by
    unfold highs
    rw [List.map_filterMap]
    congr 1
    funext p
    split <;> rfl
  rw [e]
  simp
  refine hk _ ?_
  clear hk
  clear K
  unfold highest at hq
  have lay := lay_il (highs bs)
  cases h : highs bs with
  | nil =>
    rw [h] at hq
    simp [PyData.canLay0, PyData.canLayAll0]
    exact hq
  | cons x l =>
    rw [h] at hq lay
    simp at lay
    simp [lay]
    exact ⟨x :: l, by simpa using intsD_map (x :: l), by simp, hq⟩
theorem r_lowest_lead : Reads f_lowest_lead 4 w_lowest_lead := reads_T fun ds r e Q X hq => by
  obtain ⟨bs, rfl, ⟨hl, hb⟩, rfl⟩ := e
  unfold w_lowest_lead
  refine seq_k fun K hk => ?_
  simp
  refine lc_encF boD (fun q => if q.2.1 < 0 then some (.int (-(q.2.2.fdiv (-q.2.1)))) else none) _ (fun q hq A B a => ?_) (by rw [sl_eq]; omega) ?_
  · obtain ⟨ps, s, t⟩ := q
    obtain ⟨h1, h2⟩ := hb _ hq
    dsimp only at h1 h2
    simp [boD]
    by_cases h : s < 0
    · have := div_ok (i := t) (j := -s) (by omega) (by omega)
      simp [h] at a ⊢
      simpa [this, boD] using a
    · simp [h] at a ⊢
      simpa [boD] using a
  have e : (bs.filterMap fun q : Bo => if q.2.1 < 0 then some (PyData.int (-(q.2.2.fdiv (-q.2.1)))) else none) = (lows bs).map .int := by
    unfold lows
    rw [List.map_filterMap]
    congr 1
    funext p
    split <;> rfl
  rw [e]
  simp
  refine hk _ ?_
  clear hk
  clear K
  unfold lowest at hq
  have lay := lay_il (lows bs)
  cases h : lows bs with
  | nil =>
    rw [h] at hq
    simp [PyData.canLay0, PyData.canLayAll0]
    exact hq
  | cons x l =>
    rw [h] at hq lay
    simp at lay
    simp [lay]
    exact ⟨x :: l, by simpa using intsD_map (x :: l), by simp, hq⟩
/-! ### has_points -/
def leO : Option Int → Option Int → Bool
  | some a, some b => decide (a ≤ b)
  | _, _ => true
def hasPts (bs : List Bo) : Bool := !(bs.any fun q => decide (q.2.1 = 0) && decide (q.2.2 < 0)) && leO (lowest bs) (highest bs)
def g_has_points (ds : List D) (r : Rv) : Prop := ∃ bs : List Bo, ds = [.list (bs.map boD)] ∧ boOk bs ∧ r = .d (.bool (hasPts bs))
abbrev f_has_points : FI := fnT 1 g_has_points
theorem r_has_points : Reads f_has_points 5 (w_has_points f_lowest_lead f_highest_lead) := reads_T fun ds r e Q X hq => by
  obtain ⟨bs, rfl, ok, rfl⟩ := e
  obtain ⟨hl, hb⟩ := id ok
  unfold w_has_points
  refine seq_k fun K hk => ?_
  simp
  refine lc_enc boD (fun q => .bool (decide (q.2.1 = 0) && decide (q.2.2 < 0))) _ (fun q hq A B a => ?_) (by rw [sl_eq]; omega) ?_
  · obtain ⟨ps, s, t⟩ := q
    simp [boD]
    by_cases h : s = 0
    · simp [h] at a ⊢
      simpa [boD] using a
    · simp [h] at a ⊢
      simpa [boD] using a
  refine ⟨bs.map fun q => decide (q.2.1 = 0) && decide (q.2.2 < 0), ?_, ?_⟩
  · have := bolsD_map (bs.map fun q => decide (q.2.1 = 0) && decide (q.2.2 < 0))
    rw [List.map_map] at this
    exact this
  have e : (bs.map fun q : Bo => decide (q.2.1 = 0) && decide (q.2.2 < 0)).any id = bs.any fun q => decide (q.2.1 = 0) && decide (q.2.2 < 0) := by simp [List.any_map, Function.comp_def]
  rw [e]
  unfold hasPts at hq
  generalize (bs.any fun q => decide (q.2.1 = 0) && decide (q.2.2 < 0)) = b1 at hq
  cases b1
  · simp
    refine hk _ ?_
    clear hk
    clear K
    simp
    refine ⟨_, ⟨bs, rfl, ok, rfl⟩, ?_⟩
    simp
    refine ⟨_, ⟨bs, rfl, ok, rfl⟩, ?_⟩
    simp at hq
    cases h1 : lowest bs with
    | none => rw [h1] at hq; simpa [leO] using hq
    | some l =>
      rw [h1] at hq
      cases h2 : highest bs with
      | none => rw [h2] at hq; simpa [leO] using hq
      | some h => rw [h2] at hq; simpa [leO] using hq
  · simp
    simpa using hq
/-! ### top_at -/
def topAt (sm : List Lw) (x : Int) : Int := minL (sm.map fun q => q.2.2 - q.2.1 * x)
/-- lines of the size that is meant -/
def lwOk (sm : List Lw) : Prop := sm.length ≤ 1000000 ∧ ∀ q ∈ sm, q.2.1.natAbs < 2 ^ 60
def g_top_at (ds : List D) (r : Rv) : Prop := ∃ (sm : List Lw) (x : Int), ds = [.list (sm.map lwD), .int x] ∧ sm ≠ [] ∧ lwOk sm ∧ r = .d (.int (topAt sm x))
abbrev f_top_at : FI := fnT 2 g_top_at
theorem r_top_at : Reads f_top_at 3 w_top_at := reads_T fun ds r e Q X hq => by
  obtain ⟨sm, x, rfl, ne, ⟨hl, hb⟩, rfl⟩ := e
  simp [w_top_at]
  refine lc_enc lwD (fun q => .int (q.2.2 - q.2.1 * x)) _ (fun q hq A B a => ?_) (by rw [sl_eq]; omega) ?_
  · obtain ⟨k, u, v⟩ := q
    have h1 := hb _ hq
    dsimp only at h1
    have : IntMulOk u x := mulOk_left (by omega) (by omega)
    simp [lwD] at a ⊢
    simpa [this] using a
  · refine ⟨sm.map (fun q : Lw => q.2.2 - q.2.1 * x), ?_, by simpa using ne, hq⟩
    have := intsD_map (sm.map fun q : Lw => q.2.2 - q.2.1 * x)
    rw [List.map_map] at this
    exact this
/-! ### leads_of -/
def leads (bs : List Bo) : List Int := rangeI ((lowest bs).getD (-60)) (((highest bs).getD 60) + 1 - (lowest bs).getD (-60)).toNat
def smO : Option Int → Prop
  | none => True
  | some x => -1000000 ≤ x ∧ x ≤ 1000000
def g_leads_of (ds : List D) (r : Rv) : Prop := ∃ bs : List Bo, ds = [.list (bs.map boD)] ∧ boOk bs ∧ smO (lowest bs) ∧ smO (highest bs) ∧ r = .f (.list ((leads bs).map .int))
abbrev f_leads_of : FI := fnT 1 g_leads_of
theorem r_leads_of : Reads f_leads_of 2 (w_leads_of f_lowest_lead f_highest_lead) := reads_T fun ds r e Q X hq => by
  obtain ⟨bs, rfl, ok, sl, sh, rfl⟩ := e
  unfold w_leads_of
  refine seq_k fun K hk => ?_
  simp
  refine ⟨_, ⟨bs, rfl, ok, rfl⟩, ?_⟩
  simp
  refine ⟨_, ⟨bs, rfl, ok, rfl⟩, ?_⟩
  simp
  refine hk _ ?_
  clear hk
  clear K
  have fin : ∀ a b : Int, a = (lowest bs).getD (-60) → b = (highest bs).getD 60 → RgOk a (b + 1) ∧ Q (.f (.list (rangeD a (b + 1 - a).toNat))) := fun a b e1 e2 => by
    constructor
    · have ha : -1000000 ≤ a ∧ a ≤ 1000000 := by
        rw [e1]
        cases h : lowest bs with
        | none => simp
        | some l => rw [h] at sl; exact sl
      have hb : -1000000 ≤ b ∧ b ≤ 1000000 := by
        rw [e2]
        cases h : highest bs with
        | none => simp
        | some l => rw [h] at sh; exact sh
      exact ⟨by omega, by omega, by omega, by omega, by omega⟩
    · rw [rangeD_I, e1, e2]
      exact hq
  cases h1 : lowest bs with
  | none =>
    cases h2 : highest bs with
    | none =>
      have := fin (-60) 60 (by rw [h1]; rfl) (by rw [h2]; rfl)
      simp
      exact this
    | some h =>
      have := fin (-60) h (by rw [h1]; rfl) (by rw [h2]; rfl)
      simp at this ⊢
      exact this
  | some l =>
    cases h2 : highest bs with
    | none =>
      have := fin l 60 (by rw [h1]; rfl) (by rw [h2]; rfl)
      simp
      exact this
    | some h =>
      have := fin l h (by rw [h1]; rfl) (by rw [h2]; rfl)
      simp
      exact this
end DL
end L2
set_option Elab.async false
set_option maxRecDepth 100000
set_option maxHeartbeats 1000000
/-! Turning points, worths, sides. -/
namespace L2
open PySem PySem.Spec PyProof.Rows
namespace DL
theorem noLs_ints {γ : Type} (f : γ → Int) : ∀ l : List γ, noLs (l.map (PyData.int ∘ f)) = true
  | [] => rfl
  | x :: l => by
    have := noLs_ints f l
    simp [noLs, noL, this]
theorem noLs_int : ∀ l : List Int, noLs (l.map PyData.int) = true
  | [] => rfl
  | x :: l => by
    have := noLs_int l
    simp [noLs, noL, this]
theorem lay_row (l : List Int) : (PyData.tuple (l.map .int)).canLay0 = true := by simp [PyData.canLay0, lay_ints]
theorem lay_all_of {γ : Type} (f : γ → D) (h : ∀ x, (f x).canLay0 = true) : ∀ l : List γ, PyData.canLayAll0 (l.map f) = true
  | [] => rfl
  | x :: l => by simp [PyData.canLayAll0, h x, lay_all_of f h l]
theorem lwD_lay (q : Lw) : (lwD q).canLay0 = true := by simp [lwD, PyData.canLay0, PyData.canLayAll0]
theorem lw_lay (sm : List Lw) : (PyData.list (sm.map lwD)).canLay0 = true := by
  simp only [PyData.canLay0]
  exact lay_all_of lwD lwD_lay sm
/-! ### tops_that_turn -/
def turnsAt (sm : List Lw) (bs : List Bo) (x : Int) : Bool := decide (some x = lowest bs ∨ some x = highest bs) || decide (topAt sm x - topAt sm (x - 1) > topAt sm (x + 1) - topAt sm x)
def tops (sm : List Lw) (bs : List Bo) : List Pr := if sm = [] then [] else (leads bs).filterMap fun x => if turnsAt sm bs x = true then some (x, topAt sm x) else none
def g_tops_that_turn (ds : List D) (r : Rv) : Prop := ∃ (sm : List Lw) (bs : List Bo), ds = [.list (sm.map lwD), .list (bs.map boD)] ∧ lwOk sm ∧ boOk bs ∧ smO (lowest bs) ∧ smO (highest bs) ∧ r = .f (.list ((tops sm bs).map pairD))
abbrev f_tops_that_turn : FI := fnT 2 g_tops_that_turn
theorem leads_len {bs : List Bo} (sl : smO (lowest bs)) (sh : smO (highest bs)) : (leads bs).length ≤ 2000002 := by
  have ha : -1000000 ≤ (lowest bs).getD (-60) := by
    cases h : lowest bs with
    | none => simp
    | some l => rw [h] at sl; exact sl.1
  have hb : (highest bs).getD 60 ≤ 1000000 := by
    cases h : highest bs with
    | none => simp
    | some l => rw [h] at sh; exact sh.2
  unfold leads rangeI
  rw [List.length_map, List.length_range]
  omega
theorem in_oo {x : Int} {a b : Option Int} {Q : Rv → Prop} : pIn false (.int x) (.tuple [encO a, encO b]) Q ↔ Q (.d (.bool (decide (some x = a ∨ some x = b)))) := by
  unfold pIn
  have e : ∀ a : Option Int, eqF (encO a) (.int x) = decide (some x = a) := fun a => by
    cases a with
    | none => simp [encO, eqF]
    | some y =>
      show (y == x) = _
      by_cases h : y = x
      · simp [h]
      · have h2 : ¬ x = y := fun z => h z.symm
        simp [h, h2]
  have f : ∀ a : Option Int, flatD (encO a) = true := fun a => by cases a <;> rfl
  have fx : flatD (.int x) = true := rfl
  have h1 : (eqF (encO a) (.int x) || eqF (encO b) (.int x)) = decide (some x = a ∨ some x = b) := by
    rw [e, e, ← Bool.decide_or]
  simp [f, fx, h1]
theorem r_tops_that_turn : Reads f_tops_that_turn 5 (w_tops_that_turn f_lowest_lead f_highest_lead f_leads_of f_top_at) := reads_T fun ds r e Q X hq => by
  obtain ⟨sm, bs, rfl, lo, bo, sl, sh, rfl⟩ := e
  have ll := leads_len sl sh
  unfold w_tops_that_turn
  refine seq_k fun K hk => ?_
  simp
  refine ⟨_, ⟨bs, rfl, bo, rfl⟩, ?_⟩
  simp
  refine ⟨_, ⟨bs, rfl, bo, rfl⟩, ?_⟩
  simp
  refine hk _ ?_
  clear hk
  clear K
  have fin : ∀ K : SD → Prop, (∀ s5 s6 : Sl, K [.val (.list (sm.map lwD)), .val (.list (bs.map boD)), .val (encO (lowest bs)), .val (encO (highest bs)), .own (.list ((tops sm bs).map pairD)), s5, s6]) → ∀ (D' : EndsD), D'.nx = K → ∀ l : List Int, ((if sm = [] then [] else leads bs) = l) →
      forD X D' (wgN 5) (wSeq (wSet 6 (wCall f_top_at [.br 0, .br 5]))
    (wSeq (wIf (wtOr (wtB (w2 (pIn false) (.br 5) (.ex (wTup [.ex (wN 2), .ex (wN 3)])))) (wtB (w2 pGt (.ex (w2 pSub (.br 6) (.ex (wCall f_top_at [.br 0, .ex (w2 pSub (.br 5) (.ex (wC (.int 1))))])))) (.ex (w2 pSub (.ex (wCall f_top_at [.br 0, .ex (w2 pAdd (.br 5) (.ex (wC (.int 1))))])) (.br 6)))))) (wSeq (wEx (wApp 4 (wTup [.ex (wN 5), .ex (wN 6)])))
    wNx) wNx)
    wNx)) (l.map .int) [.val (.list (sm.map lwD)), .val (.list (bs.map boD)), .val (encO (lowest bs)), .val (encO (highest bs)), .own (.list []), .un, .un] := by
    intro K hK D' hD l hl
    have hlen : l.length ≤ 2000002 := by
      rw [← hl]
      split
      · simp
      · exact ll
    refine for_inv (fun ds σ => ∃ (m : List Int) (acc : List Pr) (s5 s6 : Sl), ds = m.map .int ∧ (m ≠ [] → sm ≠ []) ∧ acc.length + m.length ≤ 2000002 ∧ freeSl (some s5) ∧ freeSl (some s6) ∧
      acc ++ m.filterMap (fun x => if turnsAt sm bs x = true then some (x, topAt sm x) else none) = tops sm bs ∧
      σ = [.val (.list (sm.map lwD)), .val (.list (bs.map boD)), .val (encO (lowest bs)), .val (encO (highest bs)), .own (.list (acc.map pairD)), s5, s6]) ?_ ?_ _ _ ⟨l, [], .un, .un, rfl, fun h z => ?_, by simpa using hlen, trivial, trivial, ?_, rfl⟩
    · rintro d ds σ ⟨m, acc, s5, s6, e, ne, hl2, h5, h6, ht, rfl⟩ nx hnx
      rcases m with _ | ⟨x, m⟩
      · cases e
      simp only [List.map_cons, List.cons.injEq] at e
      obtain ⟨rfl, rfl⟩ := e
      rw [List.length_cons] at hl2
      have ne := ne (by simp)
      have yes : turnsAt sm bs x = true → nx [.val (.list (sm.map lwD)), .val (.list (bs.map boD)), .val (encO (lowest bs)), .val (encO (highest bs)), .own (.list ((acc ++ [(x, topAt sm x)]).map pairD)), .val (.int x), .val (.int (topAt sm x))] := fun h =>
        hnx _ ⟨m, acc ++ [(x, topAt sm x)], .val (.int x), .val (.int (topAt sm x)), rfl, fun _ => ne, by rw [List.length_append, List.length_singleton]; omega, trivial, trivial, by rw [← ht, List.filterMap_cons, h]; simp, rfl⟩
      have no : turnsAt sm bs x = false → nx [.val (.list (sm.map lwD)), .val (.list (bs.map boD)), .val (encO (lowest bs)), .val (encO (highest bs)), .own (.list (acc.map pairD)), .val (.int x), .val (.int (topAt sm x))] := fun h =>
        hnx _ ⟨m, acc, .val (.int x), .val (.int (topAt sm x)), rfl, fun _ => ne, by omega, trivial, trivial, by rw [← ht, List.filterMap_cons, h]; simp, rfl⟩
      refine (forTurn_def).mpr ?_
      simp [h5]
      refine ⟨_, ⟨sm, x, rfl, ne, lo, rfl⟩, ?_⟩
      simp [h6]
      rw [in_oo]
      simp
      by_cases hx : some x = lowest bs ∨ some x = highest bs
      · have := yes (by simp [turnsAt, hx])
        simp [hx]
        refine ⟨by omega, ?_⟩
        simpa [pairD] using this
      · simp [hx]
        refine ⟨_, ⟨sm, x - 1, rfl, ne, lo, rfl⟩, ?_⟩
        simp
        refine ⟨_, ⟨sm, x + 1, rfl, ne, lo, rfl⟩, ?_⟩
        simp
        by_cases hy : topAt sm (x + 1) - topAt sm x < topAt sm x - topAt sm (x - 1)
        · have := yes (by simp [turnsAt, hy])
          simp [hy]
          refine ⟨by omega, ?_⟩
          simpa [pairD] using this
        · have := no (by simp [turnsAt, hx, hy])
          simp [hy]
          exact this
    · rintro σ ⟨m, acc, s5, s6, e, ne, hl2, h5, h6, ht, rfl⟩
      have : m = [] := by
        cases m with
        | nil => rfl
        | cons u l => cases e
      subst this
      simp at ht
      subst ht
      rw [hD]
      exact hK s5 s6
    · rw [z] at hl
      simp at hl
      exact h hl
    · rw [← hl]
      unfold tops
      split <;> rfl
  refine seq_k fun K hk => ?_
  have layS := lw_lay sm
  have fin := fin K (fun s5 s6 => hk _ (by simp; exact hq))
  cases hs : sm with
  | nil =>
    subst hs
    simp [PyData.canLay0, PyData.canLayAll0]
    exact fin _ rfl [] (by simp)
  | cons q sm' =>
    have ne : sm ≠ [] := by rw [hs]; simp
    rw [← hs]
    have e1 : (sm.map lwD).isEmpty = false := by rw [hs]; rfl
    simp [layS, ne]
    refine ⟨_, ⟨bs, rfl, bo, sl, sh, rfl⟩, ?_⟩
    simp
    exact fin _ rfl (leads bs) (by rw [if_neg ne])
/-! ### worths_of -/
def worth (sm : List Lw) (a b x : Int) : Int := a * x + (if b > 0 then b * topAt sm x else 0)
def g_worths_of (ds : List D) (r : Rv) : Prop := ∃ (sm : List Lw) (a b : Int) (xs : List Int), ds = [.list (sm.map lwD), .tuple [.int a, .int b], .list (xs.map .int)] ∧ lwOk sm ∧ (b > 0 → sm ≠ []) ∧ a.natAbs < 2 ^ 60 ∧ b.natAbs < 2 ^ 60 ∧ xs.length ≤ 16000000 ∧ r = .f (.list ((xs.map (worth sm a b)).map .int))
abbrev f_worths_of : FI := fnT 3 g_worths_of
theorem r_worths_of : Reads f_worths_of 1 (w_worths_of f_top_at) := reads_T fun ds r e Q X hq => by
  obtain ⟨sm, a, b, xs, rfl, lo, ne, ha, hb, hl, rfl⟩ := e
  simp [w_worths_of]
  refine lc_enc PyData.int (fun x => .int (worth sm a b x)) xs (fun x hx A B h => ?_) (by rw [sl_eq]; omega) ?_
  · have m1 : IntMulOk a x := mulOk_left (by omega) (by omega)
    simp [m1]
    by_cases h0 : 0 < b
    · have m2 : ∀ y, IntMulOk b y := fun y => mulOk_left (by omega) (by omega)
      simp [h0]
      refine ⟨_, ⟨sm, x, rfl, ne h0, lo, rfl⟩, ?_⟩
      simp [worth, h0] at h
      simpa [m2] using h
    · simp [worth, h0] at h
      simpa [h0] using h
  · rw [List.map_map] at hq
    exact hq
/-! ### side_of -/
def sideO (b : Int) : Int := if b < 0 then -1 else 1
def g_side_of (ds : List D) (r : Rv) : Prop := ∃ (ls : List Ln) (a b : Int), ds = [.list (ls.map lineD), .tuple [.int a, .int b]] ∧ ls.length ≤ 1000000 ∧ r = .d (.tuple [.list ((lw ls (sideO b)).map lwD), .tuple [.int a, .int (if b < 0 then -b else b)]])
abbrev f_side_of : FI := fnT 2 g_side_of
theorem r_side_of : Reads f_side_of 0 (w_side_of_v1 f_lines_with) := reads_T fun ds r e Q X hq => by
  obtain ⟨ls, a, b, rfl, hl, rfl⟩ := e
  by_cases h : b < 0
  · simp [w_side_of_v1, h]
    refine ⟨_, ⟨ls, -1, rfl, hl, rfl⟩, ?_⟩
    simp [sideO, h] at hq
    simpa using hq
  · simp [w_side_of_v1, h]
    refine ⟨_, ⟨ls, 1, rfl, hl, rfl⟩, ?_⟩
    simp [sideO, h] at hq
    simpa using hq
/-! ### is_endless -/
def endless (sm : List Lw) (a b : Int) (bs : List Bo) : Bool := (decide (b > 0) && sm.isEmpty) || ((decide (highest bs = none) && decide (worth sm a b 61 > worth sm a b 60)) || (decide (lowest bs = none) && decide (worth sm a b (-61) > worth sm a b (-60))))
def g_is_endless (ds : List D) (r : Rv) : Prop := ∃ (sm : List Lw) (a b : Int) (bs : List Bo), ds = [.list (sm.map lwD), .tuple [.int a, .int b], .list (bs.map boD)] ∧ lwOk sm ∧ boOk bs ∧ a.natAbs < 2 ^ 60 ∧ b.natAbs < 2 ^ 60 ∧ r = .d (.bool (endless sm a b bs))
abbrev f_is_endless : FI := fnT 3 g_is_endless
theorem isN_enc (o : Option Int) : isN (encO o) = decide (o = none) := by cases o <;> simp
theorem nd_enc (o : Option Int) : isDct (encO o) = false := by cases o <;> rfl
theorem r_is_endless : Reads f_is_endless 2 (w_is_endless f_worths_of f_highest_lead f_lowest_lead) := reads_T fun ds r e Q X hq => by
  obtain ⟨sm, a, b, bs, rfl, lo, bo, ha, hb, rfl⟩ := e
  have layS := lw_lay sm
  have emp : (sm.map lwD).isEmpty = sm.isEmpty := by cases sm <;> rfl
  unfold w_is_endless
  refine seq_k fun K hk => ?_
  by_cases h1 : b > 0 ∧ sm = []
  · obtain ⟨h1, rfl⟩ := h1
    simp [h1, PyData.canLay0, PyData.canLayAll0]
    simpa [endless, h1] using hq
  have ne : b > 0 → sm ≠ [] := fun h z => h1 ⟨h, z⟩
  have go : ∀ P : Prop, K [.val (.list (sm.map lwD)), .val (.tuple [.int a, .int b]), .val (.list (bs.map boD)), .un, .un] → K [.val (.list (sm.map lwD)), .val (.tuple [.int a, .int b]), .val (.list (bs.map boD)), .un, .un] := fun _ h => h
  have first : K [.val (.list (sm.map lwD)), .val (.tuple [.int a, .int b]), .val (.list (bs.map boD)), .un, .un] → (wIf (wtAnd (wtB (w2 pGt (.ex (w2 pIx (.br 1) (.ex (wC (.int 1))))) (.ex (wC (.int 0))))) (wtB (w2 pEq (.br 0) (.ex (wLst []))))) (wSeq (wRet (wC (.bool true)))
    wNx) wNx) X ⟨K, fun r _ => Q r, fun _ => False, fun _ => False⟩ [.val (.list (sm.map lwD)), .val (.tuple [.int a, .int b]), .val (.list (bs.map boD)), .un, .un] := fun h => by
    by_cases h0 : 0 < b
    · have := ne h0
      simp [h0, layS, this]
      exact h
    · simp [h0]
      exact h
  refine first (hk _ ?_)
  clear first go hk
  clear K
  refine seq_k fun K hk => ?_
  simp
  refine ⟨_, ⟨sm, a, b, [60, 61], rfl, lo, ne, ha, hb, by simp, rfl⟩, ?_⟩
  simp
  refine ⟨_, ⟨sm, a, b, [-60, -61], rfl, lo, ne, ha, hb, by simp, rfl⟩, ?_⟩
  simp
  refine hk _ ?_
  clear hk
  clear K
  have nh : (decide (b > 0) && sm.isEmpty) = false := by
    by_cases h0 : b > 0
    · have := ne h0
      cases sm with
      | nil => exact absurd rfl this
      | cons q sm => simp
    · simp [h0]
  unfold endless at hq
  rw [nh, Bool.false_or] at hq
  refine seq_k fun K hk => ?_
  simp
  refine ⟨_, ⟨bs, rfl, bo, rfl⟩, ?_⟩
  simp [isN_enc, nd_enc]
  by_cases h2 : highest bs = none
  · simp [h2]
    by_cases h3 : worth sm a b 60 < worth sm a b 61
    · simp [h3]
      simpa [h2, h3] using hq
    · simp [h3]
      refine hk _ ?_
      clear hk
      clear K
      simp
      refine ⟨_, ⟨bs, rfl, bo, rfl⟩, ?_⟩
      simp [isN_enc, nd_enc]
      simp [h2, h3] at hq
      by_cases h4 : lowest bs = none
      · simpa [h4] using hq
      · simpa [h4] using hq
  · simp [h2]
    refine hk _ ?_
    clear hk
    clear K
    simp
    refine ⟨_, ⟨bs, rfl, bo, rfl⟩, ?_⟩
    simp [isN_enc, nd_enc]
    simp [h2] at hq
    by_cases h4 : lowest bs = none
    · simpa [h4] using hq
    · simpa [h4] using hq
/-! ### best_lead -/
def bestW (sm : List Lw) (a b : Int) (bs : List Bo) : Int := maxL ((leads bs).map (worth sm a b))
def g_best_lead (ds : List D) (r : Rv) : Prop := ∃ (sm : List Lw) (a b : Int) (bs : List Bo) (j : Nat) (x : Int), ds = [.list (sm.map lwD), .tuple [.int a, .int b], .list (bs.map boD)] ∧ lwOk sm ∧ boOk bs ∧ a.natAbs < 2 ^ 60 ∧ b.natAbs < 2 ^ 60 ∧ smO (lowest bs) ∧ smO (highest bs) ∧ (b > 0 → sm ≠ []) ∧
  (leads bs)[j]? = some x ∧ worth sm a b x = bestW sm a b bs ∧ (∀ m y, m < j → (leads bs)[m]? = some y → worth sm a b y ≠ bestW sm a b bs) ∧ r = .d (.tuple [.int x, .int (bestW sm a b bs)])
abbrev f_best_lead : FI := fnT 3 g_best_lead
theorem r_best_lead : Reads f_best_lead 2 (w_best_lead f_leads_of f_worths_of) := reads_T fun ds r e Q X hq => by
  obtain ⟨sm, a, b, bs, j, x, rfl, lo, bo, ha, hb, sl, sh, ne, hj, hw, hno, rfl⟩ := e
  have ll := leads_len sl sh
  unfold w_best_lead
  refine seq_k fun K hk => ?_
  simp
  refine ⟨_, ⟨bs, rfl, bo, sl, sh, rfl⟩, ?_⟩
  simp
  refine hk _ ?_
  clear hk
  clear K
  refine seq_k fun K hk => ?_
  simp
  refine ⟨_, ⟨sm, a, b, leads bs, rfl, lo, ne, ha, hb, by omega, rfl⟩, ?_⟩
  simp
  refine ⟨⟨noLs_ints _ _, rfl⟩, hk _ ?_⟩
  clear hk
  clear K
  have wne : (leads bs).map (worth sm a b) ≠ [] := by
    intro z
    rw [List.map_eq_nil_iff] at z
    rw [z] at hj
    cases hj
  have il := intsD_map ((leads bs).map (worth sm a b))
  rw [List.map_map] at il
  have pm : ∀ Q' : Rv → Prop, Q' (.d (.int (bestW sm a b bs))) → pMax [.list ((leads bs).map (PyData.int ∘ worth sm a b))] Q' := fun Q' h => ⟨_, il, wne, h⟩
  have jl : j < (leads bs).length := (List.getElem?_eq_some_iff.mp hj).1
  have at_j : atI ((leads bs).map PyData.int) (j : Int) = some (.int x) := by
    rw [at_nat (by rw [List.length_map]; exact jl), List.getElem?_map, hj]
    rfl
  simp
  refine pm _ ?_
  simp
  refine ⟨(leads bs).map (worth sm a b), by rw [List.map_map], j, ?_, ?_, ?_⟩
  · rw [List.getElem?_map, hj]
    simp [hw]
  · intro m hm z
    rw [List.getElem?_map] at z
    cases e : (leads bs)[m]? with
    | none => rw [e] at z; cases z
    | some y =>
      rw [e] at z
      simp at z
      exact hno m y hm e z
  refine ⟨_, at_j, ?_⟩
  refine pm _ ?_
  simp
  exact hq
/-! ### other_at -/
def otherAt (ls : List Ln) (b x : Int) : Int := if b < 0 ∨ lw ls 1 = [] then (if lw ls (-1) = [] then 0 else -topAt (lw ls (-1)) x) else topAt (lw ls 1) x
def g_other_at (ds : List D) (r : Rv) : Prop := ∃ (ls : List Ln) (a b x : Int), ds = [.list (ls.map lineD), .tuple [.int a, .int b], .int x] ∧ lwOk (lw ls 1) ∧ lwOk (lw ls (-1)) ∧ ls.length ≤ 1000000 ∧ r = .d (.int (otherAt ls b x))
abbrev f_other_at : FI := fnT 3 g_other_at
theorem r_other_at : Reads f_other_at 2 (w_other_at f_lines_with f_top_at) := reads_T fun ds r e Q X hq => by
  obtain ⟨ls, a, b, x, rfl, l1, l2, hl, rfl⟩ := e
  unfold w_other_at
  refine seq_k fun K hk => ?_
  simp
  refine ⟨_, ⟨ls, 1, rfl, hl, rfl⟩, ?_⟩
  simp
  refine ⟨_, ⟨ls, -1, rfl, hl, rfl⟩, ?_⟩
  simp
  refine hk _ ?_
  clear hk
  clear K
  have y1 := lw_lay (lw ls 1)
  have y2 := lw_lay (lw ls (-1))
  unfold otherAt at hq
  generalize hu : lw ls 1 = u at l1 y1 hq
  generalize hd : lw ls (-1) = d at l2 y2 hq
  refine seq_k fun K hk => ?_
  by_cases h : b < 0
  · simp [h, y2]
    simp [h] at hq
    by_cases h2 : d = []
    · simpa [h2] using hq
    · simp [h2] at hq ⊢
      exact ⟨_, ⟨d, x, rfl, h2, l2, rfl⟩, by simpa [noLR, noLc, noL] using hq⟩
  · by_cases h3 : u = []
    · subst h3
      simp [h, y2, PyData.canLay0, PyData.canLayAll0]
      simp at hq
      by_cases h2 : d = []
      · subst h2
        simpa [PyData.canLay0, PyData.canLayAll0] using hq
      · have y2' := y2
        simp [PyData.canLay0] at y2'
        simp [h2, y2'] at hq ⊢
        exact ⟨_, ⟨d, x, rfl, h2, l2, rfl⟩, by simpa [noLR, noLc, noL] using hq⟩
    · simp [h, h3, y1]
      refine hk _ ?_
      simp [h, h3] at hq
      simp
      exact ⟨_, ⟨u, x, rfl, h3, l1, rfl⟩, by simpa [noLR, noLc, noL] using hq⟩
end DL
end L2
set_option Elab.async false
set_option maxRecDepth 100000
set_option maxHeartbeats 1000000
/-! Plain sets. -/
namespace L2
open PySem PySem.Spec PyProof.Rows
namespace DL
/-- a plain set: is it a leaf alone; its lines -/
structure Ps where
  one : Bool
  ls : List Ln
def mostL (l : Ln) : Tt := .most [l.1, l.2.1] l.2.2
def Ps.t (P : Ps) : Tt := match P.one, P.ls with
  | true, [l] => mostL l
  | _, ls => .all (Tts.of (ls.map mostL))
def Ps.fo (P : Ps) : Fo := ⟨2, [], P.t⟩
def Ps.enc (P : Ps) : D := P.fo.enc
def lnOk (l : Ln) : Prop := (-3 ≤ l.1 ∧ l.1 ≤ 3) ∧ (-1 ≤ l.2.1 ∧ l.2.1 ≤ 1) ∧ (-20 ≤ l.2.2 ∧ l.2.2 ≤ 20)
structure Ps.ok (P : Ps) : Prop where
  many : P.ls.length ≤ 6
  ln : ∀ l ∈ P.ls, lnOk l
  alone : P.one = true → P.ls.length = 1
theorem of_leaves : ∀ l : List Tt, (Tts.of l).leaves = leavesAll l
  | [] => rfl
  | t :: l => by simp [Tts.of, Tts.leaves, leavesAll, of_leaves l]
theorem leavesAll_most : ∀ ls : List Ln, leavesAll (ls.map mostL) = ls.map mostL
  | [] => rfl
  | l :: ls => by simp [leavesAll, mostL, Tt.leaves]; exact leavesAll_most ls
theorem sizeAll_most : ∀ ls : List Ln, sizeAll (ls.map mostL) = ls.length
  | [] => rfl
  | l :: ls => by
    have := sizeAll_most ls
    simp only [List.map_cons, sizeAll, List.length_cons]
    have : (mostL l).size = 1 := rfl
    omega
theorem deep_most : ∀ ls : List Ln, (Tts.of (ls.map mostL)).deep ≤ 1
  | [] => by simp [Tts.of, Tts.deep]
  | l :: ls => by
    have := deep_most ls
    simp only [List.map_cons, Tts.of, Tts.deep]
    have : (mostL l).deep = 1 := rfl
    omega
theorem small_most (a b k : Int) : smallL (.most [a, b] k) = (within 3 a && (within 1 b && within 20 k)) := by simp [smallL, lastL, Tt.row, Tt.num]
theorem within_iff {n x : Int} : within n x = true ↔ -n ≤ x ∧ x ≤ n := by simp [within]
theorem most_ok {l : Ln} (h : lnOk l) : (mostL l).ok 2 ∧ smallL (mostL l) = true := by
  obtain ⟨a, b, c⟩ := l
  obtain ⟨h1, h2, h3⟩ := h
  dsimp only at h1 h2 h3
  refine ⟨⟨rfl, fun x hx => ?_, by show -1000000000000 ≤ c; omega, by show c ≤ 1000000000000; omega⟩, ?_⟩
  · simp at hx
    rcases hx with rfl | rfl <;> omega
  · show smallL (.most [a, b] c) = true
    rw [small_most, Bool.and_eq_true, Bool.and_eq_true, within_iff, within_iff, within_iff]
    exact ⟨h1, h2, h3⟩
theorem Ps.leaves (P : Ps) : P.t.leaves = P.ls.map mostL := by
  unfold Ps.t
  split
  · rename_i l e1 e2
    rw [e2]
    rfl
  · simp only [Tt.leaves, of_leaves, leavesAll_most]
theorem Ps.fo_ok {P : Ps} (h : P.ok) : P.fo.ok := by
  obtain ⟨h1, h2, h3⟩ := h
  have lv := P.leaves
  have per : period P.t = 1 := by
    unfold period divsN
    rw [lv]
    have : ∀ ls : List Ln, (ls.map mostL).filterMap divOf = [] := fun ls => by
      induction ls with
      | nil => rfl
      | cons l ls ih => rw [List.map_cons, List.filterMap_cons, ih]; rfl
    rw [this]
    rfl
  have shape : P.t.ok 2 ∧ P.t.size ≤ 7 ∧ P.t.deep ≤ 2 := by
    unfold Ps.t
    split
    · rename_i l e1 e2
      refine ⟨(most_ok (h2 l (by rw [e2]; simp))).1, ?_, ?_⟩
      · simp [mostL, Tt.size]
      · simp [mostL, Tt.deep]
    · refine ⟨⟨of_ok fun u hu => ?_, ?_⟩, ?_, ?_⟩
      · obtain ⟨l, hl, rfl⟩ := List.mem_map.mp hu
        exact (most_ok (h2 l hl)).1
      · rw [Tts.of_len, List.length_map]
        omega
      · simp only [Tt.size, of_sizeAll, sizeAll_most]
        omega
      · have := deep_most P.ls
        simp only [Tt.deep]
        omega
  refine ⟨by simp [Ps.fo], by simp [Ps.fo, Fo.letters], by simpa [Ps.fo, Fo.letters] using shape.1, by simp only [Ps.fo]; omega, by simp only [Ps.fo]; omega, ?_, fun u hu => ?_, ?_⟩
  · simp only [Ps.fo]
    rw [lv, List.length_map]
    exact h1
  · simp only [Ps.fo] at hu
    rw [lv] at hu
    obtain ⟨l, hl, rfl⟩ := List.mem_map.mp hu
    exact (most_ok (h2 l hl)).2
  · simp only [Ps.fo]
    omega
open Classical in
noncomputable def plFits (v : D) : Bool := decide (∃ P : Ps, v = P.enc ∧ P.ok)
open Classical in
theorem pl_yes {P : Ps} (h : P.ok) : plFits P.enc = true := decide_eq_true ⟨P, rfl, h⟩
open Classical in
theorem pl_no {v : D} (h : ∀ P : Ps, v = P.enc → P.ok → False) : plFits v = false := decide_eq_false fun ⟨P, e, o⟩ => h P e o
open Classical in
theorem pl_dec {v : D} (h : plFits v = true) : ∃ P : Ps, v = P.enc ∧ P.ok := of_decide_eq_true h
def g_fits_plain_set (ds : List D) (r : Rv) : Prop := ∃ v, ds = [v] ∧ v.canLay0 = true ∧ r = .d (.bool (plFits v))
abbrev f_fits_plain_set : FI := fnT 1 g_fits_plain_set
def isMost : Tt → Bool
  | .most _ _ => true
  | _ => false
@[simp] theorem ne_t0 {l : List D} {Q : Rv → Prop} : pNe (.tuple l) (.tuple []) Q ↔ (PyData.tuple l).canLay0 = true ∧ Q (.d (.bool (!l.isEmpty))) := by
  have : PyData.eqv (.tuple l) (.tuple []) = l.isEmpty := by
    rw [PyData.eqv]
    cases l <;> rfl
  unfold pNe CmpOk
  rw [this]
  simp [PyData.depth, PyData.canLay0, PyData.canLayAll0, PyData.depthAll]
@[simp] theorem eq_t0 {l : List D} {Q : Rv → Prop} : pEq (.tuple l) (.tuple []) Q ↔ (PyData.tuple l).canLay0 = true ∧ Q (.d (.bool l.isEmpty)) := by
  have : PyData.eqv (.tuple l) (.tuple []) = l.isEmpty := by
    rw [PyData.eqv]
    cases l <;> rfl
  unfold pEq CmpOk
  rw [this]
  simp [PyData.depth, PyData.canLay0, PyData.canLayAll0, PyData.depthAll]
theorem word_lay : ∀ bs : List Bool, (PyData.tuple (bs.map wordD)).canLay0 = true := fun bs => by
  simp only [PyData.canLay0]
  exact lay_all_of wordD (fun b => by cases b <;> decide +kernel) bs
/-- small leaves of two letters are lines -/
theorem line_of {u : Tt} (ok : u.ok 2) (sm : smallL u = true) (m : isMost u = true) : ∃ l : Ln, u = mostL l ∧ lnOk l := by
  cases u with
  | most row k =>
    simp only [Tt.ok, leafOk] at ok
    rcases row with _ | ⟨a, _ | ⟨b, _ | ⟨c, row⟩⟩⟩
    · simp at ok
    · simp at ok
    · rw [small_most, Bool.and_eq_true, Bool.and_eq_true, within_iff, within_iff, within_iff] at sm
      exact ⟨(a, b, k), rfl, sm⟩
    · simp at ok
  | _ => simp [isMost] at m
theorem lines_list : ∀ {l : List Tt}, (∀ u ∈ l, u.ok 2) → (∀ u ∈ l, smallL u = true) → l.all isMost = true → ∃ ls : List Ln, l = ls.map mostL ∧ ∀ x ∈ ls, lnOk x
  | [], _, _, _ => ⟨[], rfl, fun x h => nomatch h⟩
  | u :: l, h1, h2, h3 => by
    rw [List.all_cons, Bool.and_eq_true] at h3
    obtain ⟨x, rfl, hx⟩ := line_of (h1 u List.mem_cons_self) (h2 u List.mem_cons_self) h3.1
    obtain ⟨ls, rfl, hls⟩ := lines_list (fun v hv => h1 v (List.mem_cons_of_mem _ hv)) (fun v hv => h2 v (List.mem_cons_of_mem _ hv)) h3.2
    exact ⟨x :: ls, rfl, fun y hy => by
      rcases List.mem_cons.mp hy with rfl | hy
      · exact hx
      · exact hls y hy⟩
theorem mem_leavesAll : ∀ {l : List Tt} {u v : Tt}, u ∈ l → v ∈ u.leaves → v ∈ leavesAll l
  | t :: l, u, v, h, hv => by
    simp only [leavesAll, List.mem_append]
    rcases List.mem_cons.mp h with rfl | h
    · exact .inl hv
    · exact .inr (mem_leavesAll h hv)
theorem Ps.enc_t {P : Ps} {f : Nat} {bs : List Bool} {t : Tt} (h : Fo.enc ⟨f, bs, t⟩ = P.enc) : f = 2 ∧ bs = [] ∧ t = P.t := by
  simp [Ps.enc, Ps.fo, Fo.enc] at h
  exact ⟨by omega, h.2.1, Tt.enc_inj _ _ h.2.2⟩
theorem r_fits_plain_set : Reads f_fits_plain_set 2 (w_fits_plain_set f_fits_formula) := reads_T fun ds r e Q X hq => by
  obtain ⟨v, rfl, lay, rfl⟩ := e
  have no : (∀ P : Ps, v = P.enc → P.ok → False) → Q (.d (.bool false)) := fun h => by rwa [pl_no h] at hq
  unfold w_fits_plain_set
  refine seq_k fun K hk => ?_
  simp
  refine ⟨_, ⟨v, rfl, lay, rfl⟩, ?_⟩
  cases hf : foFits v
  · simp
    refine no fun P e o => ?_
    have := fo_yes (Ps.fo_ok o)
    rw [e] at hf
    unfold Ps.enc at hf
    rw [this] at hf
    cases hf
  obtain ⟨⟨f, bs, t⟩, rfl, ok⟩ := fo_dec hf
  simp
  by_cases f2 : f = 2
  · subst f2
    cases bs with
    | cons b bs =>
      have yl := word_lay (b :: bs)
      simp at yl
      simp [Fo.enc, yl]
      refine no fun P e o => ?_
      have := (Ps.enc_t e).2.1
      cases this
    | nil =>
      have ok2 : t.ok 2 := by simpa [Fo.letters] using ok.t
      have small := ok.small
      have many := ok.many
      dsimp only at small many
      simp [Fo.enc, PyData.canLay0, PyData.canLayAll0]
      refine hk _ ?_
      clear hk
      clear K
      refine seq_k fun K hk => ?_
      simp
      refine hk _ ?_
      clear hk
      clear K
      have isno : (∀ P : Ps, t = P.t → P.ok → False) → Q (.d (.bool false)) := fun h => no fun P e o => h P (Ps.enc_t e).2.2 o
      have isyes : ∀ P : Ps, t = P.t → P.ok → Q (.d (.bool true)) := fun P e o => by
        have := pl_yes o
        have e2 : P.enc = Fo.enc ⟨2, [], t⟩ := by rw [e]; rfl
        rw [e2] at this
        rwa [this] at hq
      cases t with
      | most row k =>
        simp [Tt.enc]
        obtain ⟨l, e, hl⟩ := line_of ok2 (small _ (by simp [Tt.leaves])) rfl
        exact isyes ⟨true, [l]⟩ e ⟨by simp, fun x hx => by rw [List.mem_singleton.mp hx]; exact hl, fun _ => rfl⟩
      | div m row k =>
        simp [Tt.enc]
        refine isno fun P e _ => ?_
        unfold Ps.t at e
        split at e <;> cases e
      | neg t =>
        simp [Tt.enc]
        refine isno fun P e _ => ?_
        unfold Ps.t at e
        split at e <;> cases e
      | any ts =>
        simp [Tt.enc]
        refine isno fun P e _ => ?_
        unfold Ps.t at e
        split at e <;> cases e
      | all ts =>
        have len : ts.toList.length ≤ 4000 := by rw [Tts.len_list]; exact ok2.2
        simp [Tt.enc, Tts.enc_list]
        refine lc_enc Tt.enc (fun u => .bool (isMost u)) ts.toList (fun u hu A B a => ?_) (by rw [sl_eq]; omega) ?_
        · cases u <;> simpa [Tt.enc, isMost] using a
        have bl : bolsD (ts.toList.map fun u => .bool (isMost u)) = some (ts.toList.map isMost) := by
          have := bolsD_map (ts.toList.map isMost)
          rw [List.map_map] at this
          exact this
        refine ⟨_, bl, ?_⟩
        have e1 : (ts.toList.map isMost).all id = ts.toList.all isMost := by simp [List.all_map, Function.comp_def]
        rw [e1]
        cases h : ts.toList.all isMost
        · refine isno fun P e _ => ?_
          unfold Ps.t at e
          split at e
          · cases e
          · injection e with e
            rw [e, Tts.of_list] at h
            rw [List.all_eq_true.mpr] at h
            · cases h
            · intro u hu
              obtain ⟨l, _, rfl⟩ := List.mem_map.mp hu
              rfl
        · have leafm : ∀ u ∈ ts.toList, u ∈ (Tt.all ts).leaves := fun u hu => by
            have m := List.all_eq_true.mp h u hu
            simp only [Tt.leaves, Tts.leaves_list]
            refine mem_leavesAll hu ?_
            cases u with
            | most row k => simp [Tt.leaves]
            | _ => simp [isMost] at m
          obtain ⟨ls, e, hls⟩ := lines_list (fun u hu => Tts.mem_list ok2.1 u hu) (fun u hu => small u (leafm u hu)) h
          refine isyes ⟨false, ls⟩ ?_ ⟨?_, hls, fun z => nomatch z⟩
          · show Tt.all ts = .all (Tts.of (ls.map mostL))
            rw [← e, Tts.of_toList]
          · have : (Tt.all ts).leaves.length = ls.length := by
              simp only [Tt.leaves, Tts.leaves_list, e, leavesAll_most, List.length_map]
            dsimp only
            omega
  · have : ¬ ((f : Nat) : Int) = 2 := by omega
    simp [Fo.enc, this]
    refine no fun P e _ => ?_
    exact f2 (Ps.enc_t e).1
/-! ### is_plain_set, need_plain_set, need_row -/
abbrev f_is_plain_set : FI := fnT 1 g_fits_plain_set
theorem r_is_plain_set : Reads f_is_plain_set 0 (w_is_plain_set f_fits_plain_set) := reads_T fun ds r e Q X hq => by
  obtain ⟨v, rfl, lay, rfl⟩ := e
  simp [w_is_plain_set]
  exact ⟨_, ⟨v, rfl, lay, rfl⟩, hq⟩
def g_need_plain_set (ds : List D) (Q : Rv → D → Prop) (X : XW) : Prop := ∃ v, ds = [v] ∧ v.canLay0 = true ∧ ((plFits v = true ∧ Q (.d .none) .none) ∨ (plFits v = false ∧ X "InvalidFormula"))
abbrev f_need_plain_set : FI := ⟨1, none, g_need_plain_set⟩
theorem r_need_plain_set : Reads f_need_plain_set 0 (w_need_plain_set f_fits_plain_set) := by
  rintro ds Q X hl ⟨v, rfl, lay, h⟩
  simp [w_need_plain_set]
  refine ⟨_, ⟨v, rfl, lay, rfl⟩, ?_⟩
  rcases h with ⟨h1, h2⟩ | ⟨h1, h2⟩
  · simpa [h1] using h2
  · simpa [h1] using h2
def rowFit (v : D) : Bool := match v with
  | .tuple l => decide (l.length = 2) && l.all fun d => isWh d (-1000000) 1000000
  | _ => false
def g_need_row (ds : List D) (Q : Rv → D → Prop) (X : XW) : Prop := ∃ v, ds = [v] ∧ ((rowFit v = true ∧ Q (.d .none) .none) ∨ (rowFit v = false ∧ X "InvalidRow"))
abbrev f_need_row : FI := ⟨1, none, g_need_row⟩
theorem r_need_row : Reads f_need_row 1 (w_need_row f_is_tuple_of f_is_whole) := by
  rintro ds Q X hl ⟨v, rfl, h⟩
  have go : ∀ b : Bool, rowFit v = b → ((b = true ∧ Q (.d .none) .none) ∨ (b = false ∧ X "InvalidRow")) := fun b e => by rw [← e]; exact h
  clear h
  simp [w_need_row]
  cases v with
  | tuple l =>
    by_cases h2 : l.length = 2
    · have t2 : tupLen (.tuple l) 2 2 = true := by simp [tupLen, h2]
      simp [t2]
      refine lc_map (fun d => .bool (isWh d (-1000000) 1000000)) l (fun d hd A B a => ?_) (by rw [sl_eq]; omega) ?_
      · simp [a]
      · refine ⟨_, bolsD_all l _, ?_⟩
        have e1 : (l.map fun d => isWh d (-1000000) 1000000).all id = l.all fun d => isWh d (-1000000) 1000000 := by simp [List.all_map, Function.comp_def]
        rw [e1]
        have := go (l.all fun d => isWh d (-1000000) 1000000) (by simp [rowFit, h2])
        generalize (l.all fun d => isWh d (-1000000) 1000000) = b at this
        cases b <;> simpa using this
    · have t2 : tupLen (.tuple l) 2 2 = false := by
        simp [tupLen]
        omega
      have := go false (by simp [rowFit, h2])
      simpa [t2] using this
  | _ =>
    have := go false rfl
    simpa [tupLen] using this
/-! ### lines_of -/
def g_lines_of (ds : List D) (r : Rv) : Prop := ∃ P : Ps, ds = [P.enc] ∧ P.ok ∧ r = .f (.list (P.ls.map lineD))
abbrev f_lines_of : FI := fnT 1 g_lines_of
theorem most_enc (l : Ln) : (mostL l).enc = .tuple [.str "most", .tuple [.int l.1, .int l.2.1], .int l.2.2] := rfl
theorem r_lines_of : Reads f_lines_of 3 w_lines_of := reads_T fun ds r e Q X hq => by
  obtain ⟨P, rfl, ok, rfl⟩ := e
  have many := ok.many
  have loop : ∀ σ1 : SD, σ1.length = 4 → freeSl σ1[3]? → ∀ Q' : Rv → SD → Prop, Q' (.f (.list (P.ls.map lineD))) (restD σ1 [3] (wipeD σ1 [3])) →
      lcD noX [3] (wgN 3) wtYes (wTup [.ex (w2 pIx (.br 3) (.ex (wC (.int 1)))), .ex (w2 pIx (.br 3) (.ex (wC (.int 2))))]) (fun acc σ => Q' (.f (.list acc)) (restD σ1 [3] σ)) (P.ls.map fun l => (mostL l).enc) [] (wipeD σ1 [3]) := by
    intro σ1 h4 h3 Q' hQ
    refine lc_enc (fun l => (mostL l).enc) lineD P.ls (fun l hl A B a => ?_) (by rw [sl_eq]; omega) hQ
    rcases σ1 with _ | ⟨a0, _ | ⟨a1, _ | ⟨a2, _ | ⟨a3, _ | ⟨a4, σ1⟩⟩⟩⟩⟩ <;> simp at h4
    simp [most_enc]
    simpa [lineD] using a
  unfold w_lines_of
  refine seq_k fun K hk => ?_
  simp [Ps.enc, Ps.fo, Fo.enc]
  refine hk _ ?_
  clear hk
  clear K
  obtain ⟨one, ls⟩ := P
  dsimp only at loop many ⊢
  by_cases h : one = true ∧ ls.length = 1
  · obtain ⟨rfl, h1⟩ := h
    obtain ⟨l, rfl⟩ : ∃ l, ls = [l] := List.length_eq_one_iff.mp h1
    refine seq_k fun K hk => ?_
    simp [Ps.t, most_enc]
    refine hk _ ?_
    clear hk
    clear K
    have := loop [.val (.tuple [.int 2, .tuple [], (mostL l).enc]), .val (mostL l).enc, .val (.list [(mostL l).enc]), .un] rfl trivial (fun r _ => Q r) hq
    simp [most_enc] at this ⊢
    exact this
  · have et : (Ps.t ⟨one, ls⟩) = .all (Tts.of (ls.map mostL)) := by
      unfold Ps.t
      dsimp only
      split
      · rename_i l e1
        exact absurd ⟨rfl, by simp⟩ h
      · rfl
    rw [et]
    refine seq_k fun K hk => ?_
    simp [Tt.enc, Tts.of_enc]
    refine hk _ ?_
    clear hk
    clear K
    have := loop [.val (.tuple [.int 2, .tuple [], .tuple [.str "and", .tuple (ls.map fun l => (mostL l).enc)]]), .val (.tuple [.str "and", .tuple (ls.map fun l => (mostL l).enc)]), .val (.list (ls.map fun l => (mostL l).enc)), .un] rfl trivial (fun r _ => Q r) hq
    simp [Function.comp_def] at this ⊢
    exact this
end DL
end L2
set_option Elab.async false
set_option maxRecDepth 100000
set_option maxHeartbeats 1000000
/-! Corners and greatest sums. -/
namespace L2
open PySem PySem.Spec PyProof.Rows
namespace DL
theorem minL_mem {l : List Int} (h : l ≠ []) : minL l ∈ l := by
  cases l with
  | nil => exact absurd rfl h
  | cons x r => exact (minL_spec x r).1
theorem minL_le {l : List Int} {y : Int} (h : y ∈ l) : minL l ≤ y := by
  cases l with
  | nil => cases h
  | cons x r => exact (minL_spec x r).2 y h
theorem maxL_mem {l : List Int} (h : l ≠ []) : maxL l ∈ l := by
  cases l with
  | nil => exact absurd rfl h
  | cons x r => exact (maxL_spec x r).1
theorem le_maxL {l : List Int} {y : Int} (h : y ∈ l) : y ≤ maxL l := by
  cases l with
  | nil => cases h
  | cons x r => exact (maxL_spec x r).2 y h
/-! ### the top -/
theorem top_mem {sm : List Lw} (h : sm ≠ []) (x : Int) : ∃ q ∈ sm, topAt sm x = q.2.2 - q.2.1 * x := by
  have := minL_mem (l := sm.map fun q => q.2.2 - q.2.1 * x) (by simpa using h)
  obtain ⟨q, hq, e⟩ := List.mem_map.mp this
  exact ⟨q, hq, e.symm⟩
theorem top_le {sm : List Lw} {q : Lw} (h : q ∈ sm) (x : Int) : topAt sm x ≤ q.2.2 - q.2.1 * x := minL_le (List.mem_map.mpr ⟨q, h, rfl⟩)
/-- the coefficients are small -/
def slOk (sm : List Lw) : Prop := ∀ q ∈ sm, -3 ≤ q.2.1 ∧ q.2.1 ≤ 3
theorem top_step {sm : List Lw} (ne : sm ≠ []) (sl : slOk sm) (x : Int) : -3 ≤ topAt sm (x + 1) - topAt sm x ∧ topAt sm (x + 1) - topAt sm x ≤ 3 := by
  obtain ⟨q, hq, e⟩ := top_mem ne x
  obtain ⟨p, hp, e2⟩ := top_mem ne (x + 1)
  have h1 := top_le hq (x + 1)
  have h2 := top_le hp x
  have a := sl q hq
  have b := sl p hp
  rw [Int.mul_add] at h1 e2
  omega
theorem top_conc {sm : List Lw} (ne : sm ≠ []) (x : Int) : topAt sm (x - 1) + topAt sm (x + 1) ≤ 2 * topAt sm x := by
  obtain ⟨q, hq, e⟩ := top_mem ne x
  have h1 := top_le hq (x + 1)
  have h2 := top_le hq (x - 1)
  rw [Int.mul_add] at h1
  rw [Int.mul_sub] at h2
  omega
theorem rangeI_succ (i : Int) (n : Nat) : rangeI i (n + 1) = rangeI i n ++ [i + (n : Nat)] := by
  unfold rangeI
  rw [List.range_succ, List.map_append]
  rfl
theorem filter_or_len {α : Type} (p q : α → Bool) : ∀ l : List α, (l.filter fun x => p x || q x).length ≤ (l.filter p).length + (l.filter q).length
  | [] => by simp
  | x :: l => by
    have := filter_or_len p q l
    simp only [List.filter_cons]
    cases p x <;> cases q x <;> simp <;> omega
/-- where the top turns -/
def strict (sm : List Lw) (x : Int) : Bool := decide (topAt sm x - topAt sm (x - 1) > topAt sm (x + 1) - topAt sm x)
theorem strict_few {sm : List Lw} (ne : sm ≠ []) (i : Int) : ∀ n : Nat, (((rangeI i n).filter (strict sm)).length : Int) ≤ (topAt sm i - topAt sm (i - 1)) - (topAt sm (i + (n : Nat)) - topAt sm (i + (n : Nat) - 1))
  | 0 => by simp [rangeI]
  | n + 1 => by
    have := strict_few ne i n
    have c := top_conc ne (i + (n : Nat))
    rw [rangeI_succ, List.filter_append, List.length_append]
    have e : i + ((n + 1 : Nat) : Int) = i + (n : Nat) + 1 := by omega
    rw [e, Int.add_sub_cancel]
    by_cases h : strict sm (i + (n : Nat)) = true
    · have h2 := of_decide_eq_true h
      simp [h]
      omega
    · simp [h]
      omega
theorem one_few (i v : Int) : ∀ n : Nat, ((rangeI i n).filter fun x => decide (x = v)).length ≤ 1
  | 0 => by simp [rangeI]
  | n + 1 => by
    have := one_few i v n
    rw [rangeI_succ, List.filter_append, List.length_append]
    by_cases h : i + (n : Nat) = v
    · have : ((rangeI i n).filter fun x => decide (x = v)) = [] := by
        rw [List.filter_eq_nil_iff]
        intro x hx
        rw [rangeI_mem] at hx
        simp
        omega
      rw [this]
      simp [h]
    · simp [h]
      simpa using this
theorem ends_few (i : Int) (n : Nat) (a : Option Int) : ((rangeI i n).filter fun x => decide (some x = a)).length ≤ 1 := by
  cases a with
  | none =>
    rw [List.filter_eq_nil_iff.mpr fun x _ => by simp]
    simp
  | some v =>
    have := one_few i v n
    simpa using this
theorem tops_few {sm : List Lw} {bs : List Bo} (sl : slOk sm) : (tops sm bs).length ≤ 8 := by
  unfold tops
  split
  · simp
  · rename_i ne
    have e : ∀ l : List Int, (l.filterMap fun x => if turnsAt sm bs x = true then some (x, topAt sm x) else none).length = (l.filter fun x => turnsAt sm bs x).length := fun l => by
      induction l with
      | nil => rfl
      | cons x l ih =>
        rw [List.filterMap_cons, List.filter_cons]
        cases turnsAt sm bs x <;> simp [ih]
    rw [e]
    have t : ∀ x, turnsAt sm bs x = ((decide (some x = lowest bs) || decide (some x = highest bs)) || strict sm x) := fun x => by
      unfold turnsAt strict
      rw [Bool.decide_or]
    simp only [t]
    unfold leads
    generalize ((lowest bs).getD (-60)) = i
    generalize (((highest bs).getD 60) + 1 - i).toNat = n
    have f1 := filter_or_len (fun x => decide (some x = lowest bs) || decide (some x = highest bs)) (strict sm) (rangeI i n)
    have f2 := filter_or_len (fun x => decide (some x = lowest bs)) (fun x => decide (some x = highest bs)) (rangeI i n)
    have f3 := ends_few i n (lowest bs)
    have f4 := ends_few i n (highest bs)
    have f5 := strict_few ne i n
    have f6 := top_step ne sl (i - 1)
    have f7 := top_step ne sl (i + (n : Nat) - 1)
    rw [Int.sub_add_cancel] at f6 f7
    omega
/-! ### the bounds of a plain set -/
theorem lw_small {ls : List Ln} (h : ∀ l ∈ ls, lnOk l) (o : Int) : ∀ q ∈ lw ls o, (-3 ≤ q.2.1 ∧ q.2.1 ≤ 3) ∧ (-20 ≤ q.2.2 ∧ q.2.2 ≤ 20) := fun q hq => by
  obtain ⟨h1, h2, h3⟩ := h _ (lw_mem hq)
  exact ⟨h1, h3⟩
theorem bnds_small {ls : List Ln} (h : ∀ l ∈ ls, lnOk l) : ∀ q ∈ bnds ls, (-6 ≤ q.2.1 ∧ q.2.1 ≤ 6) ∧ (-40 ≤ q.2.2 ∧ q.2.2 ≤ 40) := by
  intro q hq
  unfold bnds at hq
  rcases List.mem_append.mp hq with hq | hq
  · obtain ⟨p, hp, rfl⟩ := List.mem_map.mp hq
    have := lw_small h 0 p hp
    dsimp only
    omega
  · obtain ⟨u, hu, hq⟩ := List.mem_flatMap.mp hq
    obtain ⟨d, hd, rfl⟩ := List.mem_map.mp hq
    have h1 := lw_small h 1 u hu
    have h2 := lw_small h (-1) d hd
    dsimp only
    omega
theorem bnds_len (ls : List Ln) : (bnds ls).length ≤ ls.length + ls.length * ls.length := by
  have l0 := lw_len ls 0
  have l1 := lw_len ls 1
  have l2 := lw_len ls (-1)
  unfold bnds
  rw [List.length_append, List.length_map]
  have e : ∀ m : List Lw, (m.flatMap fun u => (lw ls (-1)).map fun d => (([u.1, d.1], u.2.1 + d.2.1, u.2.2 + d.2.2) : Bo)).length ≤ m.length * ls.length := fun m => by
    induction m with
    | nil => simp
    | cons u m ih =>
      rw [List.flatMap_cons, List.length_append, List.length_map, List.length_cons, Nat.add_mul, Nat.one_mul]
      omega
  have := e (lw ls 1)
  have := Nat.mul_le_mul_right ls.length l1
  omega
section
variable {P : Ps} (ok : P.ok)
include ok
theorem Ps.bo : boOk (bnds P.ls) := by
  have := bnds_len P.ls
  have h6 := ok.many
  have := Nat.mul_le_mul h6 h6
  refine ⟨by omega, fun q hq => ?_⟩
  have := bnds_small ok.ln q hq
  omega
theorem Ps.lwok (o : Int) : lwOk (lw P.ls o) := by
  have := lw_len P.ls o
  have h6 := ok.many
  refine ⟨by omega, fun q hq => ?_⟩
  have := lw_small ok.ln o q hq
  omega
theorem Ps.slok (o : Int) : slOk (lw P.ls o) := fun q hq => (lw_small ok.ln o q hq).1
theorem Ps.hi40 : ∀ x, highest (bnds P.ls) = some x → -40 ≤ x ∧ x ≤ 40 := by
  intro x e
  unfold highest at e
  cases h : highs (bnds P.ls) with
  | nil => rw [h] at e; cases e
  | cons y r =>
    rw [h] at e
    cases e
    have := (minL_spec y r).1
    rw [← h] at this
    obtain ⟨q, hq, e⟩ := List.mem_filterMap.mp this
    split at e
    · rename_i h0
      have b := bnds_small ok.ln q hq
      have := fdiv_b (k := q.2.2) h0 (m := 40) (by omega) b.2.1 b.2.2
      injection e with e
      rw [h] at e
      rw [← e]
      exact this
    · cases e
theorem Ps.lo40 : ∀ x, lowest (bnds P.ls) = some x → -40 ≤ x ∧ x ≤ 40 := by
  intro x e
  unfold lowest at e
  cases h : lows (bnds P.ls) with
  | nil => rw [h] at e; cases e
  | cons y r =>
    rw [h] at e
    cases e
    have := (maxL_spec y r).1
    rw [← h] at this
    obtain ⟨q, hq, e⟩ := List.mem_filterMap.mp this
    split at e
    · rename_i h0
      have b := bnds_small ok.ln q hq
      have := fdiv_b (k := q.2.2) (c := -q.2.1) (by omega) (m := 40) (by omega) b.2.1 b.2.2
      injection e with e
      rw [h] at e
      rw [← e]
      omega
    · cases e
theorem Ps.smh : smO (highest (bnds P.ls)) := by
  cases h : highest (bnds P.ls) with
  | none => trivial
  | some x =>
    have := Ps.hi40 ok x h
    simp only [smO]
    omega
theorem Ps.sml : smO (lowest (bnds P.ls)) := by
  cases h : lowest (bnds P.ls) with
  | none => trivial
  | some x =>
    have := Ps.lo40 ok x h
    simp only [smO]
    omega
end
theorem noLs_nat : ∀ l : List Nat, noLs (l.map fun (n : Nat) => PyData.int (n : Nat)) = true
  | [] => rfl
  | x :: l => by
    have := noLs_nat l
    simp [noLs, noL, this]
theorem noLs_bo : ∀ l : List Bo, noLs (l.map boD) = true
  | [] => rfl
  | q :: l => by
    have := noLs_bo l
    simp [noLs, noL, boD, this, noLs_nat]
theorem noLs_lw : ∀ l : List Lw, noLs (l.map lwD) = true
  | [] => rfl
  | q :: l => by
    have := noLs_lw l
    simp [noLs, noL, lwD, this]
theorem noLs_pair : ∀ l : List Pr, noLs (l.map pairD) = true
  | [] => rfl
  | q :: l => by
    have := noLs_pair l
    simp [noLs, noL, pairD, this]
/-! ### corners_of -/
def crn (ls : List Ln) : List Pr := tops (lw ls 1) (bnds ls) ++ (tops (lw ls (-1)) (bnds ls)).map fun p => (p.1, -p.2)
def g_corners_of (ds : List D) (Q : Rv → D → Prop) (X : XW) : Prop := ∃ v, ds = [v] ∧ v.canLay0 = true ∧ ((plFits v = false ∧ X "InvalidFormula") ∨
  ∃ P : Ps, v = P.enc ∧ P.ok ∧ ∀ ys : List Pr, SrtP ys → (∀ p, p ∈ ys ↔ hasPts (bnds P.ls) = true ∧ p ∈ crn P.ls) → Q (.d (.tuple (ys.map pairD))) .none)
abbrev f_corners_of : FI := ⟨1, none, g_corners_of⟩
theorem r_corners_of : Reads f_corners_of 5 (w_corners_of f_need_plain_set f_lines_of f_bounds_in f_has_points f_tops_that_turn f_lines_with) := by
  rintro ds Q X hl ⟨v, rfl, lay, h⟩
  unfold w_corners_of
  refine seq_k fun K hk => ?_
  simp
  rcases h with ⟨h1, h2⟩ | ⟨P, rfl, ok, hq⟩
  · exact ⟨v, rfl, lay, .inr ⟨h1, h2⟩⟩
  have h6 := ok.many
  refine ⟨_, rfl, lay, .inl ⟨pl_yes ok, ?_⟩⟩
  simp
  refine hk _ ?_
  clear hk
  clear K
  refine seq_k fun K hk => ?_
  simp
  refine ⟨_, ⟨P, rfl, ok, rfl⟩, ?_⟩
  simp
  refine hk _ ?_
  clear hk
  clear K
  refine seq_k fun K hk => ?_
  simp
  refine ⟨_, ⟨P.ls, rfl, by omega, rfl⟩, ?_⟩
  simp
  refine ⟨⟨noLs_bo _, rfl⟩, hk _ ?_⟩
  clear hk
  clear K
  have u1 := tops_few (bs := bnds P.ls) (Ps.slok ok 1)
  have u2 := tops_few (bs := bnds P.ls) (Ps.slok ok (-1))
  refine seq_k fun K hk => ?_
  simp
  refine ⟨_, ⟨bnds P.ls, rfl, Ps.bo ok, rfl⟩, ?_⟩
  cases hp : hasPts (bnds P.ls)
  · simp
    exact ⟨⟨rfl, rfl⟩, hq [] .nil (by simp [hp])⟩
  simp
  refine ⟨⟨rfl, rfl⟩, hk _ ?_⟩
  clear hk
  clear K
  refine seq_k fun K hk => ?_
  simp
  refine ⟨_, ⟨P.ls, 1, rfl, by omega, rfl⟩, ?_⟩
  simp
  refine ⟨⟨noLs_lw _, rfl⟩, ?_⟩
  refine ⟨_, ⟨lw P.ls 1, bnds P.ls, rfl, Ps.lwok ok 1, Ps.bo ok, Ps.sml ok, Ps.smh ok, rfl⟩, ?_⟩
  simp
  refine ⟨⟨noLs_pair _, rfl⟩, hk _ ?_⟩
  clear hk
  clear K
  refine seq_k fun K hk => ?_
  simp
  refine ⟨_, ⟨P.ls, -1, rfl, by omega, rfl⟩, ?_⟩
  simp
  refine ⟨⟨noLs_lw _, rfl⟩, ?_⟩
  refine ⟨_, ⟨lw P.ls (-1), bnds P.ls, rfl, Ps.lwok ok (-1), Ps.bo ok, Ps.sml ok, Ps.smh ok, rfl⟩, ?_⟩
  simp
  refine ⟨⟨noLs_pair _, rfl⟩, ?_⟩
  refine lc_enc pairD (fun p => pairD (p.1, -p.2)) _ (fun p hp A B a => ?_) (by rw [sl_eq]; omega) ?_
  · obtain ⟨x, y⟩ := p
    simpa [pairD] using a
  simp
  refine ⟨by omega, hk _ ?_⟩
  clear hk
  clear K
  have e : (tops (lw P.ls 1) (bnds P.ls)).map pairD ++ (tops (lw P.ls (-1)) (bnds P.ls)).map (fun p => pairD (p.1, -p.2)) = (crn P.ls).map pairD := by
    unfold crn
    rw [List.map_append, List.map_map]
    rfl
  rw [e]
  have few : (crn P.ls).length < 64 := by
    unfold crn
    rw [List.length_append, List.length_map]
    omega
  simp
  refine .inr ⟨crn P.ls, rfl, few, fun ys srt mem => ?_⟩
  exact hq ys srt fun p => by rw [mem]; simp [hp]
/-! ### greatest_of -/
theorem first_idx {α : Type} (p : α → Prop) : ∀ l : List α, (∃ x ∈ l, p x) → ∃ (j : Nat) (x : α), l[j]? = some x ∧ p x ∧ ∀ m y, m < j → l[m]? = some y → ¬ p y
  | [], h => by
    obtain ⟨x, hx, _⟩ := h
    cases hx
  | x :: l, h => by
    by_cases hx : p x
    · exact ⟨0, x, rfl, hx, fun m y hm => by omega⟩
    · have : ∃ y ∈ l, p y := by
        obtain ⟨y, hy, py⟩ := h
        rcases List.mem_cons.mp hy with rfl | hy
        · exact absurd py hx
        · exact ⟨y, hy, py⟩
      obtain ⟨j, y, h1, h2, h3⟩ := first_idx p l this
      refine ⟨j + 1, y, by simpa using h1, h2, fun m z hm hz => ?_⟩
      cases m with
      | zero =>
        simp at hz
        rw [← hz]
        exact hx
      | succ m => exact h3 m z (by omega) (by simpa using hz)
theorem leads_ne {P : Ps} (ok : P.ok) (h : hasPts (bnds P.ls) = true) : leads (bnds P.ls) ≠ [] := by
  unfold hasPts at h
  rw [Bool.and_eq_true] at h
  have h := h.2
  have key : (lowest (bnds P.ls)).getD (-60) ≤ (highest (bnds P.ls)).getD 60 := by
    cases e1 : lowest (bnds P.ls) with
    | none =>
      cases e2 : highest (bnds P.ls) with
      | none => simp
      | some y =>
        have := Ps.hi40 ok y e2
        simp
        omega
    | some x =>
      have := Ps.lo40 ok x e1
      cases e2 : highest (bnds P.ls) with
      | none =>
        simp
        omega
      | some y =>
        rw [e1, e2] at h
        simpa [leO] using h
  unfold leads
  generalize (lowest (bnds P.ls)).getD (-60) = a at key
  generalize (highest (bnds P.ls)).getD 60 = b at key
  exact List.ne_nil_of_mem (rangeI_mem.mpr ⟨Int.le_refl a, by omega⟩)
/-- what greatest_of tells of a plain set, for a row -/
def grs (ls : List Ln) (a b : Int) (r : D) : Prop := if hasPts (bnds ls) = true then (if endless (lw ls (sideO b)) a (if b < 0 then -b else b) (bnds ls) = true then r = .tuple [.str "endless"] else
  ∃ x ∈ leads (bnds ls), worth (lw ls (sideO b)) a (if b < 0 then -b else b) x = bestW (lw ls (sideO b)) a (if b < 0 then -b else b) (bnds ls) ∧ r = .tuple [.str "at", .int (bestW (lw ls (sideO b)) a (if b < 0 then -b else b) (bnds ls)), .tuple [.int x, .int (otherAt ls b x)]]) else r = .tuple [.str "none"]
def g_greatest_of (ds : List D) (Q : Rv → D → Prop) (X : XW) : Prop := ∃ v u, ds = [v, u] ∧ v.canLay0 = true ∧ ((plFits v = false ∧ X "InvalidFormula") ∨ (plFits v = true ∧ rowFit u = false ∧ X "InvalidRow") ∨
  ∃ (P : Ps) (a b : Int), v = P.enc ∧ P.ok ∧ u = .tuple [.int a, .int b] ∧ (-1000000 ≤ a ∧ a ≤ 1000000) ∧ (-1000000 ≤ b ∧ b ≤ 1000000) ∧ ∀ r, grs P.ls a b r → Q (.d r) .none)
abbrev f_greatest_of : FI := ⟨2, none, g_greatest_of⟩
theorem r_greatest_of : Reads f_greatest_of 6 (w_greatest_of_v1 f_need_plain_set f_need_row f_lines_of f_bounds_in f_has_points f_side_of f_is_endless f_best_lead f_other_at) := by
  rintro ds Q X hl ⟨v, u, rfl, lay, h⟩
  unfold w_greatest_of_v1
  refine seq_k fun K hk => ?_
  simp
  rcases h with ⟨h1, h2⟩ | ⟨h1, h2, h3⟩ | ⟨P, a, b, rfl, ok, rfl, ha, hb, hq⟩
  · exact ⟨v, rfl, lay, .inr ⟨h1, h2⟩⟩
  · refine ⟨v, rfl, lay, .inl ⟨h1, ?_⟩⟩
    simp
    refine hk _ ?_
    refine seq_k fun K hk => ?_
    simp
    exact ⟨u, rfl, .inr ⟨h2, h3⟩⟩
  have h6 := ok.many
  refine ⟨_, rfl, lay, .inl ⟨pl_yes ok, ?_⟩⟩
  simp
  refine hk _ ?_
  clear hk
  clear K
  refine seq_k fun K hk => ?_
  simp
  refine ⟨_, rfl, .inl ⟨by simp [rowFit, isWh, ha, hb], ?_⟩⟩
  simp
  refine hk _ ?_
  clear hk
  clear K
  refine seq_k fun K hk => ?_
  simp
  refine ⟨_, ⟨P, rfl, ok, rfl⟩, ?_⟩
  simp
  refine hk _ ?_
  clear hk
  clear K
  refine seq_k fun K hk => ?_
  simp
  refine ⟨_, ⟨P.ls, rfl, by omega, rfl⟩, ?_⟩
  simp
  refine ⟨⟨noLs_bo _, rfl⟩, hk _ ?_⟩
  clear hk
  clear K
  unfold grs at hq
  refine seq_k fun K hk => ?_
  simp
  refine ⟨_, ⟨bnds P.ls, rfl, Ps.bo ok, rfl⟩, ?_⟩
  cases hp : hasPts (bnds P.ls)
  · simp
    exact ⟨⟨rfl, rfl⟩, hq (.tuple [.str "none"]) (by simp [hp])⟩
  have ln := leads_ne ok hp
  simp only [hp, if_true] at hq
  simp
  refine ⟨⟨rfl, rfl⟩, hk _ ?_⟩
  clear hk
  clear K
  refine seq_k fun K hk => ?_
  simp
  refine ⟨_, ⟨P.ls, a, b, rfl, by omega, rfl⟩, ?_⟩
  simp
  refine hk _ ?_
  clear hk
  clear K
  have side : ∃ b' : Int, b' = (if b < 0 then -b else b) ∧ b'.natAbs < 2 ^ 60 := by
    refine ⟨_, rfl, ?_⟩
    split <;> omega
  obtain ⟨b', eb, hb'⟩ := side
  rw [← eb] at hq ⊢
  generalize hs : lw P.ls (sideO b) = sm at hq
  have smok : lwOk sm := by rw [← hs]; exact Ps.lwok ok _
  refine seq_k fun K hk => ?_
  simp
  refine ⟨_, ⟨sm, a, b', bnds P.ls, rfl, smok, Ps.bo ok, by omega, hb', rfl⟩, ?_⟩
  cases he : endless sm a b' (bnds P.ls)
  · simp
    refine ⟨⟨rfl, rfl⟩, hk _ ?_⟩
    clear hk
    clear K
    simp only [he] at hq
    have ne : b' > 0 → sm ≠ [] := fun h z => by
      unfold endless at he
      simp [h, z] at he
    obtain ⟨j, x, hj, hw, hno⟩ := first_idx (fun x => worth sm a b' x = bestW sm a b' (bnds P.ls)) (leads (bnds P.ls)) (by
      have := maxL_mem (l := (leads (bnds P.ls)).map (worth sm a b')) (by simpa using ln)
      obtain ⟨x, hx, e⟩ := List.mem_map.mp this
      exact ⟨x, hx, e⟩)
    refine seq_k fun K hk => ?_
    simp
    refine ⟨_, ⟨sm, a, b', bnds P.ls, j, x, rfl, smok, Ps.bo ok, by omega, hb', Ps.sml ok, Ps.smh ok, ne, hj, hw, hno, rfl⟩, ?_⟩
    simp
    refine ⟨⟨by simp [noLR, noL, noLs], rfl⟩, hk _ ?_⟩
    clear hk
    clear K
    simp
    refine ⟨_, ⟨P.ls, a, b, x, rfl, Ps.lwok ok _, Ps.lwok ok _, by omega, rfl⟩, ?_⟩
    simp
    exact hq _ (by rw [if_neg (by simp)]; exact ⟨x, List.mem_of_getElem? hj, hw, rfl⟩)
  · simp
    exact ⟨⟨rfl, rfl⟩, hq (.tuple [.str "endless"]) (by simp [he])⟩
end DL
end L2
set_option Elab.async false
set_option maxRecDepth 100000
set_option maxHeartbeats 1000000
/-! The law's own plain sets. -/
namespace L2
open PySem PySem.Spec PyProof.Rows
namespace DL
def rPlain (r : List D) (v : Rv) : Prop := ∃ P : Ps, r = [] ∧ v = .d P.enc ∧ P.ok
abbrev f__law_plain_set : FI := fnC 1 (fun r => r = []) rPlain
theorem r__law_plain_set : Reads f__law_plain_set 3 (w__law_plain_set f__law_some f__law_roll) := reads_C fun c r hc hp Q X hq => by
  subst hp
  unfold w__law_plain_set
  refine seq_k fun K hk => ?_
  simp
  refine hk _ ?_
  clear hk
  clear K
  refine seq_k fun K hk => ?_
  simp [hc]
  refine ⟨⟨_, rfl, by simp, by simp⟩, ?_⟩
  rintro v c1 hc1 ⟨m, d, e, hd, rfl⟩
  cases e
  have hd2 : ∃ n : Int, d = .int n ∧ 0 ≤ n ∧ n ≤ 6 := by
    simp at hd
    rcases hd with rfl | rfl | rfl | rfl | rfl | rfl | rfl <;> exact ⟨_, rfl, by omega, by omega⟩
  obtain ⟨n, rfl, n0, n6⟩ := hd2
  clear hd
  simp
  refine ⟨by omega, ?_⟩
  refine for_inv (fun ds σ => ∃ (c : D) (ls : List Ln) (s2 s3 : Sl), CupOk c ∧ freeSl (some s2) ∧ freeSl (some s3) ∧ ls.length + ds.length ≤ 6 ∧ (∀ l ∈ ls, lnOk l) ∧
    σ = [.io c, .own (.list (ls.map fun l => (mostL l).enc)), s2, s3]) ?_ ?_ _ _ ⟨c1, [], .un, .un, hc1, trivial, trivial, by rw [rangeD_len]; simp; omega, fun u hu => (by cases hu), rfl⟩
  · rintro d ds σ ⟨c, ls, s2, s3, hc, h2, h3, hl, hb, rfl⟩ nx hnx
    rw [List.length_cons] at hl
    refine (forTurn_def).mpr ?_
    simp only [s_gN, s_noIo]
    refine ⟨h2, ?_⟩
    refine seq_k fun K hk => ?_
    simp [hc]
    refine ⟨⟨_, rfl, by simp, by simp⟩, ?_⟩
    rintro v c2 hc2 ⟨many, a, e, rfl, a0, a1⟩
    cases e
    simp [hc2]
    refine ⟨⟨_, rfl, by simp, by simp⟩, ?_⟩
    rintro v c3 hc3 ⟨m, d3, e, hd, rfl⟩
    cases e
    have hb2 : ∃ b : Int, d3 = .int b ∧ -1 ≤ b ∧ b ≤ 1 := by
      simp at hd
      rcases hd with rfl | rfl | rfl | rfl | rfl <;> exact ⟨_, rfl, by omega, by omega⟩
    obtain ⟨b, rfl, b0, b1⟩ := hb2
    clear hd
    simp [h3]
    refine hk _ ?_
    clear hk
    clear K
    refine seq_k fun K hk => ?_
    simp [hc3]
    refine ⟨⟨_, rfl, by simp, by simp⟩, ?_⟩
    rintro v c4 hc4 ⟨many, k1, e, rfl, k10, k11⟩
    cases e
    simp [hc4]
    refine ⟨⟨_, rfl, by simp, by simp⟩, ?_⟩
    rintro v c5 hc5 ⟨many, k2, e, rfl, k20, k21⟩
    cases e
    simp [hc5]
    refine ⟨⟨_, rfl, by simp, by simp⟩, ?_⟩
    rintro v c6 hc6 ⟨many, k3, e, rfl, k30, k31⟩
    cases e
    simp [hc6]
    refine ⟨⟨_, rfl, by simp, by simp⟩, ?_⟩
    rintro v c7 hc7 ⟨m, d7, e, hd, rfl⟩
    cases e
    have hz : ∃ z : Int, d7 = .int z ∧ -20 ≤ z ∧ z ≤ 20 := by
      simp at hd
      rcases hd with rfl | rfl | rfl <;> exact ⟨_, rfl, by omega, by omega⟩
    obtain ⟨z, rfl, z0, z1⟩ := hz
    clear hd
    simp
    refine ⟨by omega, hk _ ?_⟩
    clear hk
    clear K
    have := hnx _ ⟨c7, ls ++ [(a - 3, b, z)], .val d, .val (.tuple [.int (a - 3), .int b]), hc7, trivial, trivial, by rw [List.length_append, List.length_singleton]; omega, fun l hl => by
      rcases List.mem_append.mp hl with hl | hl
      · exact hb l hl
      · rw [List.mem_singleton.mp hl]
        exact ⟨by dsimp only; omega, by dsimp only; omega, by dsimp only; omega⟩, rfl⟩
    simp [most_enc] at this
    simpa [most_enc] using this
  · rintro σ ⟨c, ls, s2, s3, hc, h2, h3, hl, hb, rfl⟩
    refine hk _ ?_
    clear hk
    clear K
    simp at hl
    have fin : Q (.d (Ps.enc ⟨false, ls⟩)) = Q (.d (.tuple [.int 2, .tuple [], .tuple [.str "and", .tuple (ls.map fun l => (mostL l).enc)]])) := by
      have : Ps.enc ⟨false, ls⟩ = .tuple [.int 2, .tuple [], .tuple [.str "and", .tuple (ls.map fun l => (mostL l).enc)]] := by
        simp [Ps.enc, Ps.fo, Fo.enc, Ps.t, Tt.enc, Tts.of_enc, Function.comp_def]
      rw [this]
    have go : ∀ c, CupOk c → Q (.d (.tuple [.int 2, .tuple [], .tuple [.str "and", .tuple (ls.map fun l => (mostL l).enc)]])) c := fun c hc => by
      rw [← fin]
      exact hq _ c hc ⟨⟨false, ls⟩, rfl, rfl, by dsimp only; omega, hb, fun z => nomatch z⟩
    refine seq_k fun K hk => ?_
    by_cases h1 : ls.length = 1
    · obtain ⟨l, rfl⟩ := List.length_eq_one_iff.mp h1
      simp [hc]
      refine ⟨⟨_, rfl, by simp, by simp⟩, ?_⟩
      rintro v c2 hc2 ⟨many, k1, e, rfl, k10, k11⟩
      cases e
      by_cases h0 : k1 = 0
      · simp [h0]
        exact hq _ c2 hc2 ⟨⟨true, [l]⟩, rfl, rfl, by simp, hb, fun _ => rfl⟩
      · simp [h0]
        refine hk _ ?_
        simp
        have := go c2 hc2
        simpa using this
    · have h1' : ¬ ((ls.length : Nat) : Int) = 1 := by omega
      simp [h1']
      refine hk _ ?_
      simp
      exact go c hc
end DL
end L2
set_option Elab.async false
set_option maxRecDepth 100000
set_option maxHeartbeats 0
namespace L2
open PySem PySem.Spec PyProof.Rows
namespace DL
def w__law_is_right_k65 (f__law_greatest f_greatest_of f_corners_of : FI) : WS :=
  (wSeq (wAsg (wTup [.ex (wCall f__law_greatest [.br 1, .br 2]), .ex (wCall f_greatest_of [.br 0, .br 2])]) (wgT 2 (wgCons (wgN 3) (wgCons (wgN 4) wgNil))))
    (wSeq (wIf (wtOr (wtB (w2 pEq (.br 3) (.ex (wC (.str "none"))))) (wtB (w2 pEq (.br 3) (.ex (wC (.str "endless")))))) (wSeq (wRet (w2 pEq (.ex (wL pRepr [.br 4])) (.ex (wL pRepr [.ex (wTup [.ex (wN 3)])]))))
    wNx) wNx)
    (wSeq (wIf (wtOr (wtNot (wtB (wIsi "tuple" (.br 4)))) (wtOr (wtB (w2 pNe (.ex (wL pLen [.br 4])) (.ex (wC (.int 3))))) (wtB (w2 pNe (.ex (wL pRepr [.ex (wSl (.br 4) .no (.ex (.ex (wC (.int 2)))))])) (.ex (wL pRepr [.ex (wTup [.ex (wC (.str "at")), .ex (wN 3)])])))))) (wSeq (wRet (wC (.bool false)))
    wNx) wNx)
    (wSeq (wSet 5 (w2 pIx (.br 4) (.ex (wC (.int 2)))))
    (wSeq (wIf (wtOr (wtNot (wtB (wIsi "tuple" (.br 5)))) (wtOr (wtB (w2 pNe (.ex (wL pLen [.br 5])) (.ex (wC (.int 2))))) (wtB (w2 pNe (.ex (wLc (wiSeq (wN 5)) [7] (wgN 7) (wtOr (wtB (wIsi "bool" (.br 7))) (wtNot (wtB (wIsi "int" (.br 7))))) (wC (.int 1)))) (.ex (wLst [])))))) (wSeq (wRet (wC (.bool false)))
    wNx) wNx)
    (wSeq (wIf (wtB (w2 pNe (.ex (wLc (wiSeq (wN 1)) [8, 9] (wgT 2 (wgCons (wgN 8) (wgCons (wgN 9) wgNil))) (wtB (w2 pGt (.ex (w2 pAdd (.ex (w2 pMulA (.ex (w2 pIx (.br 8) (.ex (wC (.int 0))))) (.ex (w2 pIx (.br 5) (.ex (wC (.int 0))))))) (.ex (w2 pMulA (.ex (w2 pIx (.br 8) (.ex (wC (.int 1))))) (.ex (w2 pIx (.br 5) (.ex (wC (.int 1))))))))) (.br 9))) (wC (.int 1)))) (.ex (wLst [])))) (wSeq (wRet (wC (.bool false)))
    wNx) wNx)
    (wSeq (wSet 6 (wCall f_corners_of [.br 0]))
    (wSeq (wIf (wtAnd (wtB (w2 pNe (.br 6) (.ex (wTup [])))) (wtB (w2 pEq (.ex (wLc (wiSeq (wN 6)) [7] (wgN 7) (wtB (w2 pEq (.ex (w2 pAdd (.ex (w2 pMulA (.ex (w2 pIx (.br 2) (.ex (wC (.int 0))))) (.ex (w2 pIx (.br 7) (.ex (wC (.int 0))))))) (.ex (w2 pMulA (.ex (w2 pIx (.br 2) (.ex (wC (.int 1))))) (.ex (w2 pIx (.br 7) (.ex (wC (.int 1))))))))) (.br 3))) (wC (.int 1)))) (.ex (wLst []))))) (wSeq (wRet (wC (.bool false)))
    wNx) wNx)
    (wSeq (wRet (w2 pEq (.ex (w2 pAdd (.ex (w2 pMulA (.ex (w2 pIx (.br 2) (.ex (wC (.int 0))))) (.ex (w2 pIx (.br 5) (.ex (wC (.int 0))))))) (.ex (w2 pMulA (.ex (w2 pIx (.br 2) (.ex (wC (.int 1))))) (.ex (w2 pIx (.br 5) (.ex (wC (.int 1))))))))) (.br 3)))
    wNx)))))))))
def w_law (f__law_cup f__law_plain_set f__law_lines f__law_is_right f__law_any_row : FI) : WS :=
  (wSeq (wSet 1 (wCall f__law_cup [.br 0]))
    (wSeq (wSet 2 (wCall f__law_plain_set [.br 1]))
    (wSeq (wSet 3 (wCall f__law_lines [.br 2]))
    (wSeq (wFor (wiRng1 (.ex (wC (.int 6)))) (wgN 4) (wSeq (wIf (wtNot (wtB (wCall f__law_is_right [.br 2, .br 3, .ex (wCall f__law_any_row [.br 1, .br 3])]))) (wSeq (wRet (wC (.bool false)))
    wNx) wNx)
    wNx))
    (wSeq (wRet (wC (.bool true)))
    wNx)))))
end DL
end L2
set_option Elab.async false
set_option maxRecDepth 100000
set_option maxHeartbeats 1000000
/-! The law's own ends, points, ways. -/
namespace L2
open PySem PySem.Spec PyProof.Rows
namespace DL
/-! ### _law_lines -/
abbrev f__law_lines : FI := fnT 1 g_lines_of
theorem r__law_lines : Reads f__law_lines 2 w__law_lines := reads_T fun ds r e Q X hq => by
  obtain ⟨P, rfl, ok, rfl⟩ := e
  have many := ok.many
  have loop : ∀ σ1 : SD, σ1.length = 3 → freeSl σ1[2]? → ∀ Q' : Rv → SD → Prop, Q' (.f (.list (P.ls.map lineD))) (restD σ1 [2] (wipeD σ1 [2])) →
      lcD noX [2] (wgN 2) wtYes (wTup [.ex (w2 pIx (.br 2) (.ex (wC (.int 1)))), .ex (w2 pIx (.br 2) (.ex (wC (.int 2))))]) (fun acc σ => Q' (.f (.list acc)) (restD σ1 [2] σ)) (P.ls.map fun l => (mostL l).enc) [] (wipeD σ1 [2]) := by
    intro σ1 h4 h3 Q' hQ
    refine lc_enc (fun l => (mostL l).enc) lineD P.ls (fun l hl A B a => ?_) (by rw [sl_eq]; omega) hQ
    rcases σ1 with _ | ⟨a0, _ | ⟨a1, _ | ⟨a2, _ | ⟨a4, σ1⟩⟩⟩⟩ <;> simp at h4
    simp [most_enc]
    simpa [lineD] using a
  unfold w__law_lines
  refine seq_k fun K hk => ?_
  simp [Ps.enc, Ps.fo, Fo.enc]
  refine hk _ ?_
  clear hk
  clear K
  obtain ⟨one, ls⟩ := P
  dsimp only at loop many ⊢
  by_cases h : one = true ∧ ls.length = 1
  · obtain ⟨rfl, h1⟩ := h
    obtain ⟨l, rfl⟩ : ∃ l, ls = [l] := List.length_eq_one_iff.mp h1
    have := loop [.val (.tuple [.int 2, .tuple [], (mostL l).enc]), .val (mostL l).enc, .un] rfl trivial (fun r _ => Q r) hq
    simp [Ps.t, most_enc] at this ⊢
    exact this
  · have et : (Ps.t ⟨one, ls⟩) = .all (Tts.of (ls.map mostL)) := by
      unfold Ps.t
      dsimp only
      split
      · rename_i l e1
        exact absurd ⟨rfl, by simp⟩ h
      · rfl
    rw [et]
    have := loop [.val (.tuple [.int 2, .tuple [], .tuple [.str "and", .tuple (ls.map fun l => (mostL l).enc)]]), .val (.tuple [.str "and", .tuple (ls.map fun l => (mostL l).enc)]), .un] rfl trivial (fun r _ => Q r) hq
    simp [Tt.enc, Tts.of_enc, Function.comp_def] at this ⊢
    exact this
/-! ### _law_ends -/
def dn (lo : Option Int) (v : Int) : Option Int := match lo with
  | none => some v
  | some l => if l < v then some v else some l
def up (hi : Option Int) (v : Int) : Option Int := match hi with
  | none => some v
  | some h => if v < h then some v else some h
def eGo (x : Int) : Option Int → Option Int → List Ln → Option (Option Int × Option Int)
  | lo, hi, [] => if leO lo hi = true then some (lo, hi) else none
  | lo, hi, l :: ls => if l.2.1 = 0 ∧ l.2.2 - l.1 * x < 0 then none else eGo x (if l.2.1 = -1 then dn lo (-(l.2.2 - l.1 * x)) else lo) (if l.2.1 = 1 then up hi (l.2.2 - l.1 * x) else hi) ls
def encE : Option (Option Int × Option Int) → D
  | none => .none
  | some p => .tuple [encO p.1, encO p.2]
def g__law_ends (ds : List D) (r : Rv) : Prop := ∃ (ls : List Ln) (x : Int), ds = [.list (ls.map lineD), .int x] ∧ (∀ l ∈ ls, lnOk l) ∧ r = .d (encE (eGo x none none ls))
abbrev f__law_ends : FI := fnT 2 g__law_ends
theorem r__law_ends : Reads f__law_ends 5 w__law_ends := reads_T fun ds r e Q X hq => by
  obtain ⟨ls, x, rfl, ok, rfl⟩ := e
  generalize hR : eGo x none none ls = R at hq
  unfold w__law_ends
  refine seq_k fun K hk => ?_
  simp
  refine hk _ ?_
  clear hk
  clear K
  refine seq_k fun K hk => ?_
  simp
  refine for_inv (fun ds σ => ∃ (l : List Ln) (lo hi : Option Int) (s4 s5 s6 : Sl), ds = l.map lineD ∧ (∀ q ∈ l, lnOk q) ∧ freeSl (some s4) ∧ freeSl (some s5) ∧ freeSl (some s6) ∧ eGo x lo hi l = R ∧
    σ = [.val (.list (ls.map lineD)), .val (.int x), .val (encO lo), .val (encO hi), s4, s5, s6]) ?_ ?_ _ _ ⟨ls, none, none, .un, .un, .un, rfl, ok, trivial, trivial, trivial, hR, rfl⟩
  · rintro d ds σ ⟨l, lo, hi, s4, s5, s6, e, okl, h4, h5, h6, hb, rfl⟩ nx hnx
    rcases l with _ | ⟨⟨a, o, c⟩, l⟩
    · cases e
    simp only [List.map_cons, List.cons.injEq] at e
    obtain ⟨rfl, rfl⟩ := e
    have ok0 := okl _ List.mem_cons_self
    obtain ⟨k1, k2, k3⟩ := ok0
    dsimp only at k1 k2 k3
    have okl' : ∀ q ∈ l, lnOk q := fun q hq => okl q (List.mem_cons_of_mem _ hq)
    have m1 : IntMulOk a x := mulOk_left (by omega) (by omega)
    have nxt : ∀ lo' hi', eGo x lo' hi' l = R → nx [.val (.list (ls.map lineD)), .val (.int x), .val (encO lo'), .val (encO hi'), .val (.tuple [.int a, .int o]), .val (.int c), .val (.int (c - a * x))] := fun lo' hi' h =>
      hnx _ ⟨l, lo', hi', .val (.tuple [.int a, .int o]), .val (.int c), .val (.int (c - a * x)), rfl, okl', trivial, trivial, trivial, h, rfl⟩
    unfold eGo at hb
    dsimp only at hb
    have hn : isN (encO hi) = decide (hi = none) := isN_enc hi
    have ln : isN (encO lo) = decide (lo = none) := isN_enc lo
    rcases (show o = 0 ∨ o = 1 ∨ o = -1 by omega) with rfl | rfl | rfl
    · by_cases neg : c - a * x < 0
      · rw [if_pos ⟨rfl, neg⟩] at hb
        simp [h4, h5, h6, lineD, m1, neg]
        rw [← hb] at hq
        exact hq
      · rw [if_neg (fun h => neg h.2)] at hb
        simp at hb
        simp [h4, h5, h6, lineD, m1, neg]
        exact nxt lo hi hb
    · rw [if_neg (fun h => by omega)] at hb
      simp at hb
      have := nxt _ _ hb
      cases hi with
      | none =>
        simp [up] at this
        simp [h4, h5, h6, lineD, m1]
        exact this
      | some v =>
        by_cases lt : c - a * x < v
        · simp [up, lt] at this
          simp [h4, h5, h6, lineD, m1, lt]
          exact this
        · simp [up, lt] at this
          simp [h4, h5, h6, lineD, m1, lt]
          exact this
    · rw [if_neg (fun h => by omega)] at hb
      simp at hb
      have := nxt _ _ hb
      cases lo with
      | none =>
        simp [dn] at this
        simp [h4, h5, h6, lineD, m1]
        exact this
      | some v =>
        by_cases lt : v < -(c - a * x)
        · simp [dn, lt] at this
          simp [h4, h5, h6, lineD, m1, lt]
          exact this
        · simp [dn, lt] at this
          simp [h4, h5, h6, lineD, m1, lt]
          exact this
  · rintro σ ⟨l, lo, hi, s4, s5, s6, e, okl, h4, h5, h6, hb, rfl⟩
    have : l = [] := by
      cases l with
      | nil => rfl
      | cons u l => cases e
    subst this
    refine hk _ ?_
    clear hk
    clear K
    unfold eGo at hb
    rw [← hb] at hq
    cases lo with
    | none => simpa [encE, leO] using hq
    | some v =>
      cases hi with
      | none => simpa [encE, leO] using hq
      | some u =>
        by_cases h : u < v
        · have h2 : ¬ v ≤ u := by omega
          simp [leO, h2, encE] at hq
          simpa [h] using hq
        · have h2 : v ≤ u := by omega
          simp [leO, h2, encE] at hq
          simpa [h] using hq
end DL
end L2
set_option Elab.async false
set_option maxRecDepth 100000
set_option maxHeartbeats 1000000
namespace L2
open PySem PySem.Spec PyProof.Rows
namespace DL
/-! ### _law_pairs -/
def pairsAt (ls : List Ln) (x : Int) : List Pr := match eGo x none none ls with
  | none => []
  | some p => [(x, p.1.getD (-900)), (x, p.2.getD 900)]
def pairs (ls : List Ln) : List Pr := (rangeI (-70) 141).flatMap (pairsAt ls)
def g__law_pairs (ds : List D) (r : Rv) : Prop := ∃ ls : List Ln, ds = [.list (ls.map lineD), .int 70] ∧ (∀ l ∈ ls, lnOk l) ∧ r = .f (.list ((pairs ls).map pairD))
abbrev f__law_pairs : FI := fnT 2 g__law_pairs
theorem pairsAt_len (ls : List Ln) (x : Int) : (pairsAt ls x).length ≤ 2 := by
  unfold pairsAt
  split <;> simp
theorem r__law_pairs : Reads f__law_pairs 3 (w__law_pairs f__law_ends) := reads_T fun ds r e Q X hq => by
  obtain ⟨ls, rfl, ok, rfl⟩ := e
  unfold w__law_pairs
  refine seq_k fun K hk => ?_
  simp
  refine hk _ ?_
  clear hk
  clear K
  refine seq_k fun K hk => ?_
  simp
  rw [rangeD_I]
  refine for_inv (fun ds σ => ∃ (xs : List Int) (acc : List Pr) (s3 s4 : Sl), ds = xs.map .int ∧ acc.length + 2 * xs.length ≤ 300 ∧ freeSl (some s3) ∧ freeSl (some s4) ∧ acc ++ xs.flatMap (pairsAt ls) = pairs ls ∧
    σ = [.val (.list (ls.map lineD)), .val (.int 70), .own (.list (acc.map pairD)), s3, s4]) ?_ ?_ _ _ ⟨rangeI (-70) 141, [], .un, .un, rfl, by simp [rangeI], trivial, trivial, rfl, rfl⟩
  · rintro d ds σ ⟨xs, acc, s3, s4, e, hl, h3, h4, hb, rfl⟩ nx hnx
    rcases xs with _ | ⟨x, xs⟩
    · cases e
    simp only [List.map_cons, List.cons.injEq] at e
    obtain ⟨rfl, rfl⟩ := e
    rw [List.length_cons] at hl
    rw [List.flatMap_cons, ← List.append_assoc] at hb
    have pl := pairsAt_len ls x
    have := fun d4 => hnx _ ⟨xs, acc ++ pairsAt ls x, .val (.int x), .val d4, rfl, by rw [List.length_append]; omega, trivial, trivial, hb, rfl⟩
    refine (forTurn_def).mpr ?_
    simp only [s_gN, s_noIo]
    refine ⟨h3, ?_⟩
    refine seq_k fun K hk => ?_
    simp
    refine ⟨_, ⟨ls, x, rfl, ok, rfl⟩, ?_⟩
    simp [h4]
    refine hk _ ?_
    clear hk
    clear K
    cases he : eGo x none none ls with
    | none =>
      have h := this .none
      simp [pairsAt, he] at h
      simp [encE]
      exact h
    | some p =>
      obtain ⟨lo, hi⟩ := p
      have h := this (.tuple [encO lo, encO hi])
      simp [pairsAt, he] at h
      simp [encE, isN_enc, nd_enc]
      cases lo <;> cases hi <;> (simp; refine ⟨by omega, ?_⟩; simpa [pairD] using h)
  · rintro σ ⟨xs, acc, s3, s4, e, hl, h3, h4, hb, rfl⟩
    have : xs = [] := by
      cases xs with
      | nil => rfl
      | cons u l => cases e
    subst this
    refine hk _ ?_
    clear hk
    clear K
    simp at hb
    subst hb
    simp
    exact hq
/-! ### _law_ways -/
def wayL : List Pr := [(0, 1), (0, -1)] ++ (rangeI (-3) 7).map (fun k => (1, k)) ++ (rangeI (-3) 7).map (fun k => (-1, k))
def isWay (ls : List Ln) (w : Pr) : Bool := ls.all fun l => decide (l.1 * w.1 + l.2.1 * w.2 ≤ 0)
def ways (ls : List Ln) : List Pr := wayL.filter (isWay ls)
def g__law_ways (ds : List D) (r : Rv) : Prop := ∃ ls : List Ln, ds = [.list (ls.map lineD)] ∧ (∀ l ∈ ls, lnOk l) ∧ ls.length ≤ 6 ∧ r = .f (.list ((ways ls).map pairD))
abbrev f__law_ways : FI := fnT 1 g__law_ways
/-- those that are above -/
theorem fm_emp {γ : Type} (p : γ → Prop) [DecidablePred p] (l : List γ) : (l.filterMap fun x => if p x then some (PyData.int 1) else none).isEmpty = l.all fun x => !decide (p x) := by
  induction l with
  | nil => rfl
  | cons x l ih =>
    rw [List.filterMap_cons, List.all_cons, ← ih]
    by_cases h : p x <;> simp [h]
theorem fm_lay {γ : Type} (p : γ → Prop) [DecidablePred p] (l : List γ) : PyData.canLayAll0 (l.filterMap fun x => if p x then some (PyData.int 1) else none) = true := by
  induction l with
  | nil => rfl
  | cons x l ih =>
    rw [List.filterMap_cons]
    by_cases h : p x <;> simp [h, PyData.canLayAll0, PyData.canLay0, ih]
theorem r__law_ways : Reads f__law_ways 5 w__law_ways := reads_T fun ds r e Q X hq => by
  obtain ⟨ls, rfl, ok, many, rfl⟩ := e
  unfold w__law_ways
  refine seq_k fun K hk => ?_
  simp
  rw [rangeD_I]
  refine lc_enc PyData.int (fun k => pairD (1, k)) _ (fun q hq A B a => ?_) (by simp [rangeI]) ?_
  · simpa [pairD] using a
  simp
  refine ⟨by simp [rangeI], ?_⟩
  refine lc_enc PyData.int (fun k => pairD (-1, k)) _ (fun q hq A B a => ?_) (by simp [rangeI]) ?_
  · simpa [pairD] using a
  simp
  refine ⟨by simp [rangeI], ?_⟩
  refine hk [_, .own (.list (wayL.map pairD)), _, _, _, _] ?_
  clear hk
  clear K
  have wl : wayL.length = 16 := by decide
  simp
  refine lc_encF pairD (fun w => if isWay ls w = true then some (pairD w) else none) wayL (fun w hw A B a => ?_) (by rw [sl_eq]; omega) ?_
  · obtain ⟨u, v⟩ := w
    simp [pairD] at a ⊢
    refine lc_encF lineD (fun l => if 0 < l.1 * u + l.2.1 * v then some (.int 1) else none) ls (fun l hl A' B' a' => ?_) (by rw [sl_eq]; omega) ?_
    · obtain ⟨p, o, c⟩ := l
      obtain ⟨k1, k2, k3⟩ := ok _ hl
      dsimp only at k1 k2 k3
      have m1 : IntMulOk p u := mulOk_left (by omega) (by omega)
      have m2 : IntMulOk o v := mulOk_left (by omega) (by omega)
      simp [lineD, m1, m2]
      by_cases h : 0 < p * u + o * v
      · simp [h] at a' ⊢
        exact a'
      · simp [h] at a' ⊢
        simpa [lineD] using a'
    · have e : isWay ls (u, v) = (ls.filterMap fun l => if 0 < l.1 * u + l.2.1 * v then some (PyData.int 1) else none).isEmpty := by
        rw [fm_emp]
        unfold isWay
        congr 1
        funext l
        rw [← decide_not]
        exact decide_eq_decide.mpr Int.not_lt.symm
      simp [PyData.canLay0, fm_lay]
      rw [e] at a
      split
      · rename_i h
        rw [if_pos (by simpa using h)] at a
        exact a
      · rename_i h
        rw [if_neg (by simpa using h)] at a
        exact a
  · have e : (wayL.filterMap fun w => if isWay ls w = true then some (pairD w) else none) = (ways ls).map pairD := by
      unfold ways
      induction wayL with
      | nil => rfl
      | cons w l ih => by_cases h : isWay ls w = true <;> simp [h, ih]
    rw [e]
    exact hq
end DL
end L2
set_option Elab.async false
set_option maxRecDepth 100000
set_option maxHeartbeats 1000000
namespace L2
open PySem PySem.Spec PyProof.Rows
namespace DL
/-! ### _law_greatest -/
theorem pairs_len (ls : List Ln) : (pairs ls).length ≤ 282 := by
  have e : ∀ l : List Int, (l.flatMap (pairsAt ls)).length ≤ 2 * l.length := fun l => by
    induction l with
    | nil => simp
    | cons x l ih =>
      rw [List.flatMap_cons, List.length_append, List.length_cons]
      have := pairsAt_len ls x
      omega
  have := e (rangeI (-70) 141)
  have l : (rangeI (-70) 141).length = 141 := by simp [rangeI]
  unfold pairs
  omega
def grow (ls : List Ln) (a b : Int) : Bool := (ways ls).any fun w => decide (0 < a * w.1 + b * w.2)
def nearP (b : Int) (p : Pr) : Bool := decide ((if p.2 < 0 then -p.2 else p.2) < 900) || decide (b = 0)
def good (ls : List Ln) (b : Int) : List Pr := (pairs ls).filter (nearP b)
def lawG (ls : List Ln) (a b : Int) : D := if pairs ls = [] then .str "none" else if grow ls a b = true then .str "endless" else .int (maxL ((good ls b).map fun p => a * p.1 + b * p.2))
def g__law_greatest (ds : List D) (r : Rv) : Prop := ∃ (ls : List Ln) (a b : Int), ds = [.list (ls.map lineD), .tuple [.int a, .int b]] ∧ (∀ l ∈ ls, lnOk l) ∧ ls.length ≤ 6 ∧ (-1000000 ≤ a ∧ a ≤ 1000000) ∧ (-1000000 ≤ b ∧ b ≤ 1000000) ∧ (pairs ls ≠ [] → grow ls a b = false → good ls b ≠ []) ∧ r = .d (lawG ls a b)
abbrev f__law_greatest : FI := fnT 2 g__law_greatest
theorem pairD_lay (p : Pr) : (pairD p).canLay0 = true := by simp [pairD, PyData.canLay0, PyData.canLayAll0]
theorem wayL_len : wayL.length = 16 := by decide
theorem ways_len (ls : List Ln) : (ways ls).length ≤ 16 := by
  have := List.length_filter_le (isWay ls) wayL
  have := wayL_len
  unfold ways
  omega
theorem r__law_greatest : Reads f__law_greatest 3 (w__law_greatest f__law_pairs f__law_ways) := reads_T fun ds r e Q X hq => by
  obtain ⟨ls, a, b, rfl, ok, many, ha, hb, ne, rfl⟩ := e
  have pl := pairs_len ls
  have wl := ways_len ls
  have plD : (PyData.list ((pairs ls).map pairD)).canLay0 = true := by
    simp only [PyData.canLay0]
    exact lay_all_of pairD pairD_lay _
  have plE : ((pairs ls).map pairD).isEmpty = (pairs ls).isEmpty := by cases pairs ls <;> rfl
  have ma : ∀ y, IntMulOk a y := fun y => mulOk_left (by omega) (by omega)
  have mb : ∀ y, IntMulOk b y := fun y => mulOk_left (by omega) (by omega)
  unfold w__law_greatest
  refine seq_k fun K hk => ?_
  simp
  refine ⟨_, ⟨ls, rfl, ok, rfl⟩, ?_⟩
  simp
  refine hk _ ?_
  clear hk
  clear K
  unfold lawG at hq
  have hgood : good ls b = (pairs ls).filter (nearP b) := rfl
  have hgrow : grow ls a b = (ways ls).any fun w => decide (0 < a * w.1 + b * w.2) := rfl
  generalize pairs ls = ps at pl plD plE hgood ne hq ⊢
  refine seq_k fun K hk => ?_
  simp [plD]
  by_cases h0 : ps = []
  · simp [h0] at hq ⊢
    exact hq
  simp only [h0, if_false] at hq
  simp [h0]
  refine hk _ ?_
  clear hk
  clear K
  refine seq_k fun K hk => ?_
  simp
  refine ⟨_, ⟨ls, rfl, ok, many, rfl⟩, ?_⟩
  generalize ways ls = ws at wl hgrow
  simp
  refine lc_encF pairD (fun w => if 0 < a * w.1 + b * w.2 then some (.int 1) else none) ws (fun w hw A B h => ?_) (by rw [sl_eq]; omega) ?_
  · obtain ⟨u, v⟩ := w
    simp [pairD, ma, mb]
    by_cases g : 0 < a * u + b * v
    · simp [g] at h ⊢
      exact h
    · simp [g] at h ⊢
      simpa [pairD] using h
  simp [PyData.canLay0, fm_lay]
  have e : (ws.filterMap fun w => if 0 < a * w.1 + b * w.2 then some (PyData.int 1) else none).isEmpty = !grow ls a b := by
    rw [fm_emp, hgrow, List.not_any_eq_all_not]
  cases hg : grow ls a b
  · rw [hg, Bool.not_false, List.isEmpty_iff] at e
    simp [hg] at hq
    have ne1 := ne h0 hg
    rw [if_pos e]
    refine hk _ ?_
    clear hk
    clear K
    have ll : (good ls b).length ≤ ps.length := by
      rw [hgood]
      exact List.length_filter_le _ _
    simp
    refine lc_encF pairD (fun p => if nearP b p = true then some (.int (a * p.1 + b * p.2)) else none) ps (fun p hp A B h => ?_) (by rw [sl_eq]; omega) ?_
    · obtain ⟨u, v⟩ := p
      simp [pairD, ma, mb]
      by_cases c1 : (if v < 0 then -v else v) < 900
      · simp [nearP, c1] at h
        simp [c1]
        simpa using h
      · by_cases c2 : b = 0
        · simp [nearP, c1, c2] at h
          simp [c1, c2]
          simpa using h
        · simp [nearP, c1, c2] at h
          simp [c1, c2]
          simpa [pairD] using h
    · have e2 : (ps.filterMap fun p => if nearP b p = true then some (PyData.int (a * p.1 + b * p.2)) else none) = ((good ls b).map fun p => a * p.1 + b * p.2).map .int := by
        rw [hgood]
        clear hq hgood ne1 ne h0 ll plD plE pl e
        induction ps with
        | nil => rfl
        | cons w l ih =>
          rw [List.map_map] at ih ⊢
          by_cases h : nearP b w = true <;> simp [h, ih]
      rw [e2]
      exact ⟨_, intsD_map _, by simpa using ne1, hq⟩
  · have e : ¬ _ = [] := fun z => by
      rw [← List.isEmpty_iff, e, hg] at z
      cases z
    simp [hg] at hq
    rw [if_neg e]
    exact hq
/-! ### _law_any_row -/
def pAnyRow (r : List D) : Prop := ∃ ls : List Ln, r = [.list (ls.map lineD)] ∧ (∀ l ∈ ls, lnOk l) ∧ ls.length ≤ 6
def rAnyRow (_ : List D) (v : Rv) : Prop := ∃ a b : Int, v = .d (.tuple [.int a, .int b]) ∧ (-1000000 ≤ a ∧ a ≤ 1000000) ∧ (-1000000 ≤ b ∧ b ≤ 1000000)
abbrev f__law_any_row : FI := fnC 2 pAnyRow rAnyRow
theorem r__law_any_row : Reads f__law_any_row 7 (w__law_any_row f__law_roll f__law_some) := reads_C fun c r hc hp Q X hq => by
  obtain ⟨ls, rfl, ok, many⟩ := hp
  unfold w__law_any_row
  refine seq_k fun K hk => ?_
  simp [hc]
  refine ⟨⟨_, rfl, by simp, by simp⟩, ?_⟩
  rintro v c1 hc1 ⟨m, x, e, rfl, x0, x1⟩
  cases e
  simp [hc1]
  refine ⟨⟨_, rfl, by simp, by simp⟩, ?_⟩
  rintro v c2 hc2 ⟨m, y, e, rfl, y0, y1⟩
  cases e
  simp
  refine hk _ ?_
  clear hk
  clear K
  refine seq_k fun K hk => ?_
  simp
  refine lc_enc lineD (fun l => .tuple [.int l.1, .int l.2.1]) ls (fun l hl A B a => ?_) (by rw [sl_eq]; omega) ?_
  · obtain ⟨p, o, k⟩ := l
    simpa [lineD] using a
  simp
  refine ⟨by omega, ?_⟩
  obtain ⟨rows, hrows⟩ : ∃ rows, rows = (ls.map fun l => PyData.tuple [.int l.1, .int l.2.1]) ++ [.tuple [.int (x - 6), .int (y - 4)]] := ⟨_, rfl⟩
  have rl : rows.length ≤ 7 := by rw [hrows]; simp; omega
  have rn : rows ≠ [] := by rw [hrows]; simp
  have rm : ∀ d ∈ rows, ∃ p o : Int, d = .tuple [.int p, .int o] ∧ (-6 ≤ p ∧ p ≤ 6) ∧ (-4 ≤ o ∧ o ≤ 4) := fun d hd => by
    rw [hrows] at hd
    rcases List.mem_append.mp hd with hd | hd
    · obtain ⟨l, hl, rfl⟩ := List.mem_map.mp hd
      obtain ⟨k1, k2, k3⟩ := ok l hl
      exact ⟨_, _, rfl, by omega, by omega⟩
    · rw [List.mem_singleton.mp hd]
      exact ⟨_, _, rfl, by omega, by omega⟩
  rw [← hrows]
  clear hrows
  refine hk _ ?_
  clear hk
  clear K
  refine seq_k fun K hk => ?_
  simp [hc2]
  refine ⟨⟨_, rfl, rn, by omega⟩, ?_⟩
  rintro v c3 hc3 ⟨m, d1, e, h1, rfl⟩
  cases e
  obtain ⟨p1, o1, rfl, b1, b2⟩ := rm _ h1
  clear h1
  simp [hc3]
  refine ⟨⟨_, rfl, rn, by omega⟩, ?_⟩
  rintro v c4 hc4 ⟨m, d2, e, h2, rfl⟩
  cases e
  obtain ⟨p2, o2, rfl, b3, b4⟩ := rm _ h2
  clear h2
  simp [hc4]
  refine ⟨⟨_, rfl, by simp, by simp⟩, ?_⟩
  rintro v c5 hc5 ⟨m, k, e, rfl, k0, k1⟩
  cases e
  simp
  refine hk _ ?_
  clear hk
  clear K
  refine seq_k fun K hk => ?_
  have mm : IntMulOk 2 1000000 := mulOk_left (by omega) (by omega)
  simp [hc5, mm]
  refine ⟨⟨_, rfl, by simp, by simp⟩, ?_⟩
  rintro v c6 hc6 ⟨m, g1, e, rfl, g10, g11⟩
  cases e
  simp [hc6, mm]
  refine ⟨⟨_, rfl, by simp, by simp⟩, ?_⟩
  rintro v c7 hc7 ⟨m, g2, e, rfl, g20, g21⟩
  cases e
  simp
  refine hk _ ?_
  clear hk
  clear K
  have mk : ∀ y, IntMulOk k y := fun y => mulOk_left (by omega) (by omega)
  simp [hc7, mk]
  refine ⟨⟨_, rfl, by simp, by simp⟩, ?_⟩
  rintro v c8 hc8 ⟨m, d, e, hd, rfl⟩
  cases e
  refine hq _ _ hc8 ?_
  have kb : ∀ z B : Int, 0 ≤ B → -B ≤ z → z ≤ B → -(3 * B) ≤ k * z ∧ k * z ≤ 3 * B := fun z B hB h1 h2 => by
    rcases (show k = 0 ∨ k = 1 ∨ k = 2 ∨ k = 3 by omega) with rfl | rfl | rfl | rfl <;> omega
  have q1 := kb p1 6 (by omega) (by omega) (by omega)
  have q2 := kb o1 4 (by omega) (by omega) (by omega)
  simp at hd
  rcases hd with rfl | rfl | rfl | rfl | rfl | rfl | rfl <;> exact ⟨_, _, rfl, by omega, by omega⟩
end DL
end L2
set_option Elab.async false
set_option maxRecDepth 100000
set_option maxHeartbeats 1000000
/-! repr -/
namespace L2
open PySem PySem.Spec PyProof.Rows
namespace DL
@[simp] theorem q_reprt {l : List D} {Q : Rv → Prop} : pRepr [.tuple l] Q ↔ (PyData.tuple l).showable = true ∧ (PyData.tuple l).hasDict = false ∧ (PyData.tuple l).depth ≤ 60 ∧ (PyData.tuple l).shown.length ≤ sizeLine ∧ Q (.d (.str (PyData.tuple l).shown)) := by
  unfold pRepr
  simp
theorem strOk_of (s : String) : PyData.strOk (Str.ofString s) = true := by
  rw [Str.ofString_eq_toList]
  simp only [PyData.strOk]
  rw [List.all_toArray, List.all_eq_true]
  intro n hn
  obtain ⟨c, hc, rfl⟩ := List.mem_map.mp hn
  have := c.valid
  have h2 : c.toNat < 0x110000 := by
    rcases this with h | ⟨_, h⟩
    · have : c.toNat < 0xd800 := h
      omega
    · exact h
  exact decide_eq_true h2
theorem strOk_app {a b : Str} (h1 : PyData.strOk a = true) (h2 : PyData.strOk b = true) : PyData.strOk (a ++ b) = true := by
  have e : (a ++ b).cps = a.cps ++ b.cps := rfl
  unfold PyData.strOk at *
  rw [e, Array.all_append, h1, h2]
  rfl
theorem at_shown (n : Int) : (PyData.tuple [.str "at", .int n]).canLay0 = true ∧ PyData.strOk (PyData.shown (.tuple [.str "at", .int n])) = true := by
  refine ⟨by simp only [PyData.canLay0, PyData.canLayAll0, Bool.and_true]; decide +kernel, ?_⟩
  have e : PyData.shown (.tuple [.str "at", .int n]) = ("(" : Str) ++ (reprText "at" ++ (", " : Str) ++ Str.ofString (toString n)) ++ (")" : Str) := rfl
  rw [e]
  refine strOk_app (strOk_app (by decide +kernel) (strOk_app (strOk_app (by decide +kernel) (by decide +kernel)) (strOk_of _))) (by decide +kernel)
theorem at_facts {n : Int} (h : n.natAbs < 10 ^ 12) : (PyData.tuple [.str "at", .int n]).showable = true ∧ (PyData.tuple [.str "at", .int n]).hasDict = false ∧ (PyData.tuple [.str "at", .int n]).depth ≤ 60 ∧ (PyData.tuple [.str "at", .int n]).shown.length ≤ sizeLine ∧ (PyData.str (PyData.tuple [.str "at", .int n]).shown).canLay0 = true := by
  refine ⟨?_, rfl, by simp [PyData.depth, PyData.depthAll], ?_, (at_shown n).2⟩
  · simp only [PyData.showable, PyData.showableAll, Bool.and_true, Bool.true_and]
    refine decide_eq_true ?_
    have := PySem.Flt.log2_lt_of (k := 40) (by decide) (show n.natAbs < 2 ^ 40 by omega)
    omega
  · refine PyData.shown_fits_of_layable0 (B := 13) (by decide) (by decide) ?_ ?_
    · unfold PyData.layable0
      simp only [Bool.and_eq_true, decide_eq_true_eq]
      refine ⟨⟨(at_shown n).1, by simp [PyData.depth, PyData.depthAll]⟩, ?_⟩
      simp only [PyData.weight, PyData.weightAll]
      have e : (Str.ofString "at").cps.size = 2 := by decide +kernel
      rw [e]
      have := PySem.Flt.log2_lt_of (k := 40) (by decide) (show n.natAbs < 2 ^ 40 by omega)
      split <;> omega
    · simp only [PyData.intsShort, PyData.intsShortAll, Bool.and_true, Bool.true_and]
      exact decide_eq_true (PyData.shown_int_le h)
def wordFacts (d : D) : Prop := d.showable = true ∧ d.hasDict = false ∧ d.depth ≤ 60 ∧ d.shown.length ≤ sizeLine ∧ (PyData.str d.shown).canLay0 = true
theorem none_facts : wordFacts (.tuple [.str "none"]) := ⟨rfl, rfl, by decide, by rw [sizeLine_eq]; decide +kernel, by decide +kernel⟩
theorem endless_facts : wordFacts (.tuple [.str "endless"]) := ⟨rfl, rfl, by decide, by rw [sizeLine_eq]; decide +kernel, by decide +kernel⟩
end DL
end L2
set_option Elab.async false
set_option maxRecDepth 100000
set_option maxHeartbeats 1000000
/-! Ends and leads, in plain numbers. -/
namespace L2
open PySem PySem.Spec PyProof.Rows
namespace DL
def vals (ls : List Ln) (o x : Int) : List Int := ls.filterMap fun l => if l.2.1 = o then some (l.2.2 - l.1 * x) else none
theorem vals_lw (ls : List Ln) (o x : Int) : (lw ls o).map (fun q => q.2.2 - q.2.1 * x) = vals ls o x := by
  unfold lw vals
  have e : ∀ (l : List Ln) (n : Nat), ((l.zipIdx n).filterMap fun p : Ln × Nat => if p.1.2.1 = o then some ((p.2, p.1.1, p.1.2.2) : Lw) else none).map (fun q => q.2.2 - q.2.1 * x) = l.filterMap fun l => if l.2.1 = o then some (l.2.2 - l.1 * x) else none := fun l => by
    induction l with
    | nil => intro n; rfl
    | cons u l ih =>
      intro n
      rw [List.zipIdx_cons, List.filterMap_cons, List.filterMap_cons]
      by_cases h : u.2.1 = o
      · simp only [h, if_true, List.map_cons, ih]
      · simp only [h, if_false, ih]
  exact e ls 0
theorem top_vals (ls : List Ln) (o x : Int) : topAt (lw ls o) x = minL (vals ls o x) := by
  unfold topAt
  rw [vals_lw]
theorem lw_nil {ls : List Ln} {o : Int} (x : Int) : lw ls o = [] ↔ vals ls o x = [] := by
  rw [← vals_lw]
  simp
theorem lw_nil' {ls : List Ln} {o : Int} : lw ls o = [] ↔ ∀ l ∈ ls, l.2.1 ≠ o := by
  rw [lw_nil 0]
  unfold vals
  rw [List.filterMap_eq_nil_iff]
  constructor
  · intro h l hl e
    have := h l hl
    rw [if_pos e] at this
    cases this
  · intro h l hl
    rw [if_neg (h l hl)]
theorem up_fold : ∀ (l : List Int) (h : Int), l.foldl up (some h) = some (minL (h :: l))
  | [], h => rfl
  | v :: l, h => by
    rw [List.foldl_cons]
    have : up (some h) v = some (if v < h then v else h) := by
      simp only [up]
      split <;> rfl
    rw [this, up_fold l]
    congr 1
    have w0 : (if v < h then v else h) ≤ v := by split <;> omega
    have w1' : (if v < h then v else h) ≤ h := by split <;> omega
    have w2' : (if v < h then v else h) = v ∨ (if v < h then v else h) = h := by split <;> simp
    generalize (if v < h then v else h) = w at w0 w1' w2'
    have a := minL_spec w l
    have b := minL_spec h (v :: l)
    have aw := a.2 _ List.mem_cons_self
    apply Int.le_antisymm
    · rcases List.mem_cons.mp b.1 with e | e
      · rw [e]
        omega
      · rcases List.mem_cons.mp e with e | e
        · rw [e]
          omega
        · exact a.2 _ (List.mem_cons_of_mem _ e)
    · have bv := b.2 v (by simp)
      have bh := b.2 h (by simp)
      rcases List.mem_cons.mp a.1 with e | e
      · rw [e]
        rcases w2' with e2 | e2 <;> omega
      · exact b.2 _ (by simp [e])
theorem dn_up : ∀ (l : List Int) (o : Option Int), l.foldl (fun a v => dn a (-v)) (o.map Neg.neg) = (l.foldl up o).map Neg.neg
  | [], o => rfl
  | v :: l, o => by
    rw [List.foldl_cons, List.foldl_cons, ← dn_up l]
    congr 1
    cases o with
    | none => rfl
    | some h =>
      simp only [up, dn, Option.map_some]
      by_cases c : v < h
      · rw [if_pos c, if_pos (by omega)]
        rfl
      · rw [if_neg c, if_neg (by omega)]
        rfl
def hiOf (ls : List Ln) (x : Int) : Option Int := if lw ls 1 = [] then none else some (topAt (lw ls 1) x)
def loOf (ls : List Ln) (x : Int) : Option Int := if lw ls (-1) = [] then none else some (-topAt (lw ls (-1)) x)
theorem fold_top (ls : List Ln) (o x : Int) : (vals ls o x).foldl up none = if lw ls o = [] then none else some (topAt (lw ls o) x) := by
  rw [top_vals]
  by_cases h : lw ls o = []
  · rw [if_pos h, (lw_nil x).mp h]
    rfl
  · rw [if_neg h]
    have : vals ls o x ≠ [] := fun z => h ((lw_nil x).mpr z)
    cases e : vals ls o x with
    | nil => exact absurd e this
    | cons v l => exact up_fold l v
/-- the rows without the other letter -/
def zOk (ls : List Ln) (x : Int) : Prop := ∀ l ∈ ls, l.2.1 = 0 → l.1 * x ≤ l.2.2
open Classical in
theorem eGo_eq (x : Int) : ∀ (ls : List Ln) (lo hi : Option Int), eGo x lo hi ls = if zOk ls x ∧ leO ((vals ls (-1) x).foldl (fun a v => dn a (-v)) lo) ((vals ls 1 x).foldl up hi) = true then some ((vals ls (-1) x).foldl (fun a v => dn a (-v)) lo, (vals ls 1 x).foldl up hi) else none
  | [], lo, hi => by
    have z : zOk [] x := fun l h => nomatch h
    simp [eGo, vals, z]
  | l :: ls, lo, hi => by
    rw [eGo]
    by_cases h : l.2.1 = 0 ∧ l.2.2 - l.1 * x < 0
    · rw [if_pos h, if_neg]
      rintro ⟨z, -⟩
      have := z l List.mem_cons_self h.1
      omega
    · rw [if_neg h, eGo_eq x ls]
      have z : zOk (l :: ls) x ↔ zOk ls x := by
        constructor
        · exact fun z q hq => z q (List.mem_cons_of_mem _ hq)
        · intro z q hq e
          rcases List.mem_cons.mp hq with rfl | hq
          · have : ¬ (q.2.2 - q.1 * x < 0) := fun c => h ⟨e, c⟩
            omega
          · exact z q hq e
      have v1 : (vals (l :: ls) (-1) x).foldl (fun a v => dn a (-v)) lo = (vals ls (-1) x).foldl (fun a v => dn a (-v)) (if l.2.1 = -1 then dn lo (-(l.2.2 - l.1 * x)) else lo) := by
        unfold vals
        rw [List.filterMap_cons]
        by_cases c : l.2.1 = -1 <;> simp only [c, if_true, if_false, List.foldl_cons]
      have v2 : (vals (l :: ls) 1 x).foldl up hi = (vals ls 1 x).foldl up (if l.2.1 = 1 then up hi (l.2.2 - l.1 * x) else hi) := by
        unfold vals
        rw [List.filterMap_cons]
        by_cases c : l.2.1 = 1 <;> simp only [c, if_true, if_false, List.foldl_cons]
      rw [v1, v2]
      simp only [z]
open Classical in
theorem ends_eq (ls : List Ln) (x : Int) : eGo x none none ls = if zOk ls x ∧ leO (loOf ls x) (hiOf ls x) = true then some (loOf ls x, hiOf ls x) else none := by
  have h1 : (vals ls (-1) x).foldl (fun a v => dn a (-v)) none = loOf ls x := by
    have := dn_up (vals ls (-1) x) none
    rw [fold_top] at this
    rw [show (none : Option Int) = (none : Option Int).map Neg.neg from rfl, this]
    unfold loOf
    split <;> rfl
  have h2 : (vals ls 1 x).foldl up none = hiOf ls x := fold_top ls 1 x
  rw [eGo_eq, h1, h2]
/-- the lead has a point -/
def Fe (ls : List Ln) (x : Int) : Prop := ∀ q ∈ bnds ls, q.2.1 * x ≤ q.2.2
theorem fe_bnds (ls : List Ln) (x : Int) : Fe ls x ↔ (∀ q ∈ lw ls 0, q.2.1 * x ≤ q.2.2) ∧ ∀ u ∈ lw ls 1, ∀ d ∈ lw ls (-1), (u.2.1 + d.2.1) * x ≤ u.2.2 + d.2.2 := by
  unfold Fe bnds
  constructor
  · intro h
    refine ⟨fun q hq => h ([q.1], q.2.1, q.2.2) ?_, fun u hu d hd => h ([u.1, d.1], u.2.1 + d.2.1, u.2.2 + d.2.2) ?_⟩
    · exact List.mem_append.mpr (.inl (List.mem_map.mpr ⟨q, hq, rfl⟩))
    · exact List.mem_append.mpr (.inr (List.mem_flatMap.mpr ⟨u, hu, List.mem_map.mpr ⟨d, hd, rfl⟩⟩))
  · rintro ⟨h1, h2⟩ q hq
    rcases List.mem_append.mp hq with hq | hq
    · obtain ⟨p, hp, rfl⟩ := List.mem_map.mp hq
      exact h1 p hp
    · obtain ⟨u, hu, hq⟩ := List.mem_flatMap.mp hq
      obtain ⟨d, hd, rfl⟩ := List.mem_map.mp hq
      exact h2 u hu d hd
theorem fe_iff (ls : List Ln) (x : Int) : Fe ls x ↔ zOk ls x ∧ leO (loOf ls x) (hiOf ls x) = true := by
  rw [fe_bnds]
  have a : (∀ q ∈ lw ls 0, q.2.1 * x ≤ q.2.2) ↔ zOk ls x := by
    constructor
    · rintro h ⟨a, o, c⟩ hl e
      simp only at e
      subst e
      obtain ⟨k, hk⟩ := lw_mem' hl
      exact h _ hk
    · intro h q hq
      exact h _ (lw_mem hq) rfl
  have b : (∀ u ∈ lw ls 1, ∀ d ∈ lw ls (-1), (u.2.1 + d.2.1) * x ≤ u.2.2 + d.2.2) ↔ leO (loOf ls x) (hiOf ls x) = true := by
    unfold loOf hiOf
    by_cases h1 : lw ls 1 = []
    · simp [h1, leO]
    by_cases h2 : lw ls (-1) = []
    · simp [h2, leO]
    rw [if_neg h1, if_neg h2]
    simp only [leO, decide_eq_true_eq]
    constructor
    · intro h
      obtain ⟨u, hu, eu⟩ := top_mem h1 x
      obtain ⟨d, hd, ed⟩ := top_mem h2 x
      have := h u hu d hd
      rw [Int.add_mul] at this
      omega
    · intro h u hu d hd
      have h3 := top_le hu x
      have h4 := top_le hd x
      rw [Int.add_mul]
      omega
  rw [a, b]
open Classical in
theorem pairsAt_eq (ls : List Ln) (x : Int) : pairsAt ls x = if Fe ls x then [(x, (loOf ls x).getD (-900)), (x, (hiOf ls x).getD 900)] else [] := by
  unfold pairsAt
  rw [ends_eq]
  by_cases h : Fe ls x
  · rw [if_pos ((fe_iff ls x).mp h), if_pos h]
  · rw [if_neg (fun z => h ((fe_iff ls x).mpr z)), if_neg h]
theorem mem_pairs {ls : List Ln} {p : Pr} : p ∈ pairs ls ↔ (-70 ≤ p.1 ∧ p.1 ≤ 70) ∧ Fe ls p.1 ∧ (p.2 = (loOf ls p.1).getD (-900) ∨ p.2 = (hiOf ls p.1).getD 900) := by
  unfold pairs
  rw [List.mem_flatMap]
  constructor
  · rintro ⟨x, hx, hp⟩
    rw [rangeI_mem] at hx
    rw [pairsAt_eq] at hp
    split at hp
    · rename_i f
      simp only [List.mem_cons, List.not_mem_nil, or_false] at hp
      rcases hp with rfl | rfl
      · exact ⟨by dsimp only; omega, f, .inl rfl⟩
      · exact ⟨by dsimp only; omega, f, .inr rfl⟩
    · cases hp
  · rintro ⟨hx, f, h⟩
    refine ⟨p.1, by rw [rangeI_mem]; omega, ?_⟩
    rw [pairsAt_eq, if_pos f]
    obtain ⟨x, y⟩ := p
    dsimp only at h ⊢
    rcases h with rfl | rfl <;> simp
/-! ### leads -/
theorem high_none {bs : List Bo} : highest bs = none ↔ ∀ q ∈ bs, q.2.1 ≤ 0 := by
  have e : highest bs = none ↔ highs bs = [] := by
    unfold highest
    cases highs bs <;> simp
  rw [e]
  unfold highs
  rw [List.filterMap_eq_nil_iff]
  refine ⟨fun h q hq => ?_, fun h q hq => if_neg (by have := h q hq; omega)⟩
  have := h q hq
  split at this
  · cases this
  · omega
theorem low_none {bs : List Bo} : lowest bs = none ↔ ∀ q ∈ bs, 0 ≤ q.2.1 := by
  have e : lowest bs = none ↔ lows bs = [] := by
    unfold lowest
    cases lows bs <;> simp
  rw [e]
  unfold lows
  rw [List.filterMap_eq_nil_iff]
  refine ⟨fun h q hq => ?_, fun h q hq => if_neg (by have := h q hq; omega)⟩
  have := h q hq
  split at this
  · cases this
  · omega
theorem high_le {bs : List Bo} (x : Int) : (∀ h, highest bs = some h → x ≤ h) ↔ ∀ q ∈ bs, 0 < q.2.1 → q.2.1 * x ≤ q.2.2 := by
  have e : (∀ h, highest bs = some h → x ≤ h) ↔ ∀ v ∈ highs bs, x ≤ v := by
    unfold highest
    cases hh : highs bs with
    | nil => simp
    | cons v l =>
      have := minL_spec v l
      constructor
      · intro h w hw
        have := h _ rfl
        have := (minL_spec v l).2 w hw
        omega
      · intro h w e
        cases e
        exact h _ this.1
  rw [e]
  unfold highs
  constructor
  · intro h q hq h0
    rw [le_fdiv h0]
    exact h _ (List.mem_filterMap.mpr ⟨q, hq, if_pos h0⟩)
  · intro h v hv
    obtain ⟨q, hq, e⟩ := List.mem_filterMap.mp hv
    split at e
    · rename_i h0
      cases e
      rw [← le_fdiv h0]
      exact h q hq h0
    · cases e
theorem low_le {bs : List Bo} (x : Int) : (∀ l, lowest bs = some l → l ≤ x) ↔ ∀ q ∈ bs, q.2.1 < 0 → q.2.1 * x ≤ q.2.2 := by
  have e : (∀ h, lowest bs = some h → h ≤ x) ↔ ∀ v ∈ lows bs, v ≤ x := by
    unfold lowest
    cases hh : lows bs with
    | nil => simp
    | cons v l =>
      have := maxL_spec v l
      constructor
      · intro h w hw
        have := h _ rfl
        have := (maxL_spec v l).2 w hw
        omega
      · intro h w e
        cases e
        exact h _ this.1
  rw [e]
  unfold lows
  have k : ∀ q : Bo, q.2.1 < 0 → (q.2.1 * x ≤ q.2.2 ↔ -(q.2.2.fdiv (-q.2.1)) ≤ x) := fun q h0 => by
    have := le_fdiv (c := -q.2.1) (k := q.2.2) (x := -x) (by omega)
    rw [Int.neg_mul_neg] at this
    rw [this]
    omega
  constructor
  · intro h q hq h0
    rw [k q h0]
    exact h _ (List.mem_filterMap.mpr ⟨q, hq, if_pos h0⟩)
  · intro h v hv
    obtain ⟨q, hq, e⟩ := List.mem_filterMap.mp hv
    split at e
    · rename_i h0
      cases e
      rw [← k q h0]
      exact h q hq h0
    · cases e
def z0 (bs : List Bo) : Prop := ∀ q ∈ bs, q.2.1 = 0 → 0 ≤ q.2.2
theorem fe_leads (ls : List Ln) (x : Int) : Fe ls x ↔ z0 (bnds ls) ∧ (∀ h, highest (bnds ls) = some h → x ≤ h) ∧ ∀ l, lowest (bnds ls) = some l → l ≤ x := by
  rw [high_le, low_le]
  unfold Fe z0
  constructor
  · intro h
    refine ⟨fun q hq e => ?_, fun q hq _ => h q hq, fun q hq _ => h q hq⟩
    have := h q hq
    rw [e, Int.zero_mul] at this
    exact this
  · rintro ⟨h1, h2, h3⟩ q hq
    rcases Int.lt_trichotomy q.2.1 0 with h | h | h
    · exact h3 q hq h
    · rw [h, Int.zero_mul]
      exact h1 q hq h
    · exact h2 q hq h
theorem has_iff (bs : List Bo) : hasPts bs = true ↔ z0 bs ∧ leO (lowest bs) (highest bs) = true := by
  unfold hasPts z0
  rw [Bool.and_eq_true, Bool.not_eq_true', List.any_eq_false]
  refine and_congr ⟨fun h q hq e => ?_, fun h q hq e => ?_⟩ Iff.rfl
  · have := h q hq
    simp [e] at this
    exact this
  · simp at e
    have := h q hq e.1
    omega
end DL
end L2
set_option Elab.async false
set_option maxRecDepth 100000
set_option maxHeartbeats 1000000
/-! Endless sums. -/
namespace L2
open PySem PySem.Spec PyProof.Rows
namespace DL
def sg (s : Int) : Prop := s = 1 ∨ s = -1
theorem far_s {sm : List Lw} (ne : sm ≠ []) (h : ∀ q ∈ sm, (-3 ≤ q.2.1 ∧ q.2.1 ≤ 3) ∧ (-20 ≤ q.2.2 ∧ q.2.2 ≤ 20)) {s : Int} (hs : sg s) :
    ∃ m, (-3 ≤ m ∧ m ≤ 3) ∧ (∀ q ∈ sm, q.2.1 * s ≤ m) ∧ (∃ q ∈ sm, q.2.1 * s = m) ∧ topAt sm (61 * s) - topAt sm (60 * s) = -m := by
  obtain ⟨p, hp, e1⟩ := top_mem ne (60 * s)
  obtain ⟨r, hr, e2⟩ := top_mem ne (61 * s)
  have cm : ∀ (q : Lw) (n : Int), q.2.1 * (n * s) = n * (q.2.1 * s) := fun q n => Int.mul_left_comm _ _ _
  have sm3 : ∀ q : Lw, (-3 ≤ q.2.1 ∧ q.2.1 ≤ 3) → -3 ≤ q.2.1 * s ∧ q.2.1 * s ≤ 3 := fun q hq => by
    rcases hs with rfl | rfl <;> omega
  rw [cm] at e1 e2
  have hp2 := h p hp
  have hr2 := h r hr
  have mx : ∀ q ∈ sm, q.2.1 * s ≤ p.2.1 * s := fun q hq => by
    have := top_le hq (60 * s)
    rw [cm] at this
    have := h q hq
    omega
  have mr : p.2.1 * s ≤ r.2.1 * s := by
    have := top_le hp (61 * s)
    rw [cm] at this
    omega
  have h5 := top_le hp (61 * s)
  have h6 := top_le hr (60 * s)
  rw [cm] at h5 h6
  have := mx r hr
  exact ⟨p.2.1 * s, sm3 p hp2.1, mx, ⟨p, hp, rfl⟩, by omega⟩
theorem way_iff {ls : List Ln} (ok : ∀ l ∈ ls, lnOk l) {o : Int} (ho : sg o) (s k : Int) : isWay ls (s, k) = true ↔ (∀ q ∈ lw ls 0, q.2.1 * s ≤ 0) ∧ (∀ q ∈ lw ls o, q.2.1 * s + o * k ≤ 0) ∧ ∀ q ∈ lw ls (-o), q.2.1 * s - o * k ≤ 0 := by
  unfold isWay
  simp only [List.all_eq_true, decide_eq_true_eq]
  constructor
  · intro h
    refine ⟨fun q hq => ?_, fun q hq => ?_, fun q hq => ?_⟩
    · have := h _ (lw_mem hq)
      simp only [Int.zero_mul] at this
      omega
    · exact h _ (lw_mem hq)
    · have := h _ (lw_mem hq)
      simp only [Int.neg_mul] at this
      omega
  · rintro ⟨h1, h2, h3⟩ ⟨a, c, d⟩ hl
    obtain ⟨k1, k2, k3⟩ := ok _ hl
    dsimp only at k1 k2 k3 ⊢
    by_cases e0 : c = 0
    · subst e0
      obtain ⟨j, hj⟩ := lw_mem' hl
      have := h1 _ hj
      simp only [Int.zero_mul] at this ⊢
      omega
    · by_cases e1 : c = o
      · subst e1
        obtain ⟨j, hj⟩ := lw_mem' hl
        exact h2 _ hj
      · have e2 : c = -o := by rcases ho with rfl | rfl <;> omega
        subst e2
        obtain ⟨j, hj⟩ := lw_mem' hl
        have := h3 _ hj
        simp only [Int.neg_mul] at this ⊢
        omega
theorem bn_iff {ls : List Ln} {o : Int} (ho : sg o) (s : Int) : (∀ q ∈ bnds ls, q.2.1 * s ≤ 0) ↔ (∀ q ∈ lw ls 0, q.2.1 * s ≤ 0) ∧ ∀ u ∈ lw ls o, ∀ d ∈ lw ls (-o), u.2.1 * s + d.2.1 * s ≤ 0 := by
  have key : (∀ q ∈ bnds ls, q.2.1 * s ≤ 0) ↔ (∀ q ∈ lw ls 0, q.2.1 * s ≤ 0) ∧ ∀ u ∈ lw ls 1, ∀ d ∈ lw ls (-1), u.2.1 * s + d.2.1 * s ≤ 0 := by
    unfold bnds
    constructor
    · intro h
      refine ⟨fun q hq => h ([q.1], q.2.1, q.2.2) ?_, fun u hu d hd => ?_⟩
      · exact List.mem_append.mpr (.inl (List.mem_map.mpr ⟨q, hq, rfl⟩))
      · have := h ([u.1, d.1], u.2.1 + d.2.1, u.2.2 + d.2.2) (List.mem_append.mpr (.inr (List.mem_flatMap.mpr ⟨u, hu, List.mem_map.mpr ⟨d, hd, rfl⟩⟩)))
        rw [← Int.add_mul]
        exact this
    · rintro ⟨h1, h2⟩ q hq
      rcases List.mem_append.mp hq with hq | hq
      · obtain ⟨p, hp, rfl⟩ := List.mem_map.mp hq
        exact h1 p hp
      · obtain ⟨u, hu, hq⟩ := List.mem_flatMap.mp hq
        obtain ⟨d, hd, rfl⟩ := List.mem_map.mp hq
        have := h2 u hu d hd
        rw [← Int.add_mul] at this
        exact this
  rw [key]
  rcases ho with rfl | rfl
  · rfl
  · refine and_congr Iff.rfl ⟨fun h u hu d hd => ?_, fun h u hu d hd => ?_⟩
    · have := h d hd u hu
      omega
    · have := h d hd u hu
      omega
/-- the size of the other letter's number -/
def ab (b : Int) : Int := if b < 0 then -b else b
theorem side_sg (b : Int) : sg (sideO b) := by
  unfold sideO sg
  split <;> simp
theorem b_eq (b : Int) : b = sideO b * ab b := by
  unfold sideO ab
  split <;> omega
theorem bk_eq (b k : Int) : b * k = ab b * (sideO b * k) := by
  have := b_eq b
  calc b * k = (sideO b * ab b) * k := by rw [← this]
    _ = ab b * (sideO b * k) := by rw [Int.mul_comm (sideO b), Int.mul_assoc]
theorem ab_nn (b : Int) : 0 ≤ ab b := by
  unfold ab
  split <;> omega
theorem oo {o : Int} (ho : sg o) (m : Int) : o * (o * m) = m := by
  rcases ho with rfl | rfl <;> omega
theorem worth_far {sm : List Lw} {a c s m : Int} (hc : 0 ≤ c) (hm : c > 0 → topAt sm (61 * s) - topAt sm (60 * s) = -m) : worth sm a c (61 * s) - worth sm a c (60 * s) = a * s - c * m := by
  unfold worth
  have e : a * (61 * s) = a * (60 * s) + a * s := by
    rw [← Int.mul_add]
    congr 1
    omega
  by_cases h : c > 0
  · rw [if_pos h, if_pos h, e]
    have : topAt sm (61 * s) = topAt sm (60 * s) - m := by
      have := hm h
      omega
    rw [this, Int.mul_sub]
    omega
  · have : c = 0 := by omega
    subst this
    simp
    omega
theorem grow_s {ls : List Ln} (ok : ∀ l ∈ ls, lnOk l) (a b : Int) {s : Int} (hs : sg s) (ne : ab b > 0 → lw ls (sideO b) ≠ []) :
    (∃ k, (-3 ≤ k ∧ k ≤ 3) ∧ isWay ls (s, k) = true ∧ 0 < a * s + b * k) ↔ (∀ q ∈ bnds ls, q.2.1 * s ≤ 0) ∧ worth (lw ls (sideO b)) a (ab b) (61 * s) > worth (lw ls (sideO b)) a (ab b) (60 * s) := by
  have ho := side_sg b
  have ho2 : sg (-sideO b) := by
    unfold sg at *
    omega
  have small := fun o => lw_small ok o
  constructor
  · rintro ⟨k, hk, way, pos⟩
    rw [way_iff ok ho] at way
    obtain ⟨w0, wa, wb⟩ := way
    refine ⟨(bn_iff ho s).mpr ⟨w0, fun u hu d hd => ?_⟩, ?_⟩
    · have := wa u hu
      have := wb d hd
      omega
    by_cases c0 : ab b > 0
    · obtain ⟨m, m3, mx, ⟨q, hq, eq⟩, e⟩ := far_s (ne c0) (small _) hs
      have e2 := worth_far (a := a) (ab_nn b) (fun _ => e)
      have := wa q hq
      rw [eq] at this
      rw [bk_eq b] at pos
      have := Int.mul_le_mul_of_nonneg_left (show sideO b * k ≤ -m by omega) (ab_nn b)
      rw [Int.mul_neg] at this
      omega
    · have e2 := worth_far (sm := lw ls (sideO b)) (a := a) (s := s) (m := 0) (ab_nn b) (fun h => absurd h c0)
      have : ab b = 0 := by
        have := ab_nn b
        omega
      rw [bk_eq b, this] at pos
      simp at pos
      simp at e2
      omega
  · rintro ⟨hb, hw⟩
    obtain ⟨h0, h2⟩ := (bn_iff ho s).mp hb
    by_cases n1 : lw ls (sideO b) = []
    · have c0 : ab b = 0 := by
        have := ab_nn b
        have : ¬ ab b > 0 := fun z => ne z n1
        omega
      have e2 := worth_far (sm := lw ls (sideO b)) (a := a) (s := s) (m := 0) (ab_nn b) (fun h => absurd h (by omega))
      rw [c0] at e2 hw
      have pos : ∀ k, 0 < a * s + b * k := fun k => by
        rw [bk_eq b, c0]
        simp
        simp at e2
        omega
      by_cases n2 : lw ls (-sideO b) = []
      · refine ⟨0, by omega, ?_, pos 0⟩
        rw [way_iff ok ho, n1, n2]
        exact ⟨h0, fun q h => (nomatch h), fun q h => (nomatch h)⟩
      · obtain ⟨m, m3, mx, ⟨q, hq, eq⟩, e⟩ := far_s n2 (small _) hs
        refine ⟨sideO b * m, by rcases ho with h | h <;> rw [h] <;> omega, ?_, pos _⟩
        rw [way_iff ok ho, n1, oo ho]
        exact ⟨h0, fun q h => (nomatch h), fun q h => by have := mx q h; omega⟩
    · obtain ⟨m, m3, mx, ⟨q, hq, eq⟩, e⟩ := far_s n1 (small _) hs
      have e2 := worth_far (a := a) (ab_nn b) (fun _ => e)
      refine ⟨sideO b * (-m), by rcases ho with h | h <;> rw [h] <;> omega, ?_, ?_⟩
      · rw [way_iff ok ho, oo ho]
        refine ⟨h0, fun q h => by have := mx q h; omega, fun d hd => ?_⟩
        have := h2 q hq d hd
        omega
      · rw [bk_eq b, oo ho, Int.mul_neg]
        omega
theorem mem_wayL {w : Pr} : w ∈ wayL ↔ w = (0, 1) ∨ w = (0, -1) ∨ (∃ k, (-3 ≤ k ∧ k ≤ 3) ∧ w = (1, k)) ∨ ∃ k, (-3 ≤ k ∧ k ≤ 3) ∧ w = (-1, k) := by
  unfold wayL
  simp only [List.mem_append, List.mem_cons, List.not_mem_nil, or_false, List.mem_map, rangeI_mem]
  constructor
  · rintro (((h | h) | ⟨k, hk, rfl⟩) | ⟨k, hk, rfl⟩)
    · exact .inl h
    · exact .inr (.inl h)
    · exact .inr (.inr (.inl ⟨k, by omega, rfl⟩))
    · exact .inr (.inr (.inr ⟨k, by omega, rfl⟩))
  · rintro (h | h | ⟨k, hk, rfl⟩ | ⟨k, hk, rfl⟩)
    · exact .inl (.inl (.inl h))
    · exact .inl (.inl (.inr h))
    · exact .inl (.inr ⟨k, by omega, rfl⟩)
    · exact .inr ⟨k, by omega, rfl⟩
theorem grow_iff {ls : List Ln} (a b : Int) : grow ls a b = true ↔ (isWay ls (0, 1) = true ∧ 0 < b) ∨ (isWay ls (0, -1) = true ∧ 0 < -b) ∨ (∃ k, (-3 ≤ k ∧ k ≤ 3) ∧ isWay ls (1, k) = true ∧ 0 < a * 1 + b * k) ∨ ∃ k, (-3 ≤ k ∧ k ≤ 3) ∧ isWay ls (-1, k) = true ∧ 0 < a * (-1) + b * k := by
  unfold grow ways
  rw [List.any_eq_true]
  constructor
  · rintro ⟨w, hw, hp⟩
    obtain ⟨h1, h2⟩ := List.mem_filter.mp hw
    have hp := of_decide_eq_true hp
    rcases mem_wayL.mp h1 with rfl | rfl | ⟨k, hk, rfl⟩ | ⟨k, hk, rfl⟩
    · exact .inl ⟨h2, by simpa using hp⟩
    · exact .inr (.inl ⟨h2, by dsimp only at hp; omega⟩)
    · exact .inr (.inr (.inl ⟨k, hk, h2, hp⟩))
    · exact .inr (.inr (.inr ⟨k, hk, h2, hp⟩))
  · rintro (⟨h2, hp⟩ | ⟨h2, hp⟩ | ⟨k, hk, h2, hp⟩ | ⟨k, hk, h2, hp⟩)
    · exact ⟨(0, 1), List.mem_filter.mpr ⟨mem_wayL.mpr (.inl rfl), h2⟩, decide_eq_true (by dsimp only; omega)⟩
    · exact ⟨(0, -1), List.mem_filter.mpr ⟨mem_wayL.mpr (.inr (.inl rfl)), h2⟩, decide_eq_true (by dsimp only; omega)⟩
    · exact ⟨(1, k), List.mem_filter.mpr ⟨mem_wayL.mpr (.inr (.inr (.inl ⟨k, hk, rfl⟩))), h2⟩, decide_eq_true hp⟩
    · exact ⟨(-1, k), List.mem_filter.mpr ⟨mem_wayL.mpr (.inr (.inr (.inr ⟨k, hk, rfl⟩))), h2⟩, decide_eq_true hp⟩
theorem up_way {ls : List Ln} (ok : ∀ l ∈ ls, lnOk l) {o : Int} (ho : sg o) : isWay ls (0, o) = true ↔ lw ls o = [] := by
  rw [way_iff ok ho]
  have e : o * o = 1 := by rcases ho with rfl | rfl <;> rfl
  rw [e]
  constructor
  · rintro ⟨_, h, _⟩
    cases hl : lw ls o with
    | nil => rfl
    | cons q l =>
      have := h q (by rw [hl]; simp)
      simp at this
  · intro h
    rw [h]
    exact ⟨fun q _ => by simp, fun q hq => (nomatch hq), fun q _ => by simp⟩
theorem grow_endless {ls : List Ln} (ok : ∀ l ∈ ls, lnOk l) (a b : Int) : grow ls a b = endless (lw ls (sideO b)) a (ab b) (bnds ls) := by
  apply Bool.eq_iff_iff.mpr
  rw [grow_iff]
  unfold endless
  have s1 : sg 1 := .inl rfl
  have s2 : sg (-1) := .inr rfl
  have hn : (∀ q ∈ bnds ls, q.2.1 * 1 ≤ 0) ↔ highest (bnds ls) = none := by
    rw [high_none]
    simp only [Int.mul_one]
  have hl : (∀ q ∈ bnds ls, q.2.1 * (-1) ≤ 0) ↔ lowest (bnds ls) = none := by
    rw [low_none]
    refine ⟨fun h q hq => ?_, fun h q hq => ?_⟩
    · have := h q hq
      omega
    · have := h q hq
      omega
  rw [up_way ok s1, up_way ok s2]
  have vert : (lw ls 1 = [] ∧ 0 < b) ∨ (lw ls (-1) = [] ∧ 0 < -b) ↔ ab b > 0 ∧ lw ls (sideO b) = [] := by
    unfold ab sideO
    by_cases h : b < 0
    · simp only [h, if_true]
      constructor
      · rintro (⟨_, h2⟩ | ⟨h1, h2⟩)
        · omega
        · exact ⟨by omega, h1⟩
      · rintro ⟨h1, h2⟩
        exact .inr ⟨h2, by omega⟩
    · simp only [h, if_false]
      constructor
      · rintro (⟨h1, h2⟩ | ⟨_, h2⟩)
        · exact ⟨by omega, h1⟩
        · omega
      · rintro ⟨h1, h2⟩
        exact .inl ⟨h2, by omega⟩
  rw [← or_assoc, vert]
  have emp : (lw ls (sideO b)).isEmpty = true ↔ lw ls (sideO b) = [] := List.isEmpty_iff
  simp only [Bool.or_eq_true, Bool.and_eq_true, decide_eq_true_eq, emp]
  by_cases c : ab b > 0 ∧ lw ls (sideO b) = []
  · exact iff_of_true (.inl c) (.inl c)
  · have ne : ab b > 0 → lw ls (sideO b) ≠ [] := fun h z => c ⟨h, z⟩
    rw [grow_s ok a b s1 ne, grow_s ok a b s2 ne, hn, hl]
    rfl
end DL
end L2
set_option Elab.async false
set_option maxRecDepth 100000
set_option maxHeartbeats 1000000
/-! The greatest sum. -/
namespace L2
open PySem PySem.Spec PyProof.Rows
namespace DL
theorem leads_mem {bs : List Bo} {x : Int} : x ∈ leads bs ↔ (lowest bs).getD (-60) ≤ x ∧ x ≤ (highest bs).getD 60 := by
  unfold leads
  rw [rangeI_mem]
  omega
theorem conc_mono {f : Int → Int} (hc : ∀ x, f (x - 1) + f (x + 1) ≤ 2 * f x) {s : Int} (hs : sg s) (h : f (61 * s) ≤ f (60 * s)) : ∀ n : Nat, f ((60 + (n : Nat)) * s + s) ≤ f ((60 + (n : Nat)) * s) ∧ f ((60 + (n : Nat)) * s) ≤ f (60 * s)
  | 0 => by
    have e : (60 + ((0 : Nat) : Int)) * s + s = 61 * s := by omega
    have e2 : (60 + ((0 : Nat) : Int)) * s = 60 * s := by omega
    rw [e, e2]
    exact ⟨h, Int.le_refl _⟩
  | n + 1 => by
    obtain ⟨h1, h2⟩ := conc_mono hc hs h n
    have e : (60 + ((n + 1 : Nat) : Int)) * s = (60 + (n : Nat)) * s + s := by
      rw [show (60 + ((n + 1 : Nat) : Int)) = (60 + (n : Nat)) + 1 by omega, Int.add_mul]
      omega
    rw [e]
    generalize (60 + (n : Int)) * s = y at h1 h2
    have := hc (y + s)
    rcases hs with rfl | rfl
    · rw [show y + 1 - 1 = y by omega] at this
      omega
    · rw [show y + -1 - 1 = y + -1 + -1 by omega, show y + -1 + 1 = y by omega] at this
      omega
section
variable {P : Ps} (ok : P.ok)
include ok
theorem lead_fe (hp : hasPts (bnds P.ls) = true) {x : Int} (hx : x ∈ leads (bnds P.ls)) : Fe P.ls x ∧ -60 ≤ x ∧ x ≤ 60 := by
  rw [leads_mem] at hx
  obtain ⟨z, hl⟩ := (has_iff _).mp hp
  refine ⟨(fe_leads _ _).mpr ⟨z, fun h e => ?_, fun l e => ?_⟩, ?_, ?_⟩
  · rw [e] at hx
    exact hx.2
  · rw [e] at hx
    exact hx.1
  · cases e : lowest (bnds P.ls) with
    | none => rw [e] at hx; exact hx.1
    | some l =>
      have := Ps.lo40 ok l e
      rw [e] at hx
      have := hx.1
      simp at this
      omega
  · cases e : highest (bnds P.ls) with
    | none => rw [e] at hx; exact hx.2
    | some l =>
      have := Ps.hi40 ok l e
      rw [e] at hx
      have := hx.2
      simp at this
      omega
theorem pts_none : pairs P.ls = [] ↔ hasPts (bnds P.ls) = false := by
  constructor
  · intro h
    cases hp : hasPts (bnds P.ls) with
    | false => rfl
    | true =>
      obtain ⟨x, hx⟩ := List.exists_mem_of_ne_nil _ (leads_ne ok hp)
      obtain ⟨f, h1, h2⟩ := lead_fe ok hp hx
      have : (x, (loOf P.ls x).getD (-900)) ∈ pairs P.ls := mem_pairs.mpr ⟨by dsimp only; omega, f, .inl rfl⟩
      rw [h] at this
      cases this
  · intro h
    cases e : pairs P.ls with
    | nil => rfl
    | cons p l =>
      have : p ∈ pairs P.ls := by rw [e]; simp
      obtain ⟨_, f, _⟩ := mem_pairs.mp this
      obtain ⟨z, f1, f2⟩ := (fe_leads _ _).mp f
      have : hasPts (bnds P.ls) = true := (has_iff _).mpr ⟨z, by
        cases e1 : lowest (bnds P.ls) with
        | none => rfl
        | some l =>
          cases e2 : highest (bnds P.ls) with
          | none => rfl
          | some h =>
            have := f1 _ e2
            have := f2 _ e1
            exact decide_eq_true (by omega)⟩
      rw [h] at this
      cases this
/-! the best lead -/
variable {a b : Int}
theorem w_conc (ne : ab b > 0 → lw P.ls (sideO b) ≠ []) (x : Int) : worth (lw P.ls (sideO b)) a (ab b) (x - 1) + worth (lw P.ls (sideO b)) a (ab b) (x + 1) ≤ 2 * worth (lw P.ls (sideO b)) a (ab b) x := by
  unfold worth
  rw [Int.mul_add, Int.mul_sub]
  split
  · rename_i h
    have := Int.mul_le_mul_of_nonneg_left (top_conc (ne h) x) (ab_nn b)
    rw [Int.mul_add, Int.mul_left_comm] at this
    omega
  · omega
theorem e_ne (he : endless (lw P.ls (sideO b)) a (ab b) (bnds P.ls) = false) : (ab b > 0 → lw P.ls (sideO b) ≠ []) := fun h z => by
  unfold endless at he
  rw [z] at he
  simp [h] at he
theorem e_hi (he : endless (lw P.ls (sideO b)) a (ab b) (bnds P.ls) = false) (h : highest (bnds P.ls) = none) : worth (lw P.ls (sideO b)) a (ab b) 61 ≤ worth (lw P.ls (sideO b)) a (ab b) 60 := by
  unfold endless at he
  simp only [Bool.or_eq_false_iff, Bool.and_eq_false_iff, decide_eq_false_iff_not] at he
  rcases he.2.1 with h2 | h2
  · exact absurd h h2
  · omega
theorem e_lo (he : endless (lw P.ls (sideO b)) a (ab b) (bnds P.ls) = false) (h : lowest (bnds P.ls) = none) : worth (lw P.ls (sideO b)) a (ab b) (-61) ≤ worth (lw P.ls (sideO b)) a (ab b) (-60) := by
  unfold endless at he
  simp only [Bool.or_eq_false_iff, Bool.and_eq_false_iff, decide_eq_false_iff_not] at he
  rcases he.2.2 with h2 | h2
  · exact absurd h h2
  · omega
theorem best_at (hp : hasPts (bnds P.ls) = true) : ∃ x ∈ leads (bnds P.ls), worth (lw P.ls (sideO b)) a (ab b) x = bestW (lw P.ls (sideO b)) a (ab b) (bnds P.ls) := by
  have := maxL_mem (l := (leads (bnds P.ls)).map (worth (lw P.ls (sideO b)) a (ab b))) (by simpa using leads_ne ok hp)
  obtain ⟨x, hx, e⟩ := List.mem_map.mp this
  exact ⟨x, hx, e⟩
omit ok in
theorem best_le {x : Int} (hx : x ∈ leads (bnds P.ls)) : worth (lw P.ls (sideO b)) a (ab b) x ≤ bestW (lw P.ls (sideO b)) a (ab b) (bnds P.ls) := le_maxL (List.mem_map.mpr ⟨x, hx, rfl⟩)
theorem best_ub (hp : hasPts (bnds P.ls) = true) (he : endless (lw P.ls (sideO b)) a (ab b) (bnds P.ls) = false) {x : Int} (f : Fe P.ls x) : worth (lw P.ls (sideO b)) a (ab b) x ≤ bestW (lw P.ls (sideO b)) a (ab b) (bnds P.ls) := by
  obtain ⟨z, f1, f2⟩ := (fe_leads _ _).mp f
  have conc := w_conc (a := a) ok (e_ne ok he)
  by_cases h1 : (highest (bnds P.ls)).getD 60 < x
  · have hn : highest (bnds P.ls) = none := by
      cases e : highest (bnds P.ls) with
      | none => rfl
      | some h =>
        have := f1 h e
        rw [e] at h1
        simp at h1
        omega
    rw [hn] at h1
    simp at h1
    have m := (conc_mono conc (s := 1) (.inl rfl) (by have := e_hi ok he hn; simpa using this) (x - 60).toNat).2
    have e : (60 + ((x - 60).toNat : Int)) * 1 = x := by omega
    rw [e] at m
    refine Int.le_trans m (best_le (leads_mem.mpr ⟨?_, by rw [hn]; simp⟩))
    cases e : lowest (bnds P.ls) with
    | none => simp
    | some l =>
      have := Ps.lo40 ok l e
      simp
      omega
  · by_cases h2 : x < (lowest (bnds P.ls)).getD (-60)
    · have hn : lowest (bnds P.ls) = none := by
        cases e : lowest (bnds P.ls) with
        | none => rfl
        | some h =>
          have := f2 h e
          rw [e] at h2
          simp at h2
          omega
      rw [hn] at h2
      simp at h2
      have m := (conc_mono conc (s := -1) (.inr rfl) (by have := e_lo ok he hn; simpa using this) (-x - 60).toNat).2
      have e : (60 + ((-x - 60).toNat : Int)) * (-1) = x := by omega
      rw [e] at m
      refine Int.le_trans m (best_le (leads_mem.mpr ⟨by rw [hn]; simp, ?_⟩))
      cases e : highest (bnds P.ls) with
      | none => simp
      | some l =>
        have := Ps.hi40 ok l e
        simp
        omega
    · exact best_le (leads_mem.mpr ⟨by omega, by omega⟩)
/-! the law's points -/
omit ok in
theorem real_le {ls : List Ln} {x y o : Int} (f : Fe ls x) (ho : sg o) (ne : lw ls o ≠ []) (hy : y = (loOf ls x).getD (-900) ∨ y = (hiOf ls x).getD 900) (near : -900 < y ∧ y < 900) : o * y ≤ topAt (lw ls o) x := by
  obtain ⟨_, le⟩ := (fe_iff ls x).mp f
  unfold loOf hiOf at hy le
  by_cases h1 : lw ls 1 = [] <;> by_cases h2 : lw ls (-1) = []
  · rcases ho with rfl | rfl <;> contradiction
  · rw [if_pos h1, if_neg h2] at hy
    simp at hy
    have : o = -1 := by
      rcases ho with rfl | rfl
      · exact absurd h1 ne
      · rfl
    subst this
    omega
  · rw [if_neg h1, if_pos h2] at hy
    simp at hy
    have : o = 1 := by
      rcases ho with rfl | rfl
      · rfl
      · exact absurd h2 ne
    subst this
    omega
  · rw [if_neg h1, if_neg h2] at hy le
    simp [leO] at hy le
    rcases ho with rfl | rfl <;> omega
theorem val_le (ne : ab b > 0 → lw P.ls (sideO b) ≠ []) {p : Pr} (hp : p ∈ pairs P.ls) (hn : nearP b p = true) : a * p.1 + b * p.2 ≤ worth (lw P.ls (sideO b)) a (ab b) p.1 := by
  obtain ⟨_, f, hy⟩ := mem_pairs.mp hp
  unfold worth
  rw [bk_eq b]
  by_cases c : ab b > 0
  · rw [if_pos c]
    have near : -900 < p.2 ∧ p.2 < 900 := by
      unfold nearP at hn
      rw [Bool.or_eq_true, decide_eq_true_eq, decide_eq_true_eq] at hn
      have : b ≠ 0 := fun z => by
        rw [z] at c
        simp [ab] at c
      rcases hn with h | h
      · split at h <;> omega
      · exact absurd h this
    have := Int.mul_le_mul_of_nonneg_left (real_le f (side_sg b) (ne c) hy near) (ab_nn b)
    omega
  · rw [if_neg c]
    have : ab b = 0 := by
      have := ab_nn b
      omega
    rw [this]
    simp
theorem val_at (hp : hasPts (bnds P.ls) = true) (ne : ab b > 0 → lw P.ls (sideO b) ≠ []) {x : Int} (hx : x ∈ leads (bnds P.ls)) : ∃ p ∈ pairs P.ls, nearP b p = true ∧ a * p.1 + b * p.2 = worth (lw P.ls (sideO b)) a (ab b) x := by
  obtain ⟨f, h1, h2⟩ := lead_fe ok hp hx
  by_cases c : ab b > 0
  · have n := ne c
    have small := lw_small ok.ln (sideO b)
    obtain ⟨q, hq, e⟩ := top_mem n x
    have tb : -900 < topAt (lw P.ls (sideO b)) x ∧ topAt (lw P.ls (sideO b)) x < 900 := by
      obtain ⟨s1, s2⟩ := small q hq
      rw [e]
      rcases (show q.2.1 = -3 ∨ q.2.1 = -2 ∨ q.2.1 = -1 ∨ q.2.1 = 0 ∨ q.2.1 = 1 ∨ q.2.1 = 2 ∨ q.2.1 = 3 by omega) with h | h | h | h | h | h | h <;> rw [h] <;> omega
    refine ⟨(x, sideO b * topAt (lw P.ls (sideO b)) x), mem_pairs.mpr ⟨by dsimp only; omega, f, ?_⟩, ?_, ?_⟩
    · rcases side_sg b with h | h
      · rw [h] at n ⊢
        refine .inr ?_
        dsimp only
        unfold hiOf
        rw [if_neg n]
        simp
      · rw [h] at n ⊢
        refine .inl ?_
        dsimp only
        unfold loOf
        rw [if_neg n]
        simp
    · unfold nearP
      rw [Bool.or_eq_true, decide_eq_true_eq]
      refine .inl ?_
      dsimp only
      generalize topAt (lw P.ls (sideO b)) x = t at tb
      rcases side_sg b with h | h <;> rw [h] <;> split <;> omega
    · dsimp only
      unfold worth
      rw [if_pos c, bk_eq b, oo (side_sg b)]
  · have c0 : ab b = 0 := by
      have := ab_nn b
      omega
    have b0 : b = 0 := by
      have := b_eq b
      rw [c0] at this
      omega
    refine ⟨(x, (loOf P.ls x).getD (-900)), mem_pairs.mpr ⟨by dsimp only; omega, f, .inl rfl⟩, ?_, ?_⟩
    · unfold nearP
      simp [b0]
    · unfold worth
      rw [if_neg c, b0]
      simp
theorem good_max (hp : hasPts (bnds P.ls) = true) (he : endless (lw P.ls (sideO b)) a (ab b) (bnds P.ls) = false) : good P.ls b ≠ [] ∧ maxL ((good P.ls b).map fun p => a * p.1 + b * p.2) = bestW (lw P.ls (sideO b)) a (ab b) (bnds P.ls) := by
  have ne := e_ne ok he
  obtain ⟨x, hx, ex⟩ := best_at (a := a) (b := b) ok hp
  obtain ⟨p, p1, p2, p3⟩ := val_at (a := a) ok hp ne hx
  have pg : p ∈ good P.ls b := List.mem_filter.mpr ⟨p1, p2⟩
  have gn : good P.ls b ≠ [] := List.ne_nil_of_mem pg
  refine ⟨gn, ?_⟩
  apply Int.le_antisymm
  · have := maxL_mem (l := (good P.ls b).map fun p => a * p.1 + b * p.2) (by simpa using gn)
    obtain ⟨q, hq, e⟩ := List.mem_map.mp this
    obtain ⟨q1, q2⟩ := List.mem_filter.mp hq
    rw [← e]
    refine Int.le_trans (val_le ok ne q1 q2) (best_ub ok hp he (mem_pairs.mp q1).2.1)
  · rw [← ex, ← p3]
    exact le_maxL (List.mem_map.mpr ⟨p, pg, rfl⟩)
/-! the point that is told -/
theorem pt_ok (ne : ab b > 0 → lw P.ls (sideO b) ≠ []) {x : Int} (f : Fe P.ls x) : (∀ l ∈ P.ls, l.1 * x + l.2.1 * otherAt P.ls b x ≤ l.2.2) ∧ a * x + b * otherAt P.ls b x = worth (lw P.ls (sideO b)) a (ab b) x := by
  obtain ⟨z, le⟩ := (fe_iff _ _).mp f
  have both : ∀ y : Int, (lw P.ls 1 ≠ [] → y ≤ topAt (lw P.ls 1) x) → (lw P.ls (-1) ≠ [] → -y ≤ topAt (lw P.ls (-1)) x) → ∀ l ∈ P.ls, l.1 * x + l.2.1 * y ≤ l.2.2 := by
    rintro y hu hd ⟨p, o, c⟩ hl
    obtain ⟨k1, k2, k3⟩ := ok.ln _ hl
    obtain ⟨j, hj⟩ := lw_mem' hl
    dsimp only at k1 k2 k3 ⊢
    rcases (show o = 0 ∨ o = 1 ∨ o = -1 by omega) with rfl | rfl | rfl
    · have := z _ hl rfl
      dsimp only at this
      omega
    · have h1 := hu (List.ne_nil_of_mem hj)
      have h2 := top_le hj x
      dsimp only at h2
      omega
    · have h1 := hd (List.ne_nil_of_mem hj)
      have h2 := top_le hj x
      dsimp only at h2
      omega
  unfold loOf hiOf at le
  constructor
  · apply both
    · intro h
      unfold otherAt
      by_cases hb : b < 0
      · rw [if_pos (.inl hb)]
        have n : lw P.ls (-1) ≠ [] := by
          have := ne (by unfold ab; rw [if_pos hb]; omega)
          unfold sideO at this
          rwa [if_pos hb] at this
        rw [if_neg n]
        rw [if_neg n, if_neg h] at le
        simp [leO] at le
        exact le
      · rw [if_neg (fun z => z.elim hb h)]
        omega
    · intro h
      unfold otherAt
      by_cases hb : b < 0 ∨ lw P.ls 1 = []
      · rw [if_pos hb, if_neg h]
        omega
      · rw [if_neg hb]
        have n : lw P.ls 1 ≠ [] := fun z => hb (.inr z)
        rw [if_neg n, if_neg h] at le
        simp [leO] at le
        omega
  · unfold worth
    rw [bk_eq b]
    by_cases c : ab b > 0
    · have n := ne c
      rw [if_pos c]
      congr 2
      unfold otherAt
      unfold sideO at n ⊢
      by_cases hb : b < 0
      · rw [if_pos hb] at n ⊢
        rw [if_pos (.inl hb), if_neg n]
        omega
      · rw [if_neg hb] at n ⊢
        rw [if_neg (fun z => z.elim hb n)]
        omega
    · rw [if_neg c]
      have : ab b = 0 := by
        have := ab_nn b
        omega
      rw [this]
      simp
end
end DL
end L2
set_option Elab.async false
set_option maxRecDepth 100000
set_option maxHeartbeats 1000000
/-! A corner has the greatest sum. -/
namespace L2
open PySem PySem.Spec PyProof.Rows
namespace DL
theorem mem_tops {sm : List Lw} {bs : List Bo} {p : Pr} : p ∈ tops sm bs ↔ sm ≠ [] ∧ p.1 ∈ leads bs ∧ turnsAt sm bs p.1 = true ∧ p.2 = topAt sm p.1 := by
  unfold tops
  by_cases h : sm = []
  · rw [if_pos h]
    exact iff_of_false (fun z => nomatch z) (fun z => z.1 h)
  · rw [if_neg h, List.mem_filterMap]
    constructor
    · rintro ⟨x, hx, e⟩
      split at e
      · rename_i t
        cases e
        exact ⟨h, hx, t, rfl⟩
      · cases e
    · rintro ⟨_, hx, t, e⟩
      obtain ⟨x, y⟩ := p
      dsimp only at hx t e
      exact ⟨x, hx, by rw [if_pos t, e]⟩
theorem crn_o {ls : List Ln} {o : Int} (ho : sg o) {q : Pr} (h : q ∈ tops (lw ls o) (bnds ls)) : (q.1, o * q.2) ∈ crn ls := by
  unfold crn
  rcases ho with rfl | rfl
  · refine List.mem_append.mpr (.inl ?_)
    rw [Int.one_mul]
    exact h
  · refine List.mem_append.mpr (.inr (List.mem_map.mpr ⟨q, h, ?_⟩))
    rw [Int.neg_mul, Int.one_mul]
theorem crn_ne {ls : List Ln} (h : crn ls ≠ []) {o : Int} (ho : sg o) : tops (lw ls o) (bnds ls) ≠ [] ∨ tops (lw ls (-o)) (bnds ls) ≠ [] := by
  by_cases h1 : tops (lw ls 1) (bnds ls) = []
  · by_cases h2 : tops (lw ls (-1)) (bnds ls) = []
    · refine absurd ?_ h
      unfold crn
      rw [h1, h2]
      rfl
    · rcases ho with rfl | rfl
      · exact .inr h2
      · exact .inl h2
  · rcases ho with rfl | rfl
    · exact .inl h1
    · exact .inr h1
/-- one slope: no turn -/
theorem flat_tops {sm : List Lw} {bs : List Bo} {m : Int} (h : ∀ q ∈ sm, q.2.1 = m) (h1 : lowest bs = none) (h2 : highest bs = none) : tops sm bs = [] := by
  by_cases ne : sm = []
  · unfold tops
    rw [if_pos ne]
  have lin : ∀ x, topAt sm (x + 1) = topAt sm x - m := fun x => by
    obtain ⟨p, hp, e1⟩ := top_mem ne x
    obtain ⟨r, hr, e2⟩ := top_mem ne (x + 1)
    have h3 := top_le hr x
    have h4 := top_le hp (x + 1)
    rw [h p hp] at e1 h4
    rw [h r hr] at e2 h3
    rw [Int.mul_add] at e2 h4
    omega
  cases e : tops sm bs with
  | nil => rfl
  | cons p l =>
    have hp : p ∈ tops sm bs := by rw [e]; simp
    obtain ⟨_, _, t, _⟩ := mem_tops.mp hp
    unfold turnsAt at t
    rw [h1, h2] at t
    simp at t
    have l1 := lin p.1
    have l2 := lin (p.1 - 1)
    rw [Int.sub_add_cancel] at l2
    omega
section
variable {P : Ps} (ok : P.ok) {a b : Int}
include ok
theorem corner_c (hp : hasPts (bnds P.ls) = true) (he : endless (lw P.ls (sideO b)) a (ab b) (bnds P.ls) = false) (cn : crn P.ls ≠ []) (c : ab b > 0) : ∃ p ∈ crn P.ls, a * p.1 + b * p.2 = bestW (lw P.ls (sideO b)) a (ab b) (bnds P.ls) := by
  have ho := side_sg b
  have ne := e_ne ok he
  have n := ne c
  have conc := w_conc (a := a) ok ne
  generalize hM : bestW (lw P.ls (sideO b)) a (ab b) (bnds P.ls) = M
  have wx : ∀ x, worth (lw P.ls (sideO b)) a (ab b) x = a * x + ab b * topAt (lw P.ls (sideO b)) x := fun x => by
    unfold worth
    rw [if_pos c]
  by_cases ht : ∃ x ∈ leads (bnds P.ls), turnsAt (lw P.ls (sideO b)) (bnds P.ls) x = true ∧ worth (lw P.ls (sideO b)) a (ab b) x = M
  · obtain ⟨x, hx, t, e⟩ := ht
    refine ⟨(x, sideO b * topAt (lw P.ls (sideO b)) x), crn_o ho (mem_tops (p := (x, topAt (lw P.ls (sideO b)) x)).mpr ⟨n, hx, t, rfl⟩), ?_⟩
    rw [← e, wx]
    dsimp only
    rw [bk_eq b, oo ho]
  · exfalso
    have no : ∀ x ∈ leads (bnds P.ls), worth (lw P.ls (sideO b)) a (ab b) x = M → turnsAt (lw P.ls (sideO b)) (bnds P.ls) x = false := fun x hx e => by
      cases t : turnsAt (lw P.ls (sideO b)) (bnds P.ls) x with
      | false => rfl
      | true => exact absurd ⟨x, hx, t, e⟩ ht
    have le : ∀ x ∈ leads (bnds P.ls), worth (lw P.ls (sideO b)) a (ab b) x ≤ M := fun x hx => by
      rw [← hM]
      exact best_le hx
    -- a best lead: those beside it are as good
    have step : ∀ x ∈ leads (bnds P.ls), worth (lw P.ls (sideO b)) a (ab b) x = M → worth (lw P.ls (sideO b)) a (ab b) (x + 1) = M ∧ worth (lw P.ls (sideO b)) a (ab b) (x - 1) = M := by
      intro x hx e
      have t := no x hx e
      unfold turnsAt at t
      rw [Bool.or_eq_false_iff, decide_eq_false_iff_not, decide_eq_false_iff_not, not_or] at t
      obtain ⟨⟨t1, t2⟩, t3⟩ := t
      have hx2 := leads_mem.mp hx
      have up : worth (lw P.ls (sideO b)) a (ab b) (x + 1) ≤ M := by
        by_cases h : x + 1 ∈ leads (bnds P.ls)
        · exact le _ h
        · cases eh : highest (bnds P.ls) with
          | none =>
            rw [eh] at hx2
            have : x = 60 := by
              by_cases g : x + 1 ≤ 60
              · exact absurd (leads_mem.mpr ⟨by omega, by rw [eh]; exact g⟩) h
              · have := hx2.2
                simp at this
                omega
            subst this
            have := e_hi ok he eh
            rw [e] at this
            exact this
          | some hh =>
            rw [eh] at hx2 t2
            have : x ≠ hh := fun z => t2 (by rw [z])
            have h2 := hx2.2
            simp at h2
            exact absurd (leads_mem.mpr ⟨by omega, by rw [eh]; simp; omega⟩) h
      have dw : worth (lw P.ls (sideO b)) a (ab b) (x - 1) ≤ M := by
        by_cases h : x - 1 ∈ leads (bnds P.ls)
        · exact le _ h
        · cases eh : lowest (bnds P.ls) with
          | none =>
            rw [eh] at hx2
            have : x = -60 := by
              by_cases g : -60 ≤ x - 1
              · exact absurd (leads_mem.mpr ⟨by rw [eh]; exact g, by omega⟩) h
              · have := hx2.1
                simp at this
                omega
            subst this
            have := e_lo ok he eh
            rw [e] at this
            exact this
          | some hh =>
            rw [eh] at hx2 t1
            have : x ≠ hh := fun z => t1 (by rw [z])
            have h2 := hx2.1
            simp at h2
            exact absurd (leads_mem.mpr ⟨by rw [eh]; simp; omega, by omega⟩) h
      have t4 := Int.mul_le_mul_of_nonneg_left (show 2 * topAt (lw P.ls (sideO b)) x ≤ topAt (lw P.ls (sideO b)) (x - 1) + topAt (lw P.ls (sideO b)) (x + 1) by omega) (ab_nn b)
      rw [Int.mul_add, Int.mul_left_comm] at t4
      have e1 := wx x
      have e2 := wx (x + 1)
      have e3 := wx (x - 1)
      rw [Int.mul_add] at e2
      rw [Int.mul_sub] at e3
      omega
    obtain ⟨x0, hx0, ex0⟩ := best_at (a := a) (b := b) ok hp
    rw [hM] at ex0
    have right : ∀ k : Nat, x0 + (k : Nat) ≤ (highest (bnds P.ls)).getD 60 → worth (lw P.ls (sideO b)) a (ab b) (x0 + (k : Nat)) = M := fun k => by
      induction k with
      | zero => intro _; simpa using ex0
      | succ k ih =>
        intro h
        have := (step (x0 + (k : Nat)) (leads_mem.mpr ⟨by have := (leads_mem.mp hx0).1; omega, by omega⟩) (ih (by omega))).1
        rw [show x0 + ((k + 1 : Nat) : Int) = x0 + (k : Nat) + 1 by omega]
        exact this
    have left : ∀ k : Nat, (lowest (bnds P.ls)).getD (-60) ≤ x0 - (k : Nat) → worth (lw P.ls (sideO b)) a (ab b) (x0 - (k : Nat)) = M := fun k => by
      induction k with
      | zero => intro _; simpa using ex0
      | succ k ih =>
        intro h
        have := (step (x0 - (k : Nat)) (leads_mem.mpr ⟨by omega, by have := (leads_mem.mp hx0).2; omega⟩) (ih (by omega))).2
        rw [show x0 - ((k + 1 : Nat) : Int) = x0 - (k : Nat) - 1 by omega]
        exact this
    have all : ∀ x ∈ leads (bnds P.ls), worth (lw P.ls (sideO b)) a (ab b) x = M := fun x hx => by
      have h := leads_mem.mp hx
      by_cases g : x0 ≤ x
      · have := right (x - x0).toNat (by omega)
        rwa [show x0 + (((x - x0).toNat : Nat) : Int) = x by omega] at this
      · have := left (x0 - x).toNat (by omega)
        rwa [show x0 - (((x0 - x).toNat : Nat) : Int) = x by omega] at this
    have h0 := leads_mem.mp hx0
    have hn : highest (bnds P.ls) = none := by
      cases e : highest (bnds P.ls) with
      | none => rfl
      | some h =>
        rw [e] at h0
        have h2 := h0.2
        simp at h2
        have m : h ∈ leads (bnds P.ls) := leads_mem.mpr ⟨by omega, by rw [e]; simp⟩
        have := no h m (all h m)
        unfold turnsAt at this
        rw [e] at this
        simp at this
    have ln : lowest (bnds P.ls) = none := by
      cases e : lowest (bnds P.ls) with
      | none => rfl
      | some h =>
        rw [e] at h0
        have h2 := h0.1
        simp at h2
        have m : h ∈ leads (bnds P.ls) := leads_mem.mpr ⟨by rw [e]; simp, by omega⟩
        have := no h m (all h m)
        unfold turnsAt at this
        rw [e] at this
        simp at this
    have m1 : (60 : Int) ∈ leads (bnds P.ls) := leads_mem.mpr ⟨by rw [ln]; simp, by rw [hn]; simp⟩
    have m2 : (-60 : Int) ∈ leads (bnds P.ls) := leads_mem.mpr ⟨by rw [ln]; simp, by rw [hn]; simp⟩
    have u1 := (step 60 m1 (all _ m1)).1
    have u2 := (step (-60) m2 (all _ m2)).2
    rw [← all _ m1] at u1
    rw [← all _ m2] at u2
    have small := lw_small ok.ln (sideO b)
    obtain ⟨m, _, mx, _, f1⟩ := far_s n small (s := 1) (.inl rfl)
    obtain ⟨k, _, kx, _, f2⟩ := far_s n small (s := -1) (.inr rfl)
    have w1 := worth_far (a := a) (ab_nn b) (fun _ => f1)
    have w2 := worth_far (a := a) (ab_nn b) (fun _ => f2)
    have e61 : ((61 : Int) * 1) = 60 + 1 := rfl
    have e62 : ((61 : Int) * (-1)) = -60 - 1 := rfl
    rw [e61] at w1
    rw [e62] at w2
    have e60 : ((60 : Int) * 1) = 60 := rfl
    have e63 : ((60 : Int) * (-1)) = -60 := rfl
    rw [e60, u1] at w1
    rw [e63, u2] at w2
    have mk : ab b * (m + k) = 0 := by
      rw [Int.mul_add]
      omega
    have mk2 : m + k = 0 := by
      rcases Int.mul_eq_zero.mp mk with h | h
      · omega
      · exact h
    have one : ∀ q ∈ lw P.ls (sideO b), q.2.1 = m := fun q hq => by
      have := mx q hq
      have := kx q hq
      omega
    have hb := high_none.mp hn
    have lb := low_none.mp ln
    have b1 := (bn_iff ho 1).mp (fun q hq => by have := hb q hq; omega)
    have b2 := (bn_iff ho (-1)).mp (fun q hq => by have := lb q hq; omega)
    obtain ⟨q0, hq0⟩ := List.exists_mem_of_ne_nil _ n
    have other : ∀ d ∈ lw P.ls (-sideO b), d.2.1 = -m := fun d hd => by
      have h1 := b1.2 q0 hq0 d hd
      have h2 := b2.2 q0 hq0 d hd
      have := one q0 hq0
      omega
    rcases crn_ne cn ho with h | h
    · exact h (flat_tops one ln hn)
    · exact h (flat_tops other ln hn)
theorem corner_0 (hp : hasPts (bnds P.ls) = true) (he : endless (lw P.ls (sideO b)) a (ab b) (bnds P.ls) = false) (cn : crn P.ls ≠ []) (c : ¬ ab b > 0) : ∃ p ∈ crn P.ls, a * p.1 + b * p.2 = bestW (lw P.ls (sideO b)) a (ab b) (bnds P.ls) := by
  have c0 : ab b = 0 := by
    have := ab_nn b
    omega
  have b0 : b = 0 := by
    have := b_eq b
    rw [c0] at this
    omega
  have wx : ∀ x, worth (lw P.ls (sideO b)) a (ab b) x = a * x := fun x => by
    unfold worth
    rw [if_neg c, Int.add_zero]
  obtain ⟨x0, hx0, ex0⟩ := best_at (a := a) (b := b) ok hp
  have ho : sg (1 : Int) := .inl rfl
  -- a lead that turns, of the best worth
  have fin : ∀ x ∈ leads (bnds P.ls), (∀ sm, turnsAt sm (bnds P.ls) x = true) → a * x = bestW (lw P.ls (sideO b)) a (ab b) (bnds P.ls) → ∃ p ∈ crn P.ls, a * p.1 + b * p.2 = bestW (lw P.ls (sideO b)) a (ab b) (bnds P.ls) := by
    intro x hx t e
    have go : ∀ o, sg o → lw P.ls o ≠ [] → ∃ p ∈ crn P.ls, a * p.1 + b * p.2 = bestW (lw P.ls (sideO b)) a (ab b) (bnds P.ls) := fun o ho n =>
      ⟨_, crn_o ho (mem_tops (p := (x, topAt (lw P.ls o) x)).mpr ⟨n, hx, t _, rfl⟩), by
        dsimp only
        rw [e]
        have : b * (o * topAt (lw P.ls o) x) = 0 := by rw [b0, Int.zero_mul]
        omega⟩
    rcases crn_ne cn ho with h | h
    · obtain ⟨p, hp⟩ := List.exists_mem_of_ne_nil _ h
      exact go 1 ho (mem_tops.mp hp).1
    · obtain ⟨p, hp⟩ := List.exists_mem_of_ne_nil _ h
      exact go (-1) (.inr rfl) (mem_tops.mp hp).1
  rw [wx] at ex0
  have h0 := leads_mem.mp hx0
  rcases Int.lt_trichotomy a 0 with ha | ha | ha
  · cases e : lowest (bnds P.ls) with
    | none =>
      have := e_lo ok he e
      rw [wx, wx] at this
      omega
    | some h =>
      rw [e] at h0
      have h1 := h0.1
      simp at h1
      have m : h ∈ leads (bnds P.ls) := leads_mem.mpr ⟨by rw [e]; simp, by omega⟩
      refine fin h m (fun sm => by unfold turnsAt; rw [e]; simp) ?_
      apply Int.le_antisymm
      · have := best_le (a := a) (b := b) m
        rwa [wx] at this
      · rw [← ex0]
        exact Int.mul_le_mul_of_nonpos_left (by omega) h1
  · subst ha
    obtain ⟨p, hp⟩ := List.exists_mem_of_ne_nil _ cn
    refine ⟨p, hp, ?_⟩
    rw [← ex0, b0]
    omega
  · cases e : highest (bnds P.ls) with
    | none =>
      have := e_hi ok he e
      rw [wx, wx] at this
      omega
    | some h =>
      rw [e] at h0
      have h1 := h0.2
      simp at h1
      have m : h ∈ leads (bnds P.ls) := leads_mem.mpr ⟨by omega, by rw [e]; simp⟩
      refine fin h m (fun sm => by unfold turnsAt; rw [e]; simp) ?_
      apply Int.le_antisymm
      · have := best_le (a := a) (b := b) m
        rwa [wx] at this
      · rw [← ex0]
        exact Int.mul_le_mul_of_nonneg_left h1 (by omega)
theorem corner_best (hp : hasPts (bnds P.ls) = true) (he : endless (lw P.ls (sideO b)) a (ab b) (bnds P.ls) = false) (cn : crn P.ls ≠ []) : ∃ p ∈ crn P.ls, a * p.1 + b * p.2 = bestW (lw P.ls (sideO b)) a (ab b) (bnds P.ls) := by
  by_cases c : ab b > 0
  · exact corner_c ok hp he cn c
  · exact corner_0 ok hp he cn c
end
end DL
end L2
set_option Elab.async false
set_option maxRecDepth 100000
set_option maxHeartbeats 1000000
/-! The law. -/
namespace L2
open PySem PySem.Spec PyProof.Rows
namespace DL
@[simp] theorem lay_none_s : (PyData.str "none").canLay0 = true := by decide +kernel
@[simp] theorem lay_endless_s : (PyData.str "endless").canLay0 = true := by decide +kernel
@[simp] theorem ne_endless_none : (("endless" : Str) = ("none" : Str)) = False := eq_false (by decide +kernel)
@[simp] theorem eq_is {i : Int} {s : Str} {Q : Rv → Prop} : pEq (.int i) (.str s) Q ↔ (PyData.str s).canLay0 = true ∧ Q (.d (.bool false)) := by
  have : PyData.eqv (.int i) (.str s) = false := by rw [PyData.eqv]
  unfold pEq CmpOk
  rw [this]
  simp [PyData.depth, PyData.canLay0]
theorem nodup_le {α : Type} [BEq α] [LawfulBEq α] : ∀ {ys l : List α}, ys.Nodup → (∀ y ∈ ys, y ∈ l) → ys.length ≤ l.length
  | [], l, _, _ => Nat.zero_le _
  | y :: ys, l, h, hs => by
    rw [List.nodup_cons] at h
    have hy := hs y List.mem_cons_self
    have := nodup_le (l := l.erase y) h.2 fun z hz => by
      have hz2 := hs z (List.mem_cons_of_mem _ hz)
      exact (List.mem_erase_of_ne (fun e => h.1 (by rw [← e]; exact hz))).mpr hz2
    rw [List.length_erase_of_mem hy] at this
    have := List.length_pos_of_mem hy
    rw [List.length_cons]
    omega
theorem srt_nodup {ys : List Pr} (h : SrtP ys) : ys.Nodup := by
  refine List.Pairwise.imp (fun {p q} hpq e => ?_) h
  subst e
  rw [SrtO.lexB_iff] at hpq
  omega
theorem crn_len {P : Ps} (ok : P.ok) : (crn P.ls).length ≤ 16 := by
  have u1 := tops_few (bs := bnds P.ls) (Ps.slok ok 1)
  have u2 := tops_few (bs := bnds P.ls) (Ps.slok ok (-1))
  unfold crn
  rw [List.length_append, List.length_map]
  omega
theorem best_small {P : Ps} (ok : P.ok) {a b : Int} (ha : -1000000 ≤ a ∧ a ≤ 1000000) (hb : -1000000 ≤ b ∧ b ≤ 1000000) (hp : hasPts (bnds P.ls) = true) (he : endless (lw P.ls (sideO b)) a (ab b) (bnds P.ls) = false) : (bestW (lw P.ls (sideO b)) a (ab b) (bnds P.ls)).natAbs < 10 ^ 12 := by
  have ne := e_ne ok he
  obtain ⟨x, hx, ex⟩ := best_at (a := a) (b := b) ok hp
  obtain ⟨f, h1, h2⟩ := lead_fe ok hp hx
  rw [← ex]
  have m1 : (a * x).natAbs ≤ 1000000 * 60 := by
    rw [Int.natAbs_mul]
    exact Nat.mul_le_mul (by omega) (by omega)
  unfold worth
  split
  · rename_i c
    obtain ⟨q, hq, e⟩ := top_mem (ne c) x
    obtain ⟨s1, s2⟩ := lw_small ok.ln (sideO b) q hq
    have tb : (topAt (lw P.ls (sideO b)) x).natAbs ≤ 300 := by
      rw [e]
      rcases (show q.2.1 = -3 ∨ q.2.1 = -2 ∨ q.2.1 = -1 ∨ q.2.1 = 0 ∨ q.2.1 = 1 ∨ q.2.1 = 2 ∨ q.2.1 = 3 by omega) with h | h | h | h | h | h | h <;> rw [h] <;> omega
    have m2 : (ab b * topAt (lw P.ls (sideO b)) x).natAbs ≤ 1000000 * 300 := by
      rw [Int.natAbs_mul]
      refine Nat.mul_le_mul ?_ tb
      unfold ab
      split <;> omega
    omega
  · omega
def g__law_is_right (ds : List D) (r : Rv) : Prop := ∃ (P : Ps) (a b : Int), ds = [P.enc, .list (P.ls.map lineD), .tuple [.int a, .int b]] ∧ P.ok ∧ (-1000000 ≤ a ∧ a ≤ 1000000) ∧ (-1000000 ≤ b ∧ b ≤ 1000000) ∧ r = .d (.bool true)
abbrev f__law_is_right : FI := fnT 3 g__law_is_right
theorem ps_lay (P : Ps) : P.enc.canLay0 = true := by
  simp [Ps.enc, Ps.fo, Fo.enc, PyData.canLay0, PyData.canLayAll0, Tt.lay]
theorem r__law_is_right : Reads f__law_is_right 7 (w__law_is_right_k65 f__law_greatest f_greatest_of f_corners_of) := reads_T fun ds r e Q X hq => by
  obtain ⟨P, a, b, rfl, ok, ha, hb, rfl⟩ := e
  have play := ps_lay P
  have many := ok.many
  have ge := grow_endless ok.ln a b
  have pn := pts_none ok
  have need : pairs P.ls ≠ [] → grow P.ls a b = false → good P.ls b ≠ [] := fun h1 h2 => by
    have hp : hasPts (bnds P.ls) = true := by
      cases h : hasPts (bnds P.ls) with
      | true => rfl
      | false => exact absurd (pn.mpr h) h1
    exact (good_max ok hp (by rw [← ge]; exact h2)).1
  unfold w__law_is_right_k65
  refine seq_k fun K hk => ?_
  simp
  refine ⟨_, ⟨P.ls, a, b, rfl, ok.ln, many, ha, hb, need, rfl⟩, ?_⟩
  simp
  refine ⟨_, _, rfl, play, .inr (.inr ⟨P, a, b, rfl, ok, rfl, ha, hb, fun r hr => ?_⟩)⟩
  unfold grs at hr
  have eab : (if b < 0 then -b else b) = ab b := rfl
  rw [eab] at hr
  unfold lawG
  cases hp : hasPts (bnds P.ls) with
  | false =>
    rw [if_neg (by rw [hp]; simp)] at hr
    subst hr
    rw [if_pos (pn.mpr hp)]
    simp
    refine hk _ ?_
    clear hk
    clear K
    refine seq_k fun K hk => ?_
    obtain ⟨f1, f2, f3, f4, f5⟩ := none_facts
    rw [sl_eq] at f4
    simp [f1, f2, f3, f4, f5]
    exact hq
  | true =>
    rw [if_pos hp] at hr
    have np : ¬ pairs P.ls = [] := fun z => by
      rw [pn.mp z] at hp
      cases hp
    rw [if_neg np]
    cases he : endless (lw P.ls (sideO b)) a (ab b) (bnds P.ls) with
    | true =>
      rw [if_pos he] at hr
      subst hr
      rw [if_pos (by rw [ge]; exact he)]
      simp
      refine hk _ ?_
      clear hk
      clear K
      refine seq_k fun K hk => ?_
      obtain ⟨f1, f2, f3, f4, f5⟩ := endless_facts
      rw [sl_eq] at f4
      simp [f1, f2, f3, f4, f5]
      exact hq
    | false =>
      rw [if_neg (by rw [he]; simp)] at hr
      obtain ⟨x, hx, ex, rfl⟩ := hr
      rw [if_neg (by rw [ge, he]; simp)]
      rw [(good_max ok hp he).2]
      have small := best_small ok ha hb hp he
      obtain ⟨f1, f2, f3, f4, f5⟩ := at_facts small
      rw [sl_eq] at f4
      obtain ⟨fx, x1, x2⟩ := lead_fe ok hp hx
      obtain ⟨pin, pw⟩ := pt_ok (a := a) ok (e_ne ok he) fx
      rw [ex] at pw
      have cb := corner_best (a := a) ok hp he
      generalize bestW (lw P.ls (sideO b)) a (ab b) (bnds P.ls) = v at *
      generalize otherAt P.ls b x = y at *
      have ma : ∀ z, IntMulOk a z := fun z => mulOk_left (by omega) (by omega)
      have mb : ∀ z, IntMulOk b z := fun z => mulOk_left (by omega) (by omega)
      simp
      refine hk _ ?_
      clear hk
      clear K
      refine seq_k fun K hk => ?_
      simp
      refine hk _ ?_
      clear hk
      clear K
      refine seq_k fun K hk => ?_
      simp [f1, f2, f3, f4, f5]
      refine hk _ ?_
      clear hk
      clear K
      refine seq_k fun K hk => ?_
      simp
      refine hk _ ?_
      clear hk
      clear K
      refine seq_k fun K hk => ?_
      simp
      refine lc_filter (fun _ => none) _ (fun d hd A B h => ?_) (by rw [sl_eq]; simp) ?_
      · have hd : d = .int x ∨ d = .int y := by simpa using hd
        rcases hd with rfl | rfl <;> (simp at h ⊢; exact h)
      simp [PyData.canLay0, PyData.canLayAll0]
      refine hk _ ?_
      clear hk
      clear K
      refine seq_k fun K hk => ?_
      simp
      refine lc_encF lineD (fun l => if l.2.2 < l.1 * x + l.2.1 * y then some (.int 1) else none) P.ls (fun l hl A B h => ?_) (by rw [sl_eq]; omega) ?_
      · have := pin l hl
        obtain ⟨p, o, c⟩ := l
        obtain ⟨k1, k2, k3⟩ := ok.ln _ hl
        dsimp only at k1 k2 k3 this h
        have m1 : IntMulOk p x := mulOk_left (by omega) (by omega)
        have m2 : IntMulOk o y := mulOk_left (by omega) (by omega)
        have no : ¬ (c < p * x + o * y) := by omega
        simp [no] at h
        simp [lineD, m1, m2, no]
        simpa [lineD] using h
      · have e : (P.ls.filterMap fun l => if l.2.2 < l.1 * x + l.2.1 * y then some (PyData.int 1) else none) = [] := by
          rw [List.filterMap_eq_nil_iff]
          intro l hl
          have := pin l hl
          rw [if_neg (by omega)]
        rw [e]
        simp [PyData.canLay0, PyData.canLayAll0]
        refine hk _ ?_
        clear hk
        clear K
        refine seq_k fun K hk => ?_
        simp
        refine ⟨_, rfl, play, .inr ⟨P, rfl, ok, fun ys srt mem => ?_⟩⟩
        simp only [hp, true_and] at mem
        have yl : ys.length ≤ 16 := Nat.le_trans (nodup_le (srt_nodup srt) fun p hp => (mem p).mp hp) (crn_len ok)
        have ylay : (PyData.tuple (ys.map pairD)).canLay0 = true := by
          simp only [PyData.canLay0]
          exact lay_all_of pairD pairD_lay _
        simp
        refine hk _ ?_
        clear hk
        clear K
        refine seq_k fun K hk => ?_
        simp [ylay]
        by_cases y0 : ys = []
        · subst y0
          simp
          refine hk _ ?_
          clear hk
          clear K
          simp [ma, mb, pw]
          exact hq
        · obtain ⟨p0, hp0⟩ := List.exists_mem_of_ne_nil _ y0
          obtain ⟨p, hp, ep⟩ := cb (List.ne_nil_of_mem ((mem p0).mp hp0))
          have hpy := (mem p).mpr hp
          simp [y0]
          refine lc_encF pairD (fun q => if a * q.1 + b * q.2 = v then some (.int 1) else none) ys (fun q hq A B h => ?_) (by rw [sl_eq]; omega) ?_
          · obtain ⟨s, t⟩ := q
            dsimp only at h
            by_cases c : a * s + b * t = v
            · simp [c] at h
              simp [pairD, ma, mb, c]
              exact h
            · simp [c] at h
              simp [pairD, ma, mb, c]
              simpa [pairD] using h
          · have e : (ys.filterMap fun q => if a * q.1 + b * q.2 = v then some (PyData.int 1) else none) ≠ [] := fun z => by
              rw [List.filterMap_eq_nil_iff] at z
              have := z p hpy
              rw [if_pos ep] at this
              cases this
            simp [PyData.canLay0, fm_lay]
            rw [if_neg e]
            refine hk _ ?_
            clear hk
            clear K
            simp [ma, mb, pw]
            exact hq
theorem r_law : Reads f_law 4 (w_law f__law_cup f__law_plain_set f__law_lines f__law_is_right f__law_any_row) := by
  rintro ds Q X hl ⟨ns, rfl, hn, hq⟩
  unfold w_law
  refine seq_k fun K hk => ?_
  simp
  refine ⟨ns, rfl, by omega, fun c0 hc0 => ?_⟩
  simp
  refine hk _ ?_
  clear hk
  clear K
  refine seq_k fun K hk => ?_
  simp [hc0]
  rintro v c1 hc1 ⟨P, -, rfl, ok⟩
  simp
  refine hk _ ?_
  clear hk
  clear K
  have many := ok.many
  refine seq_k fun K hk => ?_
  simp
  refine ⟨_, ⟨P, rfl, ok, rfl⟩, ?_⟩
  simp
  refine hk _ ?_
  clear hk
  clear K
  refine seq_k fun K hk => ?_
  simp
  refine for_inv (fun ds σ => ∃ (c : D) (s4 : Sl), CupOk c ∧ freeSl (some s4) ∧ σ = [.val (.list (ns.map .int)), .own c, .val P.enc, .own (.list (P.ls.map lineD)), s4]) ?_ ?_ _ _ ⟨c1, .un, hc1, trivial, rfl⟩
  · rintro d ds σ ⟨c, s4, hc, h4, rfl⟩ nx hnx
    simp [h4, hc]
    refine ⟨⟨P.ls, rfl, ok.ln, many⟩, ?_⟩
    rintro v c2 hc2 ⟨a, b, rfl, ha, hb⟩
    simp
    have nc : noLc c2 = true := by
      obtain ⟨u, v, rfl, _⟩ := hc2
      rfl
    refine ⟨⟨rfl, nc⟩, _, ⟨P, a, b, rfl, ok, ha, hb, rfl⟩, ⟨rfl, rfl⟩, ?_⟩
    simp
    exact hnx _ ⟨c2, .val d, hc2, trivial, rfl⟩
  · rintro σ ⟨c, s4, hc, h4, rfl⟩
    refine hk _ ?_
    clear hk
    clear K
    simp
    exact hq
end DL
end L2
set_option Elab.async false
set_option maxRecDepth 100000
set_option maxHeartbeats 0
namespace L2
open PySem PySem.Spec PyProof.Rows
namespace DL
def top (i : Nat) : Stmt := PySem.Challenge.pw_countlaw_k65_greatest_sums.main.body.getD i (.Pass ⟨0, 0, 0, 0⟩)
def N_is_whole : List Str := ["value", "low", "high"]
def G_is_whole : List (Str × GE) := [("isinstance", .blt), ("int", .blt), ("bool", .blt)]
theorem t_is_whole : svs 60 30 ⟨defScope (top 11), N_is_whole, fun _ => true, G_is_whole⟩ (defBody (top 11)) = w_is_whole := by kernel_rfl
def N_is_tuple_of : List Str := ["value", "low", "high"]
def G_is_tuple_of : List (Str × GE) := [("isinstance", .blt), ("tuple", .blt), ("len", .blt)]
theorem t_is_tuple_of : svs 60 30 ⟨defScope (top 12), N_is_tuple_of, fun _ => true, G_is_tuple_of⟩ (defBody (top 12)) = w_is_tuple_of := by kernel_rfl
def N_fits_row : List Str := ["letters", "value", "one"]
def G_fits_row (f_is_tuple_of f_is_whole : FI) : List (Str × GE) := [("is_tuple_of", .fn f_is_tuple_of), ("all", .blt), ("is_whole", .fn f_is_whole), ("SIZE", .cst (.int 1000000000))]
theorem t_fits_row (f_is_tuple_of f_is_whole : FI) : svs 60 30 ⟨defScope (top 13), N_fits_row, fun _ => true, G_fits_row f_is_tuple_of f_is_whole⟩ (defBody (top 13)) = w_fits_row f_is_tuple_of f_is_whole := by kernel_rfl
def N_fits_leaf : List Str := ["letters", "value"]
def G_fits_leaf (f_fits_row f_is_whole : FI) : List (Str × GE) := [("len", .blt), ("fits_row", .fn f_fits_row), ("is_whole", .fn f_is_whole), ("NUMBER", .cst (.int 1000000000000)), ("DIVISOR", .cst (.int 1000000))]
theorem t_fits_leaf (f_fits_row f_is_whole : FI) : svs 60 30 ⟨defScope (top 14), N_fits_leaf, fun _ => true, G_fits_leaf f_fits_row f_is_whole⟩ (defBody (top 14)) = w_fits_leaf f_fits_row f_is_whole := by kernel_rfl
def N_parts_of : List Str := ["value"]
def G_parts_of : List (Str × GE) := []
theorem t_parts_of : svs 60 30 ⟨defScope (top 15), N_parts_of, fun _ => true, G_parts_of⟩ (defBody (top 15)) = w_parts_of := by kernel_rfl
def N_fits_knot : List Str := ["value"]
def G_fits_knot (f_is_tuple_of : FI) : List (Str × GE) := [("len", .blt), ("is_tuple_of", .fn f_is_tuple_of), ("PARTS", .cst (.int 4000))]
theorem t_fits_knot (f_is_tuple_of : FI) : svs 60 30 ⟨defScope (top 16), N_fits_knot, fun _ => true, G_fits_knot f_is_tuple_of⟩ (defBody (top 16)) = w_fits_knot f_is_tuple_of := by kernel_rfl
def N_fits_test : List Str := ["letters", "value", "line", "many", "one", "deep", "part"]
def G_fits_test (f_is_tuple_of f_fits_leaf f_fits_knot f_parts_of : FI) : List (Str × GE) := [("PARTS", .cst (.int 4000)), ("NESTED", .cst (.int 12)), ("is_tuple_of", .fn f_is_tuple_of), ("isinstance", .blt), ("str", .blt), ("fits_leaf", .fn f_fits_leaf), ("fits_knot", .fn f_fits_knot), ("parts_of", .fn f_parts_of)]
theorem t_fits_test (f_is_tuple_of f_fits_leaf f_fits_knot f_parts_of : FI) : svs 60 30 ⟨defScope (top 17), N_fits_test, fun _ => true, G_fits_test f_is_tuple_of f_fits_leaf f_fits_knot f_parts_of⟩ (defBody (top 17)) = w_fits_test f_is_tuple_of f_fits_leaf f_fits_knot f_parts_of := by kernel_rfl
def N_leaves_of : List Str := ["test", "found", "line", "one"]
def G_leaves_of (f_parts_of : FI) : List (Str × GE) := [("list", .blt), ("parts_of", .fn f_parts_of)]
theorem t_leaves_of (f_parts_of : FI) : svs 60 30 ⟨defScope (top 18), N_leaves_of, fun _ => true, G_leaves_of f_parts_of⟩ (defBody (top 18)) = w_leaves_of f_parts_of := by kernel_rfl
def N_common_divisor : List Str := ["one", "other"]
def G_common_divisor : List (Str × GE) := [("abs", .blt)]
theorem t_common_divisor : svs 60 30 ⟨defScope (top 28), N_common_divisor, fun _ => true, G_common_divisor⟩ (defBody (top 28)) = w_common_divisor := by kernel_rfl
def N_common_multiple : List Str := ["numbers", "found", "number"]
def G_common_multiple (f_common_divisor : FI) : List (Str × GE) := [("common_divisor", .fn f_common_divisor)]
theorem t_common_multiple (f_common_divisor : FI) : svs 60 30 ⟨defScope (top 29), N_common_multiple, fun _ => true, G_common_multiple f_common_divisor⟩ (defBody (top 29)) = w_common_multiple f_common_divisor := by kernel_rfl
def N_divisors_in : List Str := ["test", "leaf"]
def G_divisors_in (f_leaves_of : FI) : List (Str × GE) := [("leaves_of", .fn f_leaves_of)]
theorem t_divisors_in (f_leaves_of : FI) : svs 60 30 ⟨defScope (top 30), N_divisors_in, fun _ => true, G_divisors_in f_leaves_of⟩ (defBody (top 30)) = w_divisors_in f_leaves_of := by kernel_rfl
def N_period_of : List Str := ["test"]
def G_period_of (f_common_multiple f_divisors_in : FI) : List (Str × GE) := [("common_multiple", .fn f_common_multiple), ("divisors_in", .fn f_divisors_in)]
theorem t_period_of (f_common_multiple f_divisors_in : FI) : svs 60 30 ⟨defScope (top 31), N_period_of, fun _ => true, G_period_of f_common_multiple f_divisors_in⟩ (defBody (top 31)) = w_period_of f_common_multiple f_divisors_in := by kernel_rfl
def N_row_of : List Str := ["leaf"]
def G_row_of : List (Str × GE) := []
theorem t_row_of : svs 60 30 ⟨defScope (top 32), N_row_of, fun _ => true, G_row_of⟩ (defBody (top 32)) = w_row_of := by kernel_rfl
def N_is_small_leaf : List Str := ["leaf", "row", "one"]
def G_is_small_leaf (f_row_of : FI) : List (Str × GE) := [("row_of", .fn f_row_of), ("all", .blt), ("CONSTANT", .cst (.int 20)), ("HIGHEST", .cst (.int 6)), ("LEAD", .cst (.int 3)), ("OTHER", .cst (.int 1))]
theorem t_is_small_leaf (f_row_of : FI) : svs 60 30 ⟨defScope (top 33), N_is_small_leaf, fun _ => true, G_is_small_leaf f_row_of⟩ (defBody (top 33)) = w_is_small_leaf f_row_of := by kernel_rfl
def N_height_of : List Str := ["test", "parts", "part"]
def G_height_of (f_height_of : FI) : List (Str × GE) := [("max", .blt), ("height_of", .fn f_height_of)]
theorem t_height_of (f_height_of : FI) : svs 60 30 ⟨defScope (top 34), N_height_of, fun _ => true, G_height_of f_height_of⟩ (defBody (top 34)) = w_height_of f_height_of := by kernel_rfl
def N_fits_formula : List Str := ["value", "letters", "leaves", "one", "leaf"]
def G_fits_formula (f_is_tuple_of f_is_whole f_fits_test f_height_of f_leaves_of f_period_of f_is_small_leaf : FI) : List (Str × GE) := [("is_tuple_of", .fn f_is_tuple_of), ("is_whole", .fn f_is_whole), ("LETTERS", .cst (.int 3)), ("len", .blt), ("all", .blt), ("fits_test", .fn f_fits_test), ("height_of", .fn f_height_of), ("DEEP", .cst (.int 6)), ("leaves_of", .fn f_leaves_of), ("LEAVES", .cst (.int 6)), ("period_of", .fn f_period_of), ("MULTIPLE", .cst (.int 6)), ("isinstance", .blt), ("str", .blt), ("TELLS", .cst (.tuple [.str "some", .str "all"])), ("is_small_leaf", .fn f_is_small_leaf)]
theorem t_fits_formula (f_is_tuple_of f_is_whole f_fits_test f_height_of f_leaves_of f_period_of f_is_small_leaf : FI) : svs 60 30 ⟨defScope (top 35), N_fits_formula, fun _ => true, G_fits_formula f_is_tuple_of f_is_whole f_fits_test f_height_of f_leaves_of f_period_of f_is_small_leaf⟩ (defBody (top 35)) = w_fits_formula f_is_tuple_of f_is_whole f_fits_test f_height_of f_leaves_of f_period_of f_is_small_leaf := by kernel_rfl
def N_fits_plain_set : List Str := ["value", "test", "one"]
def G_fits_plain_set (f_fits_formula : FI) : List (Str × GE) := [("fits_formula", .fn f_fits_formula), ("all", .blt)]
theorem t_fits_plain_set (f_fits_formula : FI) : svs 60 30 ⟨defScope (top 39), N_fits_plain_set, fun _ => true, G_fits_plain_set f_fits_formula⟩ (defBody (top 39)) = w_fits_plain_set f_fits_formula := by kernel_rfl
def N_need_plain_set : List Str := ["value"]
def G_need_plain_set (f_fits_plain_set : FI) : List (Str × GE) := [("fits_plain_set", .fn f_fits_plain_set), ("InvalidFormula", .exc)]
theorem t_need_plain_set (f_fits_plain_set : FI) : svs 60 30 ⟨defScope (top 40), N_need_plain_set, fun _ => true, G_need_plain_set f_fits_plain_set⟩ (defBody (top 40)) = w_need_plain_set f_fits_plain_set := by kernel_rfl
def N_need_row : List Str := ["value", "one"]
def G_need_row (f_is_tuple_of f_is_whole : FI) : List (Str × GE) := [("is_tuple_of", .fn f_is_tuple_of), ("all", .blt), ("InvalidRow", .exc), ("is_whole", .fn f_is_whole), ("ROW", .cst (.int 1000000))]
theorem t_need_row (f_is_tuple_of f_is_whole : FI) : svs 60 30 ⟨defScope (top 41), N_need_row, fun _ => true, G_need_row f_is_tuple_of f_is_whole⟩ (defBody (top 41)) = w_need_row f_is_tuple_of f_is_whole := by kernel_rfl
def N_lines_of : List Str := ["formula", "test", "leaves", "leaf"]
def G_lines_of : List (Str × GE) := [("list", .blt)]
theorem t_lines_of : svs 60 30 ⟨defScope (top 42), N_lines_of, fun _ => true, G_lines_of⟩ (defBody (top 42)) = w_lines_of := by kernel_rfl
def N_lines_with : List Str := ["lines", "other", "at", "row", "c"]
def G_lines_with : List (Str × GE) := [("enumerate", .blt)]
theorem t_lines_with : svs 60 30 ⟨defScope (top 43), N_lines_with, fun _ => true, G_lines_with⟩ (defBody (top 43)) = w_lines_with := by kernel_rfl
def N_bounds_in : List Str := ["lines", "found", "above", "at", "a", "c", "below"]
def G_bounds_in (f_lines_with : FI) : List (Str × GE) := [("lines_with", .fn f_lines_with)]
theorem t_bounds_in (f_lines_with : FI) : svs 60 30 ⟨defScope (top 44), N_bounds_in, fun _ => true, G_bounds_in f_lines_with⟩ (defBody (top 44)) = w_bounds_in f_lines_with := by kernel_rfl
def N_highest_lead : List Str := ["bounds", "found", "parts", "s", "t"]
def G_highest_lead : List (Str × GE) := [("min", .blt)]
theorem t_highest_lead : svs 60 30 ⟨defScope (top 45), N_highest_lead, fun _ => true, G_highest_lead⟩ (defBody (top 45)) = w_highest_lead := by kernel_rfl
def N_lowest_lead : List Str := ["bounds", "found", "parts", "s", "t"]
def G_lowest_lead : List (Str × GE) := [("max", .blt)]
theorem t_lowest_lead : svs 60 30 ⟨defScope (top 46), N_lowest_lead, fun _ => true, G_lowest_lead⟩ (defBody (top 46)) = w_lowest_lead := by kernel_rfl
def N_has_points : List Str := ["bounds", "low", "high", "parts", "s", "t"]
def G_has_points (f_lowest_lead f_highest_lead : FI) : List (Str × GE) := [("any", .blt), ("lowest_lead", .fn f_lowest_lead), ("highest_lead", .fn f_highest_lead)]
theorem t_has_points (f_lowest_lead f_highest_lead : FI) : svs 60 30 ⟨defScope (top 47), N_has_points, fun _ => true, G_has_points f_lowest_lead f_highest_lead⟩ (defBody (top 47)) = w_has_points f_lowest_lead f_highest_lead := by kernel_rfl
def N_top_at : List Str := ["some", "lead", "at", "a", "c"]
def G_top_at : List (Str × GE) := [("min", .blt)]
theorem t_top_at : svs 60 30 ⟨defScope (top 48), N_top_at, fun _ => true, G_top_at⟩ (defBody (top 48)) = w_top_at := by kernel_rfl
def N_leads_of : List Str := ["bounds", "low", "high"]
def G_leads_of (f_lowest_lead f_highest_lead : FI) : List (Str × GE) := [("lowest_lead", .fn f_lowest_lead), ("highest_lead", .fn f_highest_lead), ("list", .blt), ("range", .blt), ("FAR", .cst (.int 60))]
theorem t_leads_of (f_lowest_lead f_highest_lead : FI) : svs 60 30 ⟨defScope (top 49), N_leads_of, fun _ => true, G_leads_of f_lowest_lead f_highest_lead⟩ (defBody (top 49)) = w_leads_of f_lowest_lead f_highest_lead := by kernel_rfl
def N_tops_that_turn : List Str := ["some", "bounds", "low", "high", "found", "lead", "top"]
def G_tops_that_turn (f_lowest_lead f_highest_lead f_leads_of f_top_at : FI) : List (Str × GE) := [("lowest_lead", .fn f_lowest_lead), ("highest_lead", .fn f_highest_lead), ("leads_of", .fn f_leads_of), ("top_at", .fn f_top_at)]
theorem t_tops_that_turn (f_lowest_lead f_highest_lead f_leads_of f_top_at : FI) : svs 60 30 ⟨defScope (top 50), N_tops_that_turn, fun _ => true, G_tops_that_turn f_lowest_lead f_highest_lead f_leads_of f_top_at⟩ (defBody (top 50)) = w_tops_that_turn f_lowest_lead f_highest_lead f_leads_of f_top_at := by kernel_rfl
def N_worths_of : List Str := ["some", "row", "leads", "lead"]
def G_worths_of (f_top_at : FI) : List (Str × GE) := [("top_at", .fn f_top_at)]
theorem t_worths_of (f_top_at : FI) : svs 60 30 ⟨defScope (top 51), N_worths_of, fun _ => true, G_worths_of f_top_at⟩ (defBody (top 51)) = w_worths_of f_top_at := by kernel_rfl
def N_side_of : List Str := ["lines", "row"]
def G_side_of (f_lines_with : FI) : List (Str × GE) := [("lines_with", .fn f_lines_with)]
theorem t_side_of (f_lines_with : FI) : svs 60 30 ⟨defScope (top 52), N_side_of, fun _ => true, G_side_of f_lines_with⟩ (defBody (top 52)) = w_side_of_v1 f_lines_with := by kernel_rfl
def N_is_endless : List Str := ["some", "row", "bounds", "above", "below"]
def G_is_endless (f_worths_of f_highest_lead f_lowest_lead : FI) : List (Str × GE) := [("worths_of", .fn f_worths_of), ("FAR", .cst (.int 60)), ("highest_lead", .fn f_highest_lead), ("lowest_lead", .fn f_lowest_lead)]
theorem t_is_endless (f_worths_of f_highest_lead f_lowest_lead : FI) : svs 60 30 ⟨defScope (top 53), N_is_endless, fun _ => true, G_is_endless f_worths_of f_highest_lead f_lowest_lead⟩ (defBody (top 53)) = w_is_endless f_worths_of f_highest_lead f_lowest_lead := by kernel_rfl
def N_best_lead : List Str := ["some", "row", "bounds", "leads", "worths"]
def G_best_lead (f_leads_of f_worths_of : FI) : List (Str × GE) := [("leads_of", .fn f_leads_of), ("worths_of", .fn f_worths_of), ("max", .blt)]
theorem t_best_lead (f_leads_of f_worths_of : FI) : svs 60 30 ⟨defScope (top 54), N_best_lead, fun _ => true, G_best_lead f_leads_of f_worths_of⟩ (defBody (top 54)) = w_best_lead f_leads_of f_worths_of := by kernel_rfl
def N_other_at : List Str := ["lines", "row", "lead", "above", "below"]
def G_other_at (f_lines_with f_top_at : FI) : List (Str × GE) := [("lines_with", .fn f_lines_with), ("top_at", .fn f_top_at)]
theorem t_other_at (f_lines_with f_top_at : FI) : svs 60 30 ⟨defScope (top 55), N_other_at, fun _ => true, G_other_at f_lines_with f_top_at⟩ (defBody (top 55)) = w_other_at f_lines_with f_top_at := by kernel_rfl
def N_corners_of : List Str := ["formula", "lines", "bounds", "found", "lead", "top"]
def G_corners_of (f_need_plain_set f_lines_of f_bounds_in f_has_points f_tops_that_turn f_lines_with : FI) : List (Str × GE) := [("need_plain_set", .fn f_need_plain_set), ("lines_of", .fn f_lines_of), ("bounds_in", .fn f_bounds_in), ("has_points", .fn f_has_points), ("tops_that_turn", .fn f_tops_that_turn), ("lines_with", .fn f_lines_with), ("tuple", .blt), ("sorted", .blt), ("set", .blt)]
theorem t_corners_of (f_need_plain_set f_lines_of f_bounds_in f_has_points f_tops_that_turn f_lines_with : FI) : svs 60 30 ⟨defScope (top 56), N_corners_of, fun _ => true, G_corners_of f_need_plain_set f_lines_of f_bounds_in f_has_points f_tops_that_turn f_lines_with⟩ (defBody (top 56)) = w_corners_of f_need_plain_set f_lines_of f_bounds_in f_has_points f_tops_that_turn f_lines_with := by kernel_rfl
def N_greatest_of : List Str := ["formula", "row", "lines", "bounds", "some", "turned", "lead", "worth"]
def G_greatest_of (f_need_plain_set f_need_row f_lines_of f_bounds_in f_has_points f_side_of f_is_endless f_best_lead f_other_at : FI) : List (Str × GE) := [("need_plain_set", .fn f_need_plain_set), ("need_row", .fn f_need_row), ("lines_of", .fn f_lines_of), ("bounds_in", .fn f_bounds_in), ("has_points", .fn f_has_points), ("side_of", .fnZ f_side_of 99), ("is_endless", .fn f_is_endless), ("best_lead", .fn f_best_lead), ("other_at", .fn f_other_at)]
theorem t_greatest_of (f_need_plain_set f_need_row f_lines_of f_bounds_in f_has_points f_side_of f_is_endless f_best_lead f_other_at : FI) : svs 60 30 ⟨defScope (top 57), N_greatest_of, fun _ => true, G_greatest_of f_need_plain_set f_need_row f_lines_of f_bounds_in f_has_points f_side_of f_is_endless f_best_lead f_other_at⟩ (defBody (top 57)) = w_greatest_of_v1 f_need_plain_set f_need_row f_lines_of f_bounds_in f_has_points f_side_of f_is_endless f_best_lead f_other_at := by kernel_rfl
def N__law_cup : List Str := ["script", "cell"]
def G__law_cup : List (Str × GE) := [("abs", .blt), ("list", .blt), ("int", .blt)]
theorem t__law_cup : svs 60 30 ⟨defScope (top 59), N__law_cup, fun _ => true, G__law_cup⟩ (defBody (top 59)) = w__law_cup := by kernel_rfl
def N__law_roll : List Str := ["cup", "many", "found", "deep"]
def G__law_roll : List (Str × GE) := [("int", .blt)]
theorem t__law_roll : svs 60 30 ⟨defScope (top 60), N__law_roll, fun _ => true, G__law_roll⟩ (defBody (top 60)) = w__law_roll := by kernel_rfl
def N__law_some : List Str := ["cup", "things"]
def G__law_some (f__law_roll : FI) : List (Str × GE) := [("_law_roll", .fn f__law_roll), ("len", .blt)]
theorem t__law_some (f__law_roll : FI) : svs 60 30 ⟨defScope (top 61), N__law_some, fun _ => true, G__law_some f__law_roll⟩ (defBody (top 61)) = w__law_some f__law_roll := by kernel_rfl
def N__law_plain_set : List Str := ["cup", "lines", "turn", "row"]
def G__law_plain_set (f__law_some f__law_roll : FI) : List (Str × GE) := [("range", .blt), ("_law_some", .fnZ f__law_some 0), ("_law_roll", .fn f__law_roll), ("len", .blt), ("tuple", .blt)]
theorem t__law_plain_set (f__law_some f__law_roll : FI) : svs 60 30 ⟨defScope (top 62), N__law_plain_set, fun _ => true, G__law_plain_set f__law_some f__law_roll⟩ (defBody (top 62)) = w__law_plain_set f__law_some f__law_roll := by kernel_rfl
def N__law_lines : List Str := ["formula", "test", "leaf"]
def G__law_lines : List (Str × GE) := []
theorem t__law_lines : svs 60 30 ⟨defScope (top 63), N__law_lines, fun _ => true, G__law_lines⟩ (defBody (top 63)) = w__law_lines := by kernel_rfl
def N__law_ends : List Str := ["lines", "lead", "low", "high", "row", "c", "left"]
def G__law_ends : List (Str × GE) := []
theorem t__law_ends : svs 60 30 ⟨defScope (top 64), N__law_ends, fun _ => true, G__law_ends⟩ (defBody (top 64)) = w__law_ends := by kernel_rfl
def N__law_pairs : List Str := ["lines", "far", "found", "lead", "ends"]
def G__law_pairs (f__law_ends : FI) : List (Str × GE) := [("range", .blt), ("_law_ends", .fn f__law_ends)]
theorem t__law_pairs (f__law_ends : FI) : svs 60 30 ⟨defScope (top 65), N__law_pairs, fun _ => true, G__law_pairs f__law_ends⟩ (defBody (top 65)) = w__law_pairs f__law_ends := by kernel_rfl
def N__law_ways : List Str := ["lines", "some", "k", "row", "c", "way"]
def G__law_ways : List (Str × GE) := [("range", .blt)]
theorem t__law_ways : svs 60 30 ⟨defScope (top 66), N__law_ways, fun _ => true, G__law_ways⟩ (defBody (top 66)) = w__law_ways := by kernel_rfl
def N__law_greatest : List Str := ["lines", "row", "points", "way", "point"]
def G__law_greatest (f__law_pairs f__law_ways : FI) : List (Str × GE) := [("_law_pairs", .fn f__law_pairs), ("_law_ways", .fn f__law_ways), ("max", .blt), ("abs", .blt)]
theorem t__law_greatest (f__law_pairs f__law_ways : FI) : svs 60 30 ⟨defScope (top 67), N__law_greatest, fun _ => true, G__law_greatest f__law_pairs f__law_ways⟩ (defBody (top 67)) = w__law_greatest f__law_pairs f__law_ways := by kernel_rfl
def N__law_any_row : List Str := ["cup", "lines", "small", "rows", "one", "other", "k", "great", "line"]
def G__law_any_row (f__law_roll f__law_some : FI) : List (Str × GE) := [("_law_roll", .fn f__law_roll), ("_law_some", .fnZ f__law_some 0)]
theorem t__law_any_row (f__law_roll f__law_some : FI) : svs 60 30 ⟨defScope (top 68), N__law_any_row, fun _ => true, G__law_any_row f__law_roll f__law_some⟩ (defBody (top 68)) = w__law_any_row f__law_roll f__law_some := by kernel_rfl
def N__law_is_right : List Str := ["formula", "lines", "row", "due", "actual", "point", "corners", "one", "told", "c"]
def G__law_is_right (f__law_greatest f_greatest_of f_corners_of : FI) : List (Str × GE) := [("_law_greatest", .fn f__law_greatest), ("greatest_of", .fn f_greatest_of), ("repr", .blt), ("isinstance", .blt), ("tuple", .blt), ("len", .blt), ("corners_of", .fn f_corners_of), ("bool", .blt), ("int", .blt)]
theorem t__law_is_right (f__law_greatest f_greatest_of f_corners_of : FI) : svs 60 30 ⟨defScope (top 69), N__law_is_right, fun _ => true, G__law_is_right f__law_greatest f_greatest_of f_corners_of⟩ (defBody (top 69)) = w__law_is_right_k65 f__law_greatest f_greatest_of f_corners_of := by kernel_rfl
def N_law : List Str := ["script", "cup", "formula", "lines", "turn"]
def G_law (f__law_cup f__law_plain_set f__law_lines f__law_is_right f__law_any_row : FI) : List (Str × GE) := [("_law_cup", .fn f__law_cup), ("_law_plain_set", .fn f__law_plain_set), ("_law_lines", .fn f__law_lines), ("range", .blt), ("_law_is_right", .fn f__law_is_right), ("_law_any_row", .fn f__law_any_row)]
theorem t_law (f__law_cup f__law_plain_set f__law_lines f__law_is_right f__law_any_row : FI) : svs 60 30 ⟨defScope (top 70), N_law, fun _ => true, G_law f__law_cup f__law_plain_set f__law_lines f__law_is_right f__law_any_row⟩ (defBody (top 70)) = w_law f__law_cup f__law_plain_set f__law_lines f__law_is_right f__law_any_row := by kernel_rfl
end DL
end L2
set_option Elab.async false
set_option maxRecDepth 100000
set_option maxHeartbeats 0
namespace L2
open PySem PySem.Spec PyProof.Rows
namespace DL
def d_is_whole : He.DefD := ⟨("is_whole", none), "is_whole", "is_whole", defArgs (top 11), defBody (top 11), defScope (top 11), [], []⟩
def d_is_tuple_of : He.DefD := ⟨("is_tuple_of", none), "is_tuple_of", "is_tuple_of", defArgs (top 12), defBody (top 12), defScope (top 12), [], []⟩
def d_fits_row : He.DefD := ⟨("fits_row", none), "fits_row", "fits_row", defArgs (top 13), defBody (top 13), defScope (top 13), [], []⟩
def d_fits_leaf : He.DefD := ⟨("fits_leaf", none), "fits_leaf", "fits_leaf", defArgs (top 14), defBody (top 14), defScope (top 14), [], []⟩
def d_parts_of : He.DefD := ⟨("parts_of", none), "parts_of", "parts_of", defArgs (top 15), defBody (top 15), defScope (top 15), [], []⟩
def d_fits_knot : He.DefD := ⟨("fits_knot", none), "fits_knot", "fits_knot", defArgs (top 16), defBody (top 16), defScope (top 16), [], []⟩
def d_fits_test : He.DefD := ⟨("fits_test", none), "fits_test", "fits_test", defArgs (top 17), defBody (top 17), defScope (top 17), [], []⟩
def d_leaves_of : He.DefD := ⟨("leaves_of", none), "leaves_of", "leaves_of", defArgs (top 18), defBody (top 18), defScope (top 18), [], []⟩
def d_common_divisor : He.DefD := ⟨("common_divisor", none), "common_divisor", "common_divisor", defArgs (top 28), defBody (top 28), defScope (top 28), [], []⟩
def d_common_multiple : He.DefD := ⟨("common_multiple", none), "common_multiple", "common_multiple", defArgs (top 29), defBody (top 29), defScope (top 29), [], []⟩
def d_divisors_in : He.DefD := ⟨("divisors_in", none), "divisors_in", "divisors_in", defArgs (top 30), defBody (top 30), defScope (top 30), [], []⟩
def d_period_of : He.DefD := ⟨("period_of", none), "period_of", "period_of", defArgs (top 31), defBody (top 31), defScope (top 31), [], []⟩
def d_row_of : He.DefD := ⟨("row_of", none), "row_of", "row_of", defArgs (top 32), defBody (top 32), defScope (top 32), [], []⟩
def d_is_small_leaf : He.DefD := ⟨("is_small_leaf", none), "is_small_leaf", "is_small_leaf", defArgs (top 33), defBody (top 33), defScope (top 33), [], []⟩
def d_height_of : He.DefD := ⟨("height_of", none), "height_of", "height_of", defArgs (top 34), defBody (top 34), defScope (top 34), [], []⟩
def d_fits_formula : He.DefD := ⟨("fits_formula", none), "fits_formula", "fits_formula", defArgs (top 35), defBody (top 35), defScope (top 35), [], []⟩
def d_fits_plain_set : He.DefD := ⟨("fits_plain_set", none), "fits_plain_set", "fits_plain_set", defArgs (top 39), defBody (top 39), defScope (top 39), [], []⟩
def d_need_plain_set : He.DefD := ⟨("need_plain_set", none), "need_plain_set", "need_plain_set", defArgs (top 40), defBody (top 40), defScope (top 40), [], []⟩
def d_need_row : He.DefD := ⟨("need_row", none), "need_row", "need_row", defArgs (top 41), defBody (top 41), defScope (top 41), [], []⟩
def d_lines_of : He.DefD := ⟨("lines_of", none), "lines_of", "lines_of", defArgs (top 42), defBody (top 42), defScope (top 42), [], []⟩
def d_lines_with : He.DefD := ⟨("lines_with", none), "lines_with", "lines_with", defArgs (top 43), defBody (top 43), defScope (top 43), [], []⟩
def d_bounds_in : He.DefD := ⟨("bounds_in", none), "bounds_in", "bounds_in", defArgs (top 44), defBody (top 44), defScope (top 44), [], []⟩
def d_highest_lead : He.DefD := ⟨("highest_lead", none), "highest_lead", "highest_lead", defArgs (top 45), defBody (top 45), defScope (top 45), [], []⟩
def d_lowest_lead : He.DefD := ⟨("lowest_lead", none), "lowest_lead", "lowest_lead", defArgs (top 46), defBody (top 46), defScope (top 46), [], []⟩
def d_has_points : He.DefD := ⟨("has_points", none), "has_points", "has_points", defArgs (top 47), defBody (top 47), defScope (top 47), [], []⟩
def d_top_at : He.DefD := ⟨("top_at", none), "top_at", "top_at", defArgs (top 48), defBody (top 48), defScope (top 48), [], []⟩
def d_leads_of : He.DefD := ⟨("leads_of", none), "leads_of", "leads_of", defArgs (top 49), defBody (top 49), defScope (top 49), [], []⟩
def d_tops_that_turn : He.DefD := ⟨("tops_that_turn", none), "tops_that_turn", "tops_that_turn", defArgs (top 50), defBody (top 50), defScope (top 50), [], []⟩
def d_worths_of : He.DefD := ⟨("worths_of", none), "worths_of", "worths_of", defArgs (top 51), defBody (top 51), defScope (top 51), [], []⟩
def d_side_of : He.DefD := ⟨("side_of", none), "side_of", "side_of", defArgs (top 52), defBody (top 52), defScope (top 52), [], []⟩
def d_is_endless : He.DefD := ⟨("is_endless", none), "is_endless", "is_endless", defArgs (top 53), defBody (top 53), defScope (top 53), [], []⟩
def d_best_lead : He.DefD := ⟨("best_lead", none), "best_lead", "best_lead", defArgs (top 54), defBody (top 54), defScope (top 54), [], []⟩
def d_other_at : He.DefD := ⟨("other_at", none), "other_at", "other_at", defArgs (top 55), defBody (top 55), defScope (top 55), [], []⟩
def d_corners_of : He.DefD := ⟨("corners_of", none), "corners_of", "corners_of", defArgs (top 56), defBody (top 56), defScope (top 56), [], []⟩
def d_greatest_of : He.DefD := ⟨("greatest_of", none), "greatest_of", "greatest_of", defArgs (top 57), defBody (top 57), defScope (top 57), [], []⟩
def d__law_cup : He.DefD := ⟨("_law_cup", none), "_law_cup", "_law_cup", defArgs (top 59), defBody (top 59), defScope (top 59), [], []⟩
def d__law_roll : He.DefD := ⟨("_law_roll", none), "_law_roll", "_law_roll", defArgs (top 60), defBody (top 60), defScope (top 60), [], []⟩
def d__law_some : He.DefD := ⟨("_law_some", none), "_law_some", "_law_some", defArgs (top 61), defBody (top 61), defScope (top 61), [], []⟩
def d__law_plain_set : He.DefD := ⟨("_law_plain_set", none), "_law_plain_set", "_law_plain_set", defArgs (top 62), defBody (top 62), defScope (top 62), [], []⟩
def d__law_lines : He.DefD := ⟨("_law_lines", none), "_law_lines", "_law_lines", defArgs (top 63), defBody (top 63), defScope (top 63), [], []⟩
def d__law_ends : He.DefD := ⟨("_law_ends", none), "_law_ends", "_law_ends", defArgs (top 64), defBody (top 64), defScope (top 64), [], []⟩
def d__law_pairs : He.DefD := ⟨("_law_pairs", none), "_law_pairs", "_law_pairs", defArgs (top 65), defBody (top 65), defScope (top 65), [], []⟩
def d__law_ways : He.DefD := ⟨("_law_ways", none), "_law_ways", "_law_ways", defArgs (top 66), defBody (top 66), defScope (top 66), [], []⟩
def d__law_greatest : He.DefD := ⟨("_law_greatest", none), "_law_greatest", "_law_greatest", defArgs (top 67), defBody (top 67), defScope (top 67), [], []⟩
def d__law_any_row : He.DefD := ⟨("_law_any_row", none), "_law_any_row", "_law_any_row", defArgs (top 68), defBody (top 68), defScope (top 68), [], []⟩
def d__law_is_right : He.DefD := ⟨("_law_is_right", none), "_law_is_right", "_law_is_right", defArgs (top 69), defBody (top 69), defScope (top 69), [], []⟩
def d_law : He.DefD := ⟨("law", none), "law", "law", defArgs (top 70), defBody (top 70), defScope (top 70), [], []⟩
def fn : List He.DefD := [d_is_whole, d_is_tuple_of, d_fits_row, d_fits_leaf, d_parts_of, d_fits_knot, d_fits_test, d_leaves_of, d_common_divisor, d_common_multiple, d_divisors_in, d_period_of, d_row_of, d_is_small_leaf, d_height_of, d_fits_formula, d_fits_plain_set, d_need_plain_set, d_need_row, d_lines_of, d_lines_with, d_bounds_in, d_highest_lead, d_lowest_lead, d_has_points, d_top_at, d_leads_of, d_tops_that_turn, d_worths_of, d_side_of, d_is_endless, d_best_lead, d_other_at, d_corners_of, d_greatest_of, d__law_cup, d__law_roll, d__law_some, d__law_plain_set, d__law_lines, d__law_ends, d__law_pairs, d__law_ways, d__law_greatest, d__law_any_row, d__law_is_right, d_law]
def fa0 : List He.Fa := [.glo "is_whole", .free "bool", .free "int", .free "isinstance", .glo "is_tuple_of", .free "len", .free "tuple", .glo "fits_row", .int "SIZE" 1000000000, .free "all", .glo "fits_leaf", .int "DIVISOR" 1000000]
def fa1 : List He.Fa := [.int "NUMBER" 1000000000000, .glo "parts_of", .glo "fits_knot", .int "PARTS" 4000, .glo "fits_test", .free "str", .int "NESTED" 12, .glo "leaves_of", .free "list", .glo "common_divisor", .free "abs", .glo "common_multiple"]
def fa2 : List He.Fa := [.glo "divisors_in", .glo "period_of", .glo "row_of", .glo "is_small_leaf", .int "OTHER" 1, .int "LEAD" 3, .int "HIGHEST" 6, .int "CONSTANT" 20, .glo "height_of", .free "max", .glo "fits_formula", .glo "TELLS"]
def fa3 : List He.Fa := [.int "MULTIPLE" 6, .int "LEAVES" 6, .int "DEEP" 6, .int "LETTERS" 3, .glo "fits_plain_set", .glo "need_plain_set", .glo "InvalidFormula", .exc "InvalidFormula", .glo "need_row", .int "ROW" 1000000, .glo "InvalidRow", .exc "InvalidRow"]
def fa4 : List He.Fa := [.glo "lines_of", .glo "lines_with", .free "enumerate", .glo "bounds_in", .glo "highest_lead", .free "min", .glo "lowest_lead", .glo "has_points", .free "any", .glo "top_at", .glo "leads_of", .int "FAR" 60]
def fa5 : List He.Fa := [.free "range", .glo "tops_that_turn", .glo "worths_of", .glo "side_of", .glo "is_endless", .glo "best_lead", .glo "other_at", .glo "corners_of", .free "set", .free "sorted", .glo "greatest_of", .glo "_law_cup"]
def fa6 : List He.Fa := [.glo "_law_roll", .glo "_law_some", .glo "_law_plain_set", .glo "_law_lines", .glo "_law_ends", .glo "_law_pairs", .glo "_law_ways", .glo "_law_greatest", .glo "_law_any_row", .glo "_law_is_right", .free "repr", .glo "law"]
def fa : List He.Fa := fa0 ++ fa1 ++ fa2 ++ fa3 ++ fa4 ++ fa5 ++ fa6
def nam0 : List PySem.Str := ["CountError", "InvalidFormula", "InvalidRow", "LETTERS", "SIZE", "NUMBER", "DIVISOR", "NESTED", "PARTS", "is_whole", "is_tuple_of", "fits_row"]
def nam1 : List PySem.Str := ["fits_leaf", "parts_of", "fits_knot", "fits_test", "leaves_of", "LEAVES", "DEEP", "TELLS", "LEAD", "OTHER", "CONSTANT", "HIGHEST"]
def nam2 : List PySem.Str := ["MULTIPLE", "common_divisor", "common_multiple", "divisors_in", "period_of", "row_of", "is_small_leaf", "height_of", "fits_formula", "FAR", "ROW", "fits_plain_set"]
def nam3 : List PySem.Str := ["need_plain_set", "need_row", "lines_of", "lines_with", "bounds_in", "highest_lead", "lowest_lead", "has_points", "top_at", "leads_of", "tops_that_turn", "worths_of"]
def nam4 : List PySem.Str := ["side_of", "is_endless", "best_lead", "other_at", "corners_of", "greatest_of", "_law_cup", "_law_roll", "_law_some", "_law_plain_set", "_law_lines", "_law_ends"]
def nam5 : List PySem.Str := ["_law_pairs", "_law_ways", "_law_greatest", "_law_any_row", "_law_is_right"]
def namA : List PySem.Str := nam0 ++ nam1 ++ nam2 ++ nam3 ++ nam4 ++ nam5
def exB : PySem.W.Frag → Bool := fun K => true && (He.tupB K "TELLS" [.str "some", .str "all"])
abbrev R : PySem.W.OpenRow := PySem.W.OpenLaw.row PySem.Challenge.rw_countlaw_k65_greatest_sums
abbrev hk : PySem.W.Hook := hookQ 4 fa fn exB
def ob (s : PySem.W.SharedT) : AlQ := obsQ 4 fa fn exB (HandSHeadRun.getT s)
theorem ob_eq (s : PySem.W.SharedT) : ob s = hk.obs s.abs := obsQ_eq (HandSHeadRun.getT_eq s)
theorem run (w : World) : HandSHeadRun.RunEq R (PySem.W.view R.prog [70]) hk ob 40000 namA w := by
  intro os
  kernel_rfl
end DL
end L2
set_option Elab.async false
set_option maxRecDepth 100000
set_option maxHeartbeats 0
namespace L2
open PySem PySem.Spec PyProof.Rows
namespace DL
structure Hd (K : PySem.W.Frag) (h : Heap) (mg : Str → Option Value) : Prop where
  X : K.In h
  G : h.Ns mainGlobals mg
  c : SaysQ fa fn exB K
section
variable {P : Program} {w : World} {K : PySem.W.Frag} {h base0 : Heap} {mg : Str → Option Value}
theorem Hd.tup0 (z : Hd K h mg) : He.tupB K "TELLS" [.str "some", .str "all"] = true := (Bool.and_eq_true_iff.mp (show (true && (He.tupB K "TELLS" [.str "some", .str "all"])) = true from z.c.more)).2
theorem sc_is_whole : FnScope N_is_whole ["value", "low", "high"] (defScope (top 11)) := ⟨rfl, rfl, rfl, by decide +kernel, rfl, by decide +kernel, by decide +kernel⟩
theorem o_is_whole (z : Hd K h mg) : GlobOk P w K mg base0 1 "is_whole" (.fn f_is_whole) := by
  obtain ⟨fd, F⟩ := z.c.d.def_ 0 (d := d_is_whole) rfl
  exact glob_ev (a := 60) (b := 30) (k := 0) F (He.glo_ok z.X z.G (z.c.d.fact 0 rfl)) sc_is_whole rfl rfl (FunD.bindsN F fun _ _ _ _ _ _ us hl => match us, hl with | [_, _, _], _ => rfl) (show ∀ y g, List.lookup y (G_is_whole) = some g → GlobOk P w K mg base0 (0) y g from (gl_cons (glob_blt z.X z.G (z.c.d.fact 3 rfl)) (gl_cons (glob_blt z.X z.G (z.c.d.fact 2 rfl)) (gl_cons (glob_blt z.X z.G (z.c.d.fact 1 rfl)) gl_nil)))) (show Reads f_is_whole 0 (svs 60 30 ⟨defScope (top 11), N_is_whole, fun _ => true, G_is_whole⟩ (defBody (top 11))) from by rw [t_is_whole]; exact r_is_whole)
theorem sc_is_tuple_of : FnScope N_is_tuple_of ["value", "low", "high"] (defScope (top 12)) := ⟨rfl, rfl, rfl, by decide +kernel, rfl, by decide +kernel, by decide +kernel⟩
theorem o_is_tuple_of (z : Hd K h mg) : GlobOk P w K mg base0 1 "is_tuple_of" (.fn f_is_tuple_of) := by
  obtain ⟨fd, F⟩ := z.c.d.def_ 1 (d := d_is_tuple_of) rfl
  exact glob_ev (a := 60) (b := 30) (k := 0) F (He.glo_ok z.X z.G (z.c.d.fact 4 rfl)) sc_is_tuple_of rfl rfl (FunD.bindsN F fun _ _ _ _ _ _ us hl => match us, hl with | [_, _, _], _ => rfl) (show ∀ y g, List.lookup y (G_is_tuple_of) = some g → GlobOk P w K mg base0 (0) y g from (gl_cons (glob_blt z.X z.G (z.c.d.fact 3 rfl)) (gl_cons (glob_blt z.X z.G (z.c.d.fact 6 rfl)) (gl_cons (glob_blt z.X z.G (z.c.d.fact 5 rfl)) gl_nil)))) (show Reads f_is_tuple_of 0 (svs 60 30 ⟨defScope (top 12), N_is_tuple_of, fun _ => true, G_is_tuple_of⟩ (defBody (top 12))) from by rw [t_is_tuple_of]; exact r_is_tuple_of)
theorem sc_fits_row : FnScope N_fits_row ["letters", "value"] (defScope (top 13)) := ⟨rfl, rfl, rfl, by decide +kernel, rfl, by decide +kernel, by decide +kernel⟩
theorem o_fits_row (z : Hd K h mg) : GlobOk P w K mg base0 2 "fits_row" (.fn f_fits_row) := by
  obtain ⟨fd, F⟩ := z.c.d.def_ 2 (d := d_fits_row) rfl
  exact glob_ev (a := 60) (b := 30) (k := 1) F (He.glo_ok z.X z.G (z.c.d.fact 7 rfl)) sc_fits_row rfl rfl (FunD.bindsN F fun _ _ _ _ _ _ us hl => match us, hl with | [_, _], _ => rfl) (show ∀ y g, List.lookup y (G_fits_row f_is_tuple_of f_is_whole) = some g → GlobOk P w K mg base0 (1) y g from (gl_cons ((o_is_tuple_of z).mono (by omega)) (gl_cons (glob_blt z.X z.G (z.c.d.fact 9 rfl)) (gl_cons ((o_is_whole z).mono (by omega)) (gl_cons (glob_int z.X z.G (z.c.d.fact 8 rfl)) gl_nil))))) (show Reads f_fits_row 1 (svs 60 30 ⟨defScope (top 13), N_fits_row, fun _ => true, G_fits_row f_is_tuple_of f_is_whole⟩ (defBody (top 13))) from by rw [t_fits_row]; exact r_fits_row)
theorem sc_fits_leaf : FnScope N_fits_leaf ["letters", "value"] (defScope (top 14)) := ⟨rfl, rfl, rfl, by decide +kernel, rfl, by decide +kernel, by decide +kernel⟩
theorem o_fits_leaf (z : Hd K h mg) : GlobOk P w K mg base0 3 "fits_leaf" (.fn f_fits_leaf) := by
  obtain ⟨fd, F⟩ := z.c.d.def_ 3 (d := d_fits_leaf) rfl
  exact glob_ev (a := 60) (b := 30) (k := 2) F (He.glo_ok z.X z.G (z.c.d.fact 10 rfl)) sc_fits_leaf rfl rfl (FunD.bindsN F fun _ _ _ _ _ _ us hl => match us, hl with | [_, _], _ => rfl) (show ∀ y g, List.lookup y (G_fits_leaf f_fits_row f_is_whole) = some g → GlobOk P w K mg base0 (2) y g from (gl_cons (glob_blt z.X z.G (z.c.d.fact 5 rfl)) (gl_cons ((o_fits_row z).mono (by omega)) (gl_cons ((o_is_whole z).mono (by omega)) (gl_cons (glob_int z.X z.G (z.c.d.fact 12 rfl)) (gl_cons (glob_int z.X z.G (z.c.d.fact 11 rfl)) gl_nil)))))) (show Reads f_fits_leaf 0 (svs 60 30 ⟨defScope (top 14), N_fits_leaf, fun _ => true, G_fits_leaf f_fits_row f_is_whole⟩ (defBody (top 14))) from by rw [t_fits_leaf]; exact r_fits_leaf)
theorem sc_parts_of : FnScope N_parts_of ["value"] (defScope (top 15)) := ⟨rfl, rfl, rfl, by decide +kernel, rfl, by decide +kernel, by decide +kernel⟩
theorem o_parts_of (z : Hd K h mg) : GlobOk P w K mg base0 1 "parts_of" (.fn f_parts_of) := by
  obtain ⟨fd, F⟩ := z.c.d.def_ 4 (d := d_parts_of) rfl
  exact glob_ev (a := 60) (b := 30) (k := 0) F (He.glo_ok z.X z.G (z.c.d.fact 13 rfl)) sc_parts_of rfl rfl (FunD.bindsN F fun _ _ _ _ _ _ us hl => match us, hl with | [_], _ => rfl) (show ∀ y g, List.lookup y (G_parts_of) = some g → GlobOk P w K mg base0 (0) y g from gl_nil) (show Reads f_parts_of 0 (svs 60 30 ⟨defScope (top 15), N_parts_of, fun _ => true, G_parts_of⟩ (defBody (top 15))) from by rw [t_parts_of]; exact r_parts_of)
theorem sc_fits_knot : FnScope N_fits_knot ["value"] (defScope (top 16)) := ⟨rfl, rfl, rfl, by decide +kernel, rfl, by decide +kernel, by decide +kernel⟩
theorem o_fits_knot (z : Hd K h mg) : GlobOk P w K mg base0 2 "fits_knot" (.fn f_fits_knot) := by
  obtain ⟨fd, F⟩ := z.c.d.def_ 5 (d := d_fits_knot) rfl
  exact glob_ev (a := 60) (b := 30) (k := 1) F (He.glo_ok z.X z.G (z.c.d.fact 14 rfl)) sc_fits_knot rfl rfl (FunD.bindsN F fun _ _ _ _ _ _ us hl => match us, hl with | [_], _ => rfl) (show ∀ y g, List.lookup y (G_fits_knot f_is_tuple_of) = some g → GlobOk P w K mg base0 (1) y g from (gl_cons (glob_blt z.X z.G (z.c.d.fact 5 rfl)) (gl_cons ((o_is_tuple_of z).mono (by omega)) (gl_cons (glob_int z.X z.G (z.c.d.fact 15 rfl)) gl_nil)))) (show Reads f_fits_knot 0 (svs 60 30 ⟨defScope (top 16), N_fits_knot, fun _ => true, G_fits_knot f_is_tuple_of⟩ (defBody (top 16))) from by rw [t_fits_knot]; exact r_fits_knot)
theorem sc_fits_test : FnScope N_fits_test ["letters", "value"] (defScope (top 17)) := ⟨rfl, rfl, rfl, by decide +kernel, rfl, by decide +kernel, by decide +kernel⟩
theorem o_fits_test (z : Hd K h mg) : GlobOk P w K mg base0 4 "fits_test" (.fn f_fits_test) := by
  obtain ⟨fd, F⟩ := z.c.d.def_ 6 (d := d_fits_test) rfl
  exact glob_ev (a := 60) (b := 30) (k := 3) F (He.glo_ok z.X z.G (z.c.d.fact 16 rfl)) sc_fits_test rfl rfl (FunD.bindsN F fun _ _ _ _ _ _ us hl => match us, hl with | [_, _], _ => rfl) (show ∀ y g, List.lookup y (G_fits_test f_is_tuple_of f_fits_leaf f_fits_knot f_parts_of) = some g → GlobOk P w K mg base0 (3) y g from (gl_cons (glob_int z.X z.G (z.c.d.fact 15 rfl)) (gl_cons (glob_int z.X z.G (z.c.d.fact 18 rfl)) (gl_cons ((o_is_tuple_of z).mono (by omega)) (gl_cons (glob_blt z.X z.G (z.c.d.fact 3 rfl)) (gl_cons (glob_blt z.X z.G (z.c.d.fact 17 rfl)) (gl_cons ((o_fits_leaf z).mono (by omega)) (gl_cons ((o_fits_knot z).mono (by omega)) (gl_cons ((o_parts_of z).mono (by omega)) gl_nil))))))))) (show Reads f_fits_test 5 (svs 60 30 ⟨defScope (top 17), N_fits_test, fun _ => true, G_fits_test f_is_tuple_of f_fits_leaf f_fits_knot f_parts_of⟩ (defBody (top 17))) from by rw [t_fits_test]; exact r_fits_test)
theorem sc_leaves_of : FnScope N_leaves_of ["test"] (defScope (top 18)) := ⟨rfl, rfl, rfl, by decide +kernel, rfl, by decide +kernel, by decide +kernel⟩
theorem o_leaves_of (z : Hd K h mg) : GlobOk P w K mg base0 2 "leaves_of" (.fn f_leaves_of) := by
  obtain ⟨fd, F⟩ := z.c.d.def_ 7 (d := d_leaves_of) rfl
  exact glob_ev (a := 60) (b := 30) (k := 1) F (He.glo_ok z.X z.G (z.c.d.fact 19 rfl)) sc_leaves_of rfl rfl (FunD.bindsN F fun _ _ _ _ _ _ us hl => match us, hl with | [_], _ => rfl) (show ∀ y g, List.lookup y (G_leaves_of f_parts_of) = some g → GlobOk P w K mg base0 (1) y g from (gl_cons (glob_blt z.X z.G (z.c.d.fact 20 rfl)) (gl_cons ((o_parts_of z).mono (by omega)) gl_nil))) (show Reads f_leaves_of 3 (svs 60 30 ⟨defScope (top 18), N_leaves_of, fun _ => true, G_leaves_of f_parts_of⟩ (defBody (top 18))) from by rw [t_leaves_of]; exact r_leaves_of)
theorem sc_common_divisor : FnScope N_common_divisor ["one", "other"] (defScope (top 28)) := ⟨rfl, rfl, rfl, by decide +kernel, rfl, by decide +kernel, by decide +kernel⟩
theorem o_common_divisor (z : Hd K h mg) : GlobOk P w K mg base0 1 "common_divisor" (.fn f_common_divisor) := by
  obtain ⟨fd, F⟩ := z.c.d.def_ 8 (d := d_common_divisor) rfl
  exact glob_ev (a := 60) (b := 30) (k := 0) F (He.glo_ok z.X z.G (z.c.d.fact 21 rfl)) sc_common_divisor rfl rfl (FunD.bindsN F fun _ _ _ _ _ _ us hl => match us, hl with | [_, _], _ => rfl) (show ∀ y g, List.lookup y (G_common_divisor) = some g → GlobOk P w K mg base0 (0) y g from (gl_cons (glob_blt z.X z.G (z.c.d.fact 22 rfl)) gl_nil)) (show Reads f_common_divisor 0 (svs 60 30 ⟨defScope (top 28), N_common_divisor, fun _ => true, G_common_divisor⟩ (defBody (top 28))) from by rw [t_common_divisor]; exact r_common_divisor)
theorem sc_common_multiple : FnScope N_common_multiple ["numbers"] (defScope (top 29)) := ⟨rfl, rfl, rfl, by decide +kernel, rfl, by decide +kernel, by decide +kernel⟩
theorem o_common_multiple (z : Hd K h mg) : GlobOk P w K mg base0 2 "common_multiple" (.fn f_common_multiple) := by
  obtain ⟨fd, F⟩ := z.c.d.def_ 9 (d := d_common_multiple) rfl
  exact glob_ev (a := 60) (b := 30) (k := 1) F (He.glo_ok z.X z.G (z.c.d.fact 23 rfl)) sc_common_multiple rfl rfl (FunD.bindsN F fun _ _ _ _ _ _ us hl => match us, hl with | [_], _ => rfl) (show ∀ y g, List.lookup y (G_common_multiple f_common_divisor) = some g → GlobOk P w K mg base0 (1) y g from (gl_cons ((o_common_divisor z).mono (by omega)) gl_nil)) (show Reads f_common_multiple 2 (svs 60 30 ⟨defScope (top 29), N_common_multiple, fun _ => true, G_common_multiple f_common_divisor⟩ (defBody (top 29))) from by rw [t_common_multiple]; exact r_common_multiple)
theorem sc_divisors_in : FnScope N_divisors_in ["test"] (defScope (top 30)) := ⟨rfl, rfl, rfl, by decide +kernel, rfl, by decide +kernel, by decide +kernel⟩
theorem o_divisors_in (z : Hd K h mg) : GlobOk P w K mg base0 3 "divisors_in" (.fn f_divisors_in) := by
  obtain ⟨fd, F⟩ := z.c.d.def_ 10 (d := d_divisors_in) rfl
  exact glob_ev (a := 60) (b := 30) (k := 2) F (He.glo_ok z.X z.G (z.c.d.fact 24 rfl)) sc_divisors_in rfl rfl (FunD.bindsN F fun _ _ _ _ _ _ us hl => match us, hl with | [_], _ => rfl) (show ∀ y g, List.lookup y (G_divisors_in f_leaves_of) = some g → GlobOk P w K mg base0 (2) y g from (gl_cons ((o_leaves_of z).mono (by omega)) gl_nil)) (show Reads f_divisors_in 1 (svs 60 30 ⟨defScope (top 30), N_divisors_in, fun _ => true, G_divisors_in f_leaves_of⟩ (defBody (top 30))) from by rw [t_divisors_in]; exact r_divisors_in)
theorem sc_period_of : FnScope N_period_of ["test"] (defScope (top 31)) := ⟨rfl, rfl, rfl, by decide +kernel, rfl, by decide +kernel, by decide +kernel⟩
theorem o_period_of (z : Hd K h mg) : GlobOk P w K mg base0 4 "period_of" (.fn f_period_of) := by
  obtain ⟨fd, F⟩ := z.c.d.def_ 11 (d := d_period_of) rfl
  exact glob_ev (a := 60) (b := 30) (k := 3) F (He.glo_ok z.X z.G (z.c.d.fact 25 rfl)) sc_period_of rfl rfl (FunD.bindsN F fun _ _ _ _ _ _ us hl => match us, hl with | [_], _ => rfl) (show ∀ y g, List.lookup y (G_period_of f_common_multiple f_divisors_in) = some g → GlobOk P w K mg base0 (3) y g from (gl_cons ((o_common_multiple z).mono (by omega)) (gl_cons ((o_divisors_in z).mono (by omega)) gl_nil))) (show Reads f_period_of 0 (svs 60 30 ⟨defScope (top 31), N_period_of, fun _ => true, G_period_of f_common_multiple f_divisors_in⟩ (defBody (top 31))) from by rw [t_period_of]; exact r_period_of)
theorem sc_row_of : FnScope N_row_of ["leaf"] (defScope (top 32)) := ⟨rfl, rfl, rfl, by decide +kernel, rfl, by decide +kernel, by decide +kernel⟩
theorem o_row_of (z : Hd K h mg) : GlobOk P w K mg base0 1 "row_of" (.fn f_row_of) := by
  obtain ⟨fd, F⟩ := z.c.d.def_ 12 (d := d_row_of) rfl
  exact glob_ev (a := 60) (b := 30) (k := 0) F (He.glo_ok z.X z.G (z.c.d.fact 26 rfl)) sc_row_of rfl rfl (FunD.bindsN F fun _ _ _ _ _ _ us hl => match us, hl with | [_], _ => rfl) (show ∀ y g, List.lookup y (G_row_of) = some g → GlobOk P w K mg base0 (0) y g from gl_nil) (show Reads f_row_of 0 (svs 60 30 ⟨defScope (top 32), N_row_of, fun _ => true, G_row_of⟩ (defBody (top 32))) from by rw [t_row_of]; exact r_row_of)
theorem sc_is_small_leaf : FnScope N_is_small_leaf ["leaf"] (defScope (top 33)) := ⟨rfl, rfl, rfl, by decide +kernel, rfl, by decide +kernel, by decide +kernel⟩
theorem o_is_small_leaf (z : Hd K h mg) : GlobOk P w K mg base0 2 "is_small_leaf" (.fn f_is_small_leaf) := by
  obtain ⟨fd, F⟩ := z.c.d.def_ 13 (d := d_is_small_leaf) rfl
  exact glob_ev (a := 60) (b := 30) (k := 1) F (He.glo_ok z.X z.G (z.c.d.fact 27 rfl)) sc_is_small_leaf rfl rfl (FunD.bindsN F fun _ _ _ _ _ _ us hl => match us, hl with | [_], _ => rfl) (show ∀ y g, List.lookup y (G_is_small_leaf f_row_of) = some g → GlobOk P w K mg base0 (1) y g from (gl_cons ((o_row_of z).mono (by omega)) (gl_cons (glob_blt z.X z.G (z.c.d.fact 9 rfl)) (gl_cons (glob_int z.X z.G (z.c.d.fact 31 rfl)) (gl_cons (glob_int z.X z.G (z.c.d.fact 30 rfl)) (gl_cons (glob_int z.X z.G (z.c.d.fact 29 rfl)) (gl_cons (glob_int z.X z.G (z.c.d.fact 28 rfl)) gl_nil))))))) (show Reads f_is_small_leaf 2 (svs 60 30 ⟨defScope (top 33), N_is_small_leaf, fun _ => true, G_is_small_leaf f_row_of⟩ (defBody (top 33))) from by rw [t_is_small_leaf]; exact r_is_small_leaf)
theorem sc_height_of : FnScope N_height_of ["test"] (defScope (top 34)) := ⟨rfl, rfl, rfl, by decide +kernel, rfl, by decide +kernel, by decide +kernel⟩
theorem o_height_of (z : Hd K h mg) : ∀ k, GlobOk P w K mg base0 (1 + k) "height_of" (.fn (f_height_of k))
  | 0 => by
    obtain ⟨fd, F⟩ := z.c.d.def_ 14 (d := d_height_of) rfl
    exact (glob_vac (k := 0) F (He.glo_ok z.X z.G (z.c.d.fact 32 rfl)) sc_height_of (FunD.bindsN F fun _ _ _ _ _ _ us hl => match us, hl with | [_], _ => rfl) (fun ds Q X hl h => by obtain ⟨r, e, hq⟩ := h; obtain ⟨t, rfl, dp, _⟩ := e; cases t <;> simp [Tt.deep] at dp)).mono (by omega)
  | k + 1 => by
    obtain ⟨fd, F⟩ := z.c.d.def_ 14 (d := d_height_of) rfl
    exact glob_ev (a := 60) (b := 30) (k := 1 + k) F (He.glo_ok z.X z.G (z.c.d.fact 32 rfl)) sc_height_of rfl rfl (FunD.bindsN F fun _ _ _ _ _ _ us hl => match us, hl with | [_], _ => rfl) (show ∀ y g, List.lookup y (G_height_of (f_height_of k)) = some g → GlobOk P w K mg base0 (1 + k) y g from (gl_cons (glob_blt z.X z.G (z.c.d.fact 33 rfl)) (gl_cons ((o_height_of z k).mono (by omega)) gl_nil))) (show Reads (f_height_of (k + 1)) 2 (svs 60 30 ⟨defScope (top 34), N_height_of, fun _ => true, G_height_of (f_height_of k)⟩ (defBody (top 34))) from by rw [t_height_of]; exact r_height_of k)
theorem sc_fits_formula : FnScope N_fits_formula ["value"] (defScope (top 35)) := ⟨rfl, rfl, rfl, by decide +kernel, rfl, by decide +kernel, by decide +kernel⟩
theorem o_fits_formula (z : Hd K h mg) : GlobOk P w K mg base0 14 "fits_formula" (.fn f_fits_formula) := by
  obtain ⟨fd, F⟩ := z.c.d.def_ 15 (d := d_fits_formula) rfl
  exact glob_ev (a := 60) (b := 30) (k := 13) F (He.glo_ok z.X z.G (z.c.d.fact 34 rfl)) sc_fits_formula rfl rfl (FunD.bindsN F fun _ _ _ _ _ _ us hl => match us, hl with | [_], _ => rfl) (show ∀ y g, List.lookup y (G_fits_formula f_is_tuple_of f_is_whole f_fits_test (f_height_of 12) f_leaves_of f_period_of f_is_small_leaf) = some g → GlobOk P w K mg base0 (13) y g from (gl_cons ((o_is_tuple_of z).mono (by omega)) (gl_cons ((o_is_whole z).mono (by omega)) (gl_cons (glob_int z.X z.G (z.c.d.fact 39 rfl)) (gl_cons (glob_blt z.X z.G (z.c.d.fact 5 rfl)) (gl_cons (glob_blt z.X z.G (z.c.d.fact 9 rfl)) (gl_cons ((o_fits_test z).mono (by omega)) (gl_cons ((o_height_of z 12).mono (by omega)) (gl_cons (glob_int z.X z.G (z.c.d.fact 38 rfl)) (gl_cons ((o_leaves_of z).mono (by omega)) (gl_cons (glob_int z.X z.G (z.c.d.fact 37 rfl)) (gl_cons ((o_period_of z).mono (by omega)) (gl_cons (glob_int z.X z.G (z.c.d.fact 36 rfl)) (gl_cons (glob_blt z.X z.G (z.c.d.fact 3 rfl)) (gl_cons (glob_blt z.X z.G (z.c.d.fact 17 rfl)) (gl_cons (glob_tup z.X z.G (z.c.d.fact 35 rfl) (z.tup0) (fun F => (.cons (.str _) (.cons (.str _) .nil)))) (gl_cons ((o_is_small_leaf z).mono (by omega)) gl_nil))))))))))))))))) (show Reads f_fits_formula 4 (svs 60 30 ⟨defScope (top 35), N_fits_formula, fun _ => true, G_fits_formula f_is_tuple_of f_is_whole f_fits_test (f_height_of 12) f_leaves_of f_period_of f_is_small_leaf⟩ (defBody (top 35))) from by rw [t_fits_formula]; exact r_fits_formula)
theorem sc_fits_plain_set : FnScope N_fits_plain_set ["value"] (defScope (top 39)) := ⟨rfl, rfl, rfl, by decide +kernel, rfl, by decide +kernel, by decide +kernel⟩
theorem o_fits_plain_set (z : Hd K h mg) : GlobOk P w K mg base0 15 "fits_plain_set" (.fn f_fits_plain_set) := by
  obtain ⟨fd, F⟩ := z.c.d.def_ 16 (d := d_fits_plain_set) rfl
  exact glob_ev (a := 60) (b := 30) (k := 14) F (He.glo_ok z.X z.G (z.c.d.fact 40 rfl)) sc_fits_plain_set rfl rfl (FunD.bindsN F fun _ _ _ _ _ _ us hl => match us, hl with | [_], _ => rfl) (show ∀ y g, List.lookup y (G_fits_plain_set f_fits_formula) = some g → GlobOk P w K mg base0 (14) y g from (gl_cons ((o_fits_formula z).mono (by omega)) (gl_cons (glob_blt z.X z.G (z.c.d.fact 9 rfl)) gl_nil))) (show Reads f_fits_plain_set 2 (svs 60 30 ⟨defScope (top 39), N_fits_plain_set, fun _ => true, G_fits_plain_set f_fits_formula⟩ (defBody (top 39))) from by rw [t_fits_plain_set]; exact r_fits_plain_set)
theorem sc_need_plain_set : FnScope N_need_plain_set ["value"] (defScope (top 40)) := ⟨rfl, rfl, rfl, by decide +kernel, rfl, by decide +kernel, by decide +kernel⟩
theorem o_need_plain_set (z : Hd K h mg) : GlobOk P w K mg base0 16 "need_plain_set" (.fn f_need_plain_set) := by
  obtain ⟨fd, F⟩ := z.c.d.def_ 17 (d := d_need_plain_set) rfl
  exact glob_ev (a := 60) (b := 30) (k := 15) F (He.glo_ok z.X z.G (z.c.d.fact 41 rfl)) sc_need_plain_set rfl rfl (FunD.bindsN F fun _ _ _ _ _ _ us hl => match us, hl with | [_], _ => rfl) (show ∀ y g, List.lookup y (G_need_plain_set f_fits_plain_set) = some g → GlobOk P w K mg base0 (15) y g from (gl_cons ((o_fits_plain_set z).mono (by omega)) (gl_cons (glob_exc z.X z.G (z.c.d.fact 42 rfl) (z.c.d.fact 43 rfl)) gl_nil))) (show Reads f_need_plain_set 0 (svs 60 30 ⟨defScope (top 40), N_need_plain_set, fun _ => true, G_need_plain_set f_fits_plain_set⟩ (defBody (top 40))) from by rw [t_need_plain_set]; exact r_need_plain_set)
theorem sc_need_row : FnScope N_need_row ["value"] (defScope (top 41)) := ⟨rfl, rfl, rfl, by decide +kernel, rfl, by decide +kernel, by decide +kernel⟩
theorem o_need_row (z : Hd K h mg) : GlobOk P w K mg base0 2 "need_row" (.fn f_need_row) := by
  obtain ⟨fd, F⟩ := z.c.d.def_ 18 (d := d_need_row) rfl
  exact glob_ev (a := 60) (b := 30) (k := 1) F (He.glo_ok z.X z.G (z.c.d.fact 44 rfl)) sc_need_row rfl rfl (FunD.bindsN F fun _ _ _ _ _ _ us hl => match us, hl with | [_], _ => rfl) (show ∀ y g, List.lookup y (G_need_row f_is_tuple_of f_is_whole) = some g → GlobOk P w K mg base0 (1) y g from (gl_cons ((o_is_tuple_of z).mono (by omega)) (gl_cons (glob_blt z.X z.G (z.c.d.fact 9 rfl)) (gl_cons (glob_exc z.X z.G (z.c.d.fact 46 rfl) (z.c.d.fact 47 rfl)) (gl_cons ((o_is_whole z).mono (by omega)) (gl_cons (glob_int z.X z.G (z.c.d.fact 45 rfl)) gl_nil)))))) (show Reads f_need_row 1 (svs 60 30 ⟨defScope (top 41), N_need_row, fun _ => true, G_need_row f_is_tuple_of f_is_whole⟩ (defBody (top 41))) from by rw [t_need_row]; exact r_need_row)
theorem sc_lines_of : FnScope N_lines_of ["formula"] (defScope (top 42)) := ⟨rfl, rfl, rfl, by decide +kernel, rfl, by decide +kernel, by decide +kernel⟩
theorem o_lines_of (z : Hd K h mg) : GlobOk P w K mg base0 1 "lines_of" (.fn f_lines_of) := by
  obtain ⟨fd, F⟩ := z.c.d.def_ 19 (d := d_lines_of) rfl
  exact glob_ev (a := 60) (b := 30) (k := 0) F (He.glo_ok z.X z.G (z.c.d.fact 48 rfl)) sc_lines_of rfl rfl (FunD.bindsN F fun _ _ _ _ _ _ us hl => match us, hl with | [_], _ => rfl) (show ∀ y g, List.lookup y (G_lines_of) = some g → GlobOk P w K mg base0 (0) y g from (gl_cons (glob_blt z.X z.G (z.c.d.fact 20 rfl)) gl_nil)) (show Reads f_lines_of 3 (svs 60 30 ⟨defScope (top 42), N_lines_of, fun _ => true, G_lines_of⟩ (defBody (top 42))) from by rw [t_lines_of]; exact r_lines_of)
theorem sc_lines_with : FnScope N_lines_with ["lines", "other"] (defScope (top 43)) := ⟨rfl, rfl, rfl, by decide +kernel, rfl, by decide +kernel, by decide +kernel⟩
theorem o_lines_with (z : Hd K h mg) : GlobOk P w K mg base0 1 "lines_with" (.fn f_lines_with) := by
  obtain ⟨fd, F⟩ := z.c.d.def_ 20 (d := d_lines_with) rfl
  exact glob_ev (a := 60) (b := 30) (k := 0) F (He.glo_ok z.X z.G (z.c.d.fact 49 rfl)) sc_lines_with rfl rfl (FunD.bindsN F fun _ _ _ _ _ _ us hl => match us, hl with | [_, _], _ => rfl) (show ∀ y g, List.lookup y (G_lines_with) = some g → GlobOk P w K mg base0 (0) y g from (gl_cons (glob_blt z.X z.G (z.c.d.fact 50 rfl)) gl_nil)) (show Reads f_lines_with 3 (svs 60 30 ⟨defScope (top 43), N_lines_with, fun _ => true, G_lines_with⟩ (defBody (top 43))) from by rw [t_lines_with]; exact r_lines_with)
theorem sc_bounds_in : FnScope N_bounds_in ["lines"] (defScope (top 44)) := ⟨rfl, rfl, rfl, by decide +kernel, rfl, by decide +kernel, by decide +kernel⟩
theorem o_bounds_in (z : Hd K h mg) : GlobOk P w K mg base0 2 "bounds_in" (.fn f_bounds_in) := by
  obtain ⟨fd, F⟩ := z.c.d.def_ 21 (d := d_bounds_in) rfl
  exact glob_ev (a := 60) (b := 30) (k := 1) F (He.glo_ok z.X z.G (z.c.d.fact 51 rfl)) sc_bounds_in rfl rfl (FunD.bindsN F fun _ _ _ _ _ _ us hl => match us, hl with | [_], _ => rfl) (show ∀ y g, List.lookup y (G_bounds_in f_lines_with) = some g → GlobOk P w K mg base0 (1) y g from (gl_cons ((o_lines_with z).mono (by omega)) gl_nil)) (show Reads f_bounds_in 6 (svs 60 30 ⟨defScope (top 44), N_bounds_in, fun _ => true, G_bounds_in f_lines_with⟩ (defBody (top 44))) from by rw [t_bounds_in]; exact r_bounds_in)
theorem sc_highest_lead : FnScope N_highest_lead ["bounds"] (defScope (top 45)) := ⟨rfl, rfl, rfl, by decide +kernel, rfl, by decide +kernel, by decide +kernel⟩
theorem o_highest_lead (z : Hd K h mg) : GlobOk P w K mg base0 1 "highest_lead" (.fn f_highest_lead) := by
  obtain ⟨fd, F⟩ := z.c.d.def_ 22 (d := d_highest_lead) rfl
  exact glob_ev (a := 60) (b := 30) (k := 0) F (He.glo_ok z.X z.G (z.c.d.fact 52 rfl)) sc_highest_lead rfl rfl (FunD.bindsN F fun _ _ _ _ _ _ us hl => match us, hl with | [_], _ => rfl) (show ∀ y g, List.lookup y (G_highest_lead) = some g → GlobOk P w K mg base0 (0) y g from (gl_cons (glob_blt z.X z.G (z.c.d.fact 53 rfl)) gl_nil)) (show Reads f_highest_lead 4 (svs 60 30 ⟨defScope (top 45), N_highest_lead, fun _ => true, G_highest_lead⟩ (defBody (top 45))) from by rw [t_highest_lead]; exact r_highest_lead)
theorem sc_lowest_lead : FnScope N_lowest_lead ["bounds"] (defScope (top 46)) := ⟨rfl, rfl, rfl, by decide +kernel, rfl, by decide +kernel, by decide +kernel⟩
theorem o_lowest_lead (z : Hd K h mg) : GlobOk P w K mg base0 1 "lowest_lead" (.fn f_lowest_lead) := by
  obtain ⟨fd, F⟩ := z.c.d.def_ 23 (d := d_lowest_lead) rfl
  exact glob_ev (a := 60) (b := 30) (k := 0) F (He.glo_ok z.X z.G (z.c.d.fact 54 rfl)) sc_lowest_lead rfl rfl (FunD.bindsN F fun _ _ _ _ _ _ us hl => match us, hl with | [_], _ => rfl) (show ∀ y g, List.lookup y (G_lowest_lead) = some g → GlobOk P w K mg base0 (0) y g from (gl_cons (glob_blt z.X z.G (z.c.d.fact 33 rfl)) gl_nil)) (show Reads f_lowest_lead 4 (svs 60 30 ⟨defScope (top 46), N_lowest_lead, fun _ => true, G_lowest_lead⟩ (defBody (top 46))) from by rw [t_lowest_lead]; exact r_lowest_lead)
theorem sc_has_points : FnScope N_has_points ["bounds"] (defScope (top 47)) := ⟨rfl, rfl, rfl, by decide +kernel, rfl, by decide +kernel, by decide +kernel⟩
theorem o_has_points (z : Hd K h mg) : GlobOk P w K mg base0 2 "has_points" (.fn f_has_points) := by
  obtain ⟨fd, F⟩ := z.c.d.def_ 24 (d := d_has_points) rfl
  exact glob_ev (a := 60) (b := 30) (k := 1) F (He.glo_ok z.X z.G (z.c.d.fact 55 rfl)) sc_has_points rfl rfl (FunD.bindsN F fun _ _ _ _ _ _ us hl => match us, hl with | [_], _ => rfl) (show ∀ y g, List.lookup y (G_has_points f_lowest_lead f_highest_lead) = some g → GlobOk P w K mg base0 (1) y g from (gl_cons (glob_blt z.X z.G (z.c.d.fact 56 rfl)) (gl_cons ((o_lowest_lead z).mono (by omega)) (gl_cons ((o_highest_lead z).mono (by omega)) gl_nil)))) (show Reads f_has_points 5 (svs 60 30 ⟨defScope (top 47), N_has_points, fun _ => true, G_has_points f_lowest_lead f_highest_lead⟩ (defBody (top 47))) from by rw [t_has_points]; exact r_has_points)
theorem sc_top_at : FnScope N_top_at ["some", "lead"] (defScope (top 48)) := ⟨rfl, rfl, rfl, by decide +kernel, rfl, by decide +kernel, by decide +kernel⟩
theorem o_top_at (z : Hd K h mg) : GlobOk P w K mg base0 1 "top_at" (.fn f_top_at) := by
  obtain ⟨fd, F⟩ := z.c.d.def_ 25 (d := d_top_at) rfl
  exact glob_ev (a := 60) (b := 30) (k := 0) F (He.glo_ok z.X z.G (z.c.d.fact 57 rfl)) sc_top_at rfl rfl (FunD.bindsN F fun _ _ _ _ _ _ us hl => match us, hl with | [_, _], _ => rfl) (show ∀ y g, List.lookup y (G_top_at) = some g → GlobOk P w K mg base0 (0) y g from (gl_cons (glob_blt z.X z.G (z.c.d.fact 53 rfl)) gl_nil)) (show Reads f_top_at 3 (svs 60 30 ⟨defScope (top 48), N_top_at, fun _ => true, G_top_at⟩ (defBody (top 48))) from by rw [t_top_at]; exact r_top_at)
theorem sc_leads_of : FnScope N_leads_of ["bounds"] (defScope (top 49)) := ⟨rfl, rfl, rfl, by decide +kernel, rfl, by decide +kernel, by decide +kernel⟩
theorem o_leads_of (z : Hd K h mg) : GlobOk P w K mg base0 2 "leads_of" (.fn f_leads_of) := by
  obtain ⟨fd, F⟩ := z.c.d.def_ 26 (d := d_leads_of) rfl
  exact glob_ev (a := 60) (b := 30) (k := 1) F (He.glo_ok z.X z.G (z.c.d.fact 58 rfl)) sc_leads_of rfl rfl (FunD.bindsN F fun _ _ _ _ _ _ us hl => match us, hl with | [_], _ => rfl) (show ∀ y g, List.lookup y (G_leads_of f_lowest_lead f_highest_lead) = some g → GlobOk P w K mg base0 (1) y g from (gl_cons ((o_lowest_lead z).mono (by omega)) (gl_cons ((o_highest_lead z).mono (by omega)) (gl_cons (glob_blt z.X z.G (z.c.d.fact 20 rfl)) (gl_cons (glob_blt z.X z.G (z.c.d.fact 60 rfl)) (gl_cons (glob_int z.X z.G (z.c.d.fact 59 rfl)) gl_nil)))))) (show Reads f_leads_of 2 (svs 60 30 ⟨defScope (top 49), N_leads_of, fun _ => true, G_leads_of f_lowest_lead f_highest_lead⟩ (defBody (top 49))) from by rw [t_leads_of]; exact r_leads_of)
theorem sc_tops_that_turn : FnScope N_tops_that_turn ["some", "bounds"] (defScope (top 50)) := ⟨rfl, rfl, rfl, by decide +kernel, rfl, by decide +kernel, by decide +kernel⟩
theorem o_tops_that_turn (z : Hd K h mg) : GlobOk P w K mg base0 3 "tops_that_turn" (.fn f_tops_that_turn) := by
  obtain ⟨fd, F⟩ := z.c.d.def_ 27 (d := d_tops_that_turn) rfl
  exact glob_ev (a := 60) (b := 30) (k := 2) F (He.glo_ok z.X z.G (z.c.d.fact 61 rfl)) sc_tops_that_turn rfl rfl (FunD.bindsN F fun _ _ _ _ _ _ us hl => match us, hl with | [_, _], _ => rfl) (show ∀ y g, List.lookup y (G_tops_that_turn f_lowest_lead f_highest_lead f_leads_of f_top_at) = some g → GlobOk P w K mg base0 (2) y g from (gl_cons ((o_lowest_lead z).mono (by omega)) (gl_cons ((o_highest_lead z).mono (by omega)) (gl_cons ((o_leads_of z).mono (by omega)) (gl_cons ((o_top_at z).mono (by omega)) gl_nil))))) (show Reads f_tops_that_turn 5 (svs 60 30 ⟨defScope (top 50), N_tops_that_turn, fun _ => true, G_tops_that_turn f_lowest_lead f_highest_lead f_leads_of f_top_at⟩ (defBody (top 50))) from by rw [t_tops_that_turn]; exact r_tops_that_turn)
theorem sc_worths_of : FnScope N_worths_of ["some", "row", "leads"] (defScope (top 51)) := ⟨rfl, rfl, rfl, by decide +kernel, rfl, by decide +kernel, by decide +kernel⟩
theorem o_worths_of (z : Hd K h mg) : GlobOk P w K mg base0 2 "worths_of" (.fn f_worths_of) := by
  obtain ⟨fd, F⟩ := z.c.d.def_ 28 (d := d_worths_of) rfl
  exact glob_ev (a := 60) (b := 30) (k := 1) F (He.glo_ok z.X z.G (z.c.d.fact 62 rfl)) sc_worths_of rfl rfl (FunD.bindsN F fun _ _ _ _ _ _ us hl => match us, hl with | [_, _, _], _ => rfl) (show ∀ y g, List.lookup y (G_worths_of f_top_at) = some g → GlobOk P w K mg base0 (1) y g from (gl_cons ((o_top_at z).mono (by omega)) gl_nil)) (show Reads f_worths_of 1 (svs 60 30 ⟨defScope (top 51), N_worths_of, fun _ => true, G_worths_of f_top_at⟩ (defBody (top 51))) from by rw [t_worths_of]; exact r_worths_of)
theorem sc_side_of : FnScope N_side_of ["lines", "row"] (defScope (top 52)) := ⟨rfl, rfl, rfl, by decide +kernel, rfl, by decide +kernel, by decide +kernel⟩
theorem o_side_of (z : Hd K h mg) : GlobOk P w K mg base0 2 "side_of" (.fn f_side_of) := by
  obtain ⟨fd, F⟩ := z.c.d.def_ 29 (d := d_side_of) rfl
  exact glob_ev (a := 60) (b := 30) (k := 1) F (He.glo_ok z.X z.G (z.c.d.fact 63 rfl)) sc_side_of rfl rfl (FunD.bindsN F fun _ _ _ _ _ _ us hl => match us, hl with | [_, _], _ => rfl) (show ∀ y g, List.lookup y (G_side_of f_lines_with) = some g → GlobOk P w K mg base0 (1) y g from (gl_cons ((o_lines_with z).mono (by omega)) gl_nil)) (show Reads f_side_of 0 (svs 60 30 ⟨defScope (top 52), N_side_of, fun _ => true, G_side_of f_lines_with⟩ (defBody (top 52))) from by rw [t_side_of]; exact r_side_of)
theorem sc_is_endless : FnScope N_is_endless ["some", "row", "bounds"] (defScope (top 53)) := ⟨rfl, rfl, rfl, by decide +kernel, rfl, by decide +kernel, by decide +kernel⟩
theorem o_is_endless (z : Hd K h mg) : GlobOk P w K mg base0 3 "is_endless" (.fn f_is_endless) := by
  obtain ⟨fd, F⟩ := z.c.d.def_ 30 (d := d_is_endless) rfl
  exact glob_ev (a := 60) (b := 30) (k := 2) F (He.glo_ok z.X z.G (z.c.d.fact 64 rfl)) sc_is_endless rfl rfl (FunD.bindsN F fun _ _ _ _ _ _ us hl => match us, hl with | [_, _, _], _ => rfl) (show ∀ y g, List.lookup y (G_is_endless f_worths_of f_highest_lead f_lowest_lead) = some g → GlobOk P w K mg base0 (2) y g from (gl_cons ((o_worths_of z).mono (by omega)) (gl_cons (glob_int z.X z.G (z.c.d.fact 59 rfl)) (gl_cons ((o_highest_lead z).mono (by omega)) (gl_cons ((o_lowest_lead z).mono (by omega)) gl_nil))))) (show Reads f_is_endless 2 (svs 60 30 ⟨defScope (top 53), N_is_endless, fun _ => true, G_is_endless f_worths_of f_highest_lead f_lowest_lead⟩ (defBody (top 53))) from by rw [t_is_endless]; exact r_is_endless)
theorem sc_best_lead : FnScope N_best_lead ["some", "row", "bounds"] (defScope (top 54)) := ⟨rfl, rfl, rfl, by decide +kernel, rfl, by decide +kernel, by decide +kernel⟩
theorem o_best_lead (z : Hd K h mg) : GlobOk P w K mg base0 3 "best_lead" (.fn f_best_lead) := by
  obtain ⟨fd, F⟩ := z.c.d.def_ 31 (d := d_best_lead) rfl
  exact glob_ev (a := 60) (b := 30) (k := 2) F (He.glo_ok z.X z.G (z.c.d.fact 65 rfl)) sc_best_lead rfl rfl (FunD.bindsN F fun _ _ _ _ _ _ us hl => match us, hl with | [_, _, _], _ => rfl) (show ∀ y g, List.lookup y (G_best_lead f_leads_of f_worths_of) = some g → GlobOk P w K mg base0 (2) y g from (gl_cons ((o_leads_of z).mono (by omega)) (gl_cons ((o_worths_of z).mono (by omega)) (gl_cons (glob_blt z.X z.G (z.c.d.fact 33 rfl)) gl_nil)))) (show Reads f_best_lead 2 (svs 60 30 ⟨defScope (top 54), N_best_lead, fun _ => true, G_best_lead f_leads_of f_worths_of⟩ (defBody (top 54))) from by rw [t_best_lead]; exact r_best_lead)
theorem sc_other_at : FnScope N_other_at ["lines", "row", "lead"] (defScope (top 55)) := ⟨rfl, rfl, rfl, by decide +kernel, rfl, by decide +kernel, by decide +kernel⟩
theorem o_other_at (z : Hd K h mg) : GlobOk P w K mg base0 2 "other_at" (.fn f_other_at) := by
  obtain ⟨fd, F⟩ := z.c.d.def_ 32 (d := d_other_at) rfl
  exact glob_ev (a := 60) (b := 30) (k := 1) F (He.glo_ok z.X z.G (z.c.d.fact 66 rfl)) sc_other_at rfl rfl (FunD.bindsN F fun _ _ _ _ _ _ us hl => match us, hl with | [_, _, _], _ => rfl) (show ∀ y g, List.lookup y (G_other_at f_lines_with f_top_at) = some g → GlobOk P w K mg base0 (1) y g from (gl_cons ((o_lines_with z).mono (by omega)) (gl_cons ((o_top_at z).mono (by omega)) gl_nil))) (show Reads f_other_at 2 (svs 60 30 ⟨defScope (top 55), N_other_at, fun _ => true, G_other_at f_lines_with f_top_at⟩ (defBody (top 55))) from by rw [t_other_at]; exact r_other_at)
theorem sc_corners_of : FnScope N_corners_of ["formula"] (defScope (top 56)) := ⟨rfl, rfl, rfl, by decide +kernel, rfl, by decide +kernel, by decide +kernel⟩
theorem o_corners_of (z : Hd K h mg) : GlobOk P w K mg base0 17 "corners_of" (.fn f_corners_of) := by
  obtain ⟨fd, F⟩ := z.c.d.def_ 33 (d := d_corners_of) rfl
  exact glob_ev (a := 60) (b := 30) (k := 16) F (He.glo_ok z.X z.G (z.c.d.fact 67 rfl)) sc_corners_of rfl rfl (FunD.bindsN F fun _ _ _ _ _ _ us hl => match us, hl with | [_], _ => rfl) (show ∀ y g, List.lookup y (G_corners_of f_need_plain_set f_lines_of f_bounds_in f_has_points f_tops_that_turn f_lines_with) = some g → GlobOk P w K mg base0 (16) y g from (gl_cons ((o_need_plain_set z).mono (by omega)) (gl_cons ((o_lines_of z).mono (by omega)) (gl_cons ((o_bounds_in z).mono (by omega)) (gl_cons ((o_has_points z).mono (by omega)) (gl_cons ((o_tops_that_turn z).mono (by omega)) (gl_cons ((o_lines_with z).mono (by omega)) (gl_cons (glob_blt z.X z.G (z.c.d.fact 6 rfl)) (gl_cons (glob_blt z.X z.G (z.c.d.fact 69 rfl)) (gl_cons (glob_blt z.X z.G (z.c.d.fact 68 rfl)) gl_nil)))))))))) (show Reads f_corners_of 5 (svs 60 30 ⟨defScope (top 56), N_corners_of, fun _ => true, G_corners_of f_need_plain_set f_lines_of f_bounds_in f_has_points f_tops_that_turn f_lines_with⟩ (defBody (top 56))) from by rw [t_corners_of]; exact r_corners_of)
theorem sc_greatest_of : FnScope N_greatest_of ["formula", "row"] (defScope (top 57)) := ⟨rfl, rfl, rfl, by decide +kernel, rfl, by decide +kernel, by decide +kernel⟩
theorem o_greatest_of (z : Hd K h mg) : GlobOk P w K mg base0 17 "greatest_of" (.fn f_greatest_of) := by
  obtain ⟨fd, F⟩ := z.c.d.def_ 34 (d := d_greatest_of) rfl
  exact glob_ev (a := 60) (b := 30) (k := 16) F (He.glo_ok z.X z.G (z.c.d.fact 70 rfl)) sc_greatest_of rfl rfl (FunD.bindsN F fun _ _ _ _ _ _ us hl => match us, hl with | [_, _], _ => rfl) (show ∀ y g, List.lookup y (G_greatest_of f_need_plain_set f_need_row f_lines_of f_bounds_in f_has_points f_side_of f_is_endless f_best_lead f_other_at) = some g → GlobOk P w K mg base0 (16) y g from (gl_cons ((o_need_plain_set z).mono (by omega)) (gl_cons ((o_need_row z).mono (by omega)) (gl_cons ((o_lines_of z).mono (by omega)) (gl_cons ((o_bounds_in z).mono (by omega)) (gl_cons ((o_has_points z).mono (by omega)) (gl_cons (glob_z ((o_side_of z).mono (by omega))) (gl_cons ((o_is_endless z).mono (by omega)) (gl_cons ((o_best_lead z).mono (by omega)) (gl_cons ((o_other_at z).mono (by omega)) gl_nil)))))))))) (show Reads f_greatest_of 6 (svs 60 30 ⟨defScope (top 57), N_greatest_of, fun _ => true, G_greatest_of f_need_plain_set f_need_row f_lines_of f_bounds_in f_has_points f_side_of f_is_endless f_best_lead f_other_at⟩ (defBody (top 57))) from by rw [t_greatest_of]; exact r_greatest_of)
theorem sc__law_cup : FnScope N__law_cup ["script"] (defScope (top 59)) := ⟨rfl, rfl, rfl, by decide +kernel, rfl, by decide +kernel, by decide +kernel⟩
theorem o__law_cup (z : Hd K h mg) : GlobOk P w K mg base0 1 "_law_cup" (.fn f__law_cup) := by
  obtain ⟨fd, F⟩ := z.c.d.def_ 35 (d := d__law_cup) rfl
  exact glob_ev (a := 60) (b := 30) (k := 0) F (He.glo_ok z.X z.G (z.c.d.fact 71 rfl)) sc__law_cup rfl rfl (FunD.bindsN F fun _ _ _ _ _ _ us hl => match us, hl with | [_], _ => rfl) (show ∀ y g, List.lookup y (G__law_cup) = some g → GlobOk P w K mg base0 (0) y g from (gl_cons (glob_blt z.X z.G (z.c.d.fact 22 rfl)) (gl_cons (glob_blt z.X z.G (z.c.d.fact 20 rfl)) (gl_cons (glob_blt z.X z.G (z.c.d.fact 2 rfl)) gl_nil)))) (show Reads f__law_cup 1 (svs 60 30 ⟨defScope (top 59), N__law_cup, fun _ => true, G__law_cup⟩ (defBody (top 59))) from by rw [t__law_cup]; exact r__law_cup)
theorem sc__law_roll : FnScope N__law_roll ["cup", "many"] (defScope (top 60)) := ⟨rfl, rfl, rfl, by decide +kernel, rfl, by decide +kernel, by decide +kernel⟩
theorem o__law_roll (z : Hd K h mg) : GlobOk P w K mg base0 1 "_law_roll" (.fn f__law_roll) := by
  obtain ⟨fd, F⟩ := z.c.d.def_ 36 (d := d__law_roll) rfl
  exact glob_ev (a := 60) (b := 30) (k := 0) F (He.glo_ok z.X z.G (z.c.d.fact 72 rfl)) sc__law_roll rfl rfl (FunD.bindsN F fun _ _ _ _ _ _ us hl => match us, hl with | [_, _], _ => rfl) (show ∀ y g, List.lookup y (G__law_roll) = some g → GlobOk P w K mg base0 (0) y g from (gl_cons (glob_blt z.X z.G (z.c.d.fact 2 rfl)) gl_nil)) (show Reads f__law_roll 2 (svs 60 30 ⟨defScope (top 60), N__law_roll, fun _ => true, G__law_roll⟩ (defBody (top 60))) from by rw [t__law_roll]; exact r__law_roll)
theorem sc__law_some : FnScope N__law_some ["cup", "things"] (defScope (top 61)) := ⟨rfl, rfl, rfl, by decide +kernel, rfl, by decide +kernel, by decide +kernel⟩
theorem o__law_some (z : Hd K h mg) : GlobOk P w K mg base0 2 "_law_some" (.fn f__law_some) := by
  obtain ⟨fd, F⟩ := z.c.d.def_ 37 (d := d__law_some) rfl
  exact glob_ev (a := 60) (b := 30) (k := 1) F (He.glo_ok z.X z.G (z.c.d.fact 73 rfl)) sc__law_some rfl rfl (FunD.bindsN F fun _ _ _ _ _ _ us hl => match us, hl with | [_, _], _ => rfl) (show ∀ y g, List.lookup y (G__law_some f__law_roll) = some g → GlobOk P w K mg base0 (1) y g from (gl_cons ((o__law_roll z).mono (by omega)) (gl_cons (glob_blt z.X z.G (z.c.d.fact 5 rfl)) gl_nil))) (show Reads f__law_some 0 (svs 60 30 ⟨defScope (top 61), N__law_some, fun _ => true, G__law_some f__law_roll⟩ (defBody (top 61))) from by rw [t__law_some]; exact r__law_some)
theorem sc__law_plain_set : FnScope N__law_plain_set ["cup"] (defScope (top 62)) := ⟨rfl, rfl, rfl, by decide +kernel, rfl, by decide +kernel, by decide +kernel⟩
theorem o__law_plain_set (z : Hd K h mg) : GlobOk P w K mg base0 3 "_law_plain_set" (.fn f__law_plain_set) := by
  obtain ⟨fd, F⟩ := z.c.d.def_ 38 (d := d__law_plain_set) rfl
  exact glob_ev (a := 60) (b := 30) (k := 2) F (He.glo_ok z.X z.G (z.c.d.fact 74 rfl)) sc__law_plain_set rfl rfl (FunD.bindsN F fun _ _ _ _ _ _ us hl => match us, hl with | [_], _ => rfl) (show ∀ y g, List.lookup y (G__law_plain_set f__law_some f__law_roll) = some g → GlobOk P w K mg base0 (2) y g from (gl_cons (glob_blt z.X z.G (z.c.d.fact 60 rfl)) (gl_cons (glob_z ((o__law_some z).mono (by omega))) (gl_cons ((o__law_roll z).mono (by omega)) (gl_cons (glob_blt z.X z.G (z.c.d.fact 5 rfl)) (gl_cons (glob_blt z.X z.G (z.c.d.fact 6 rfl)) gl_nil)))))) (show Reads f__law_plain_set 3 (svs 60 30 ⟨defScope (top 62), N__law_plain_set, fun _ => true, G__law_plain_set f__law_some f__law_roll⟩ (defBody (top 62))) from by rw [t__law_plain_set]; exact r__law_plain_set)
theorem sc__law_lines : FnScope N__law_lines ["formula"] (defScope (top 63)) := ⟨rfl, rfl, rfl, by decide +kernel, rfl, by decide +kernel, by decide +kernel⟩
theorem o__law_lines (z : Hd K h mg) : GlobOk P w K mg base0 1 "_law_lines" (.fn f__law_lines) := by
  obtain ⟨fd, F⟩ := z.c.d.def_ 39 (d := d__law_lines) rfl
  exact glob_ev (a := 60) (b := 30) (k := 0) F (He.glo_ok z.X z.G (z.c.d.fact 75 rfl)) sc__law_lines rfl rfl (FunD.bindsN F fun _ _ _ _ _ _ us hl => match us, hl with | [_], _ => rfl) (show ∀ y g, List.lookup y (G__law_lines) = some g → GlobOk P w K mg base0 (0) y g from gl_nil) (show Reads f__law_lines 2 (svs 60 30 ⟨defScope (top 63), N__law_lines, fun _ => true, G__law_lines⟩ (defBody (top 63))) from by rw [t__law_lines]; exact r__law_lines)
theorem sc__law_ends : FnScope N__law_ends ["lines", "lead"] (defScope (top 64)) := ⟨rfl, rfl, rfl, by decide +kernel, rfl, by decide +kernel, by decide +kernel⟩
theorem o__law_ends (z : Hd K h mg) : GlobOk P w K mg base0 1 "_law_ends" (.fn f__law_ends) := by
  obtain ⟨fd, F⟩ := z.c.d.def_ 40 (d := d__law_ends) rfl
  exact glob_ev (a := 60) (b := 30) (k := 0) F (He.glo_ok z.X z.G (z.c.d.fact 76 rfl)) sc__law_ends rfl rfl (FunD.bindsN F fun _ _ _ _ _ _ us hl => match us, hl with | [_, _], _ => rfl) (show ∀ y g, List.lookup y (G__law_ends) = some g → GlobOk P w K mg base0 (0) y g from gl_nil) (show Reads f__law_ends 5 (svs 60 30 ⟨defScope (top 64), N__law_ends, fun _ => true, G__law_ends⟩ (defBody (top 64))) from by rw [t__law_ends]; exact r__law_ends)
theorem sc__law_pairs : FnScope N__law_pairs ["lines", "far"] (defScope (top 65)) := ⟨rfl, rfl, rfl, by decide +kernel, rfl, by decide +kernel, by decide +kernel⟩
theorem o__law_pairs (z : Hd K h mg) : GlobOk P w K mg base0 2 "_law_pairs" (.fn f__law_pairs) := by
  obtain ⟨fd, F⟩ := z.c.d.def_ 41 (d := d__law_pairs) rfl
  exact glob_ev (a := 60) (b := 30) (k := 1) F (He.glo_ok z.X z.G (z.c.d.fact 77 rfl)) sc__law_pairs rfl rfl (FunD.bindsN F fun _ _ _ _ _ _ us hl => match us, hl with | [_, _], _ => rfl) (show ∀ y g, List.lookup y (G__law_pairs f__law_ends) = some g → GlobOk P w K mg base0 (1) y g from (gl_cons (glob_blt z.X z.G (z.c.d.fact 60 rfl)) (gl_cons ((o__law_ends z).mono (by omega)) gl_nil))) (show Reads f__law_pairs 3 (svs 60 30 ⟨defScope (top 65), N__law_pairs, fun _ => true, G__law_pairs f__law_ends⟩ (defBody (top 65))) from by rw [t__law_pairs]; exact r__law_pairs)
theorem sc__law_ways : FnScope N__law_ways ["lines"] (defScope (top 66)) := ⟨rfl, rfl, rfl, by decide +kernel, rfl, by decide +kernel, by decide +kernel⟩
theorem o__law_ways (z : Hd K h mg) : GlobOk P w K mg base0 1 "_law_ways" (.fn f__law_ways) := by
  obtain ⟨fd, F⟩ := z.c.d.def_ 42 (d := d__law_ways) rfl
  exact glob_ev (a := 60) (b := 30) (k := 0) F (He.glo_ok z.X z.G (z.c.d.fact 78 rfl)) sc__law_ways rfl rfl (FunD.bindsN F fun _ _ _ _ _ _ us hl => match us, hl with | [_], _ => rfl) (show ∀ y g, List.lookup y (G__law_ways) = some g → GlobOk P w K mg base0 (0) y g from (gl_cons (glob_blt z.X z.G (z.c.d.fact 60 rfl)) gl_nil)) (show Reads f__law_ways 5 (svs 60 30 ⟨defScope (top 66), N__law_ways, fun _ => true, G__law_ways⟩ (defBody (top 66))) from by rw [t__law_ways]; exact r__law_ways)
theorem sc__law_greatest : FnScope N__law_greatest ["lines", "row"] (defScope (top 67)) := ⟨rfl, rfl, rfl, by decide +kernel, rfl, by decide +kernel, by decide +kernel⟩
theorem o__law_greatest (z : Hd K h mg) : GlobOk P w K mg base0 3 "_law_greatest" (.fn f__law_greatest) := by
  obtain ⟨fd, F⟩ := z.c.d.def_ 43 (d := d__law_greatest) rfl
  exact glob_ev (a := 60) (b := 30) (k := 2) F (He.glo_ok z.X z.G (z.c.d.fact 79 rfl)) sc__law_greatest rfl rfl (FunD.bindsN F fun _ _ _ _ _ _ us hl => match us, hl with | [_, _], _ => rfl) (show ∀ y g, List.lookup y (G__law_greatest f__law_pairs f__law_ways) = some g → GlobOk P w K mg base0 (2) y g from (gl_cons ((o__law_pairs z).mono (by omega)) (gl_cons ((o__law_ways z).mono (by omega)) (gl_cons (glob_blt z.X z.G (z.c.d.fact 33 rfl)) (gl_cons (glob_blt z.X z.G (z.c.d.fact 22 rfl)) gl_nil))))) (show Reads f__law_greatest 3 (svs 60 30 ⟨defScope (top 67), N__law_greatest, fun _ => true, G__law_greatest f__law_pairs f__law_ways⟩ (defBody (top 67))) from by rw [t__law_greatest]; exact r__law_greatest)
theorem sc__law_any_row : FnScope N__law_any_row ["cup", "lines"] (defScope (top 68)) := ⟨rfl, rfl, rfl, by decide +kernel, rfl, by decide +kernel, by decide +kernel⟩
theorem o__law_any_row (z : Hd K h mg) : GlobOk P w K mg base0 3 "_law_any_row" (.fn f__law_any_row) := by
  obtain ⟨fd, F⟩ := z.c.d.def_ 44 (d := d__law_any_row) rfl
  exact glob_ev (a := 60) (b := 30) (k := 2) F (He.glo_ok z.X z.G (z.c.d.fact 80 rfl)) sc__law_any_row rfl rfl (FunD.bindsN F fun _ _ _ _ _ _ us hl => match us, hl with | [_, _], _ => rfl) (show ∀ y g, List.lookup y (G__law_any_row f__law_roll f__law_some) = some g → GlobOk P w K mg base0 (2) y g from (gl_cons ((o__law_roll z).mono (by omega)) (gl_cons (glob_z ((o__law_some z).mono (by omega))) gl_nil))) (show Reads f__law_any_row 7 (svs 60 30 ⟨defScope (top 68), N__law_any_row, fun _ => true, G__law_any_row f__law_roll f__law_some⟩ (defBody (top 68))) from by rw [t__law_any_row]; exact r__law_any_row)
theorem sc__law_is_right : FnScope N__law_is_right ["formula", "lines", "row"] (defScope (top 69)) := ⟨rfl, rfl, rfl, by decide +kernel, rfl, by decide +kernel, by decide +kernel⟩
theorem o__law_is_right (z : Hd K h mg) : GlobOk P w K mg base0 18 "_law_is_right" (.fn f__law_is_right) := by
  obtain ⟨fd, F⟩ := z.c.d.def_ 45 (d := d__law_is_right) rfl
  exact glob_ev (a := 60) (b := 30) (k := 17) F (He.glo_ok z.X z.G (z.c.d.fact 81 rfl)) sc__law_is_right rfl rfl (FunD.bindsN F fun _ _ _ _ _ _ us hl => match us, hl with | [_, _, _], _ => rfl) (show ∀ y g, List.lookup y (G__law_is_right f__law_greatest f_greatest_of f_corners_of) = some g → GlobOk P w K mg base0 (17) y g from (gl_cons ((o__law_greatest z).mono (by omega)) (gl_cons ((o_greatest_of z).mono (by omega)) (gl_cons (glob_blt z.X z.G (z.c.d.fact 82 rfl)) (gl_cons (glob_blt z.X z.G (z.c.d.fact 3 rfl)) (gl_cons (glob_blt z.X z.G (z.c.d.fact 6 rfl)) (gl_cons (glob_blt z.X z.G (z.c.d.fact 5 rfl)) (gl_cons ((o_corners_of z).mono (by omega)) (gl_cons (glob_blt z.X z.G (z.c.d.fact 1 rfl)) (gl_cons (glob_blt z.X z.G (z.c.d.fact 2 rfl)) gl_nil)))))))))) (show Reads f__law_is_right 7 (svs 60 30 ⟨defScope (top 69), N__law_is_right, fun _ => true, G__law_is_right f__law_greatest f_greatest_of f_corners_of⟩ (defBody (top 69))) from by rw [t__law_is_right]; exact r__law_is_right)
theorem sc_law : FnScope N_law ["script"] (defScope (top 70)) := ⟨rfl, rfl, rfl, by decide +kernel, rfl, by decide +kernel, by decide +kernel⟩
theorem o_law (z : Hd K h mg) {fd : FuncData} (F : FunD K "law" "law" (defArgs (top 70)) (defBody (top 70)) (defScope (top 70)) [] [] (He.ga K "law") fd) : FnG P w K mg base0 (L2.CX P w) 19 (He.ga K "law") fd ["script"] (spD K mg f_law) :=
  def_ev (a := 60) (b := 30) (k := 18) F sc_law rfl rfl (show ∀ y g, List.lookup y (G_law f__law_cup f__law_plain_set f__law_lines f__law_is_right f__law_any_row) = some g → GlobOk P w K mg base0 (18) y g from (gl_cons ((o__law_cup z).mono (by omega)) (gl_cons ((o__law_plain_set z).mono (by omega)) (gl_cons ((o__law_lines z).mono (by omega)) (gl_cons (glob_blt z.X z.G (z.c.d.fact 60 rfl)) (gl_cons ((o__law_is_right z).mono (by omega)) (gl_cons ((o__law_any_row z).mono (by omega)) gl_nil))))))) (show Reads f_law 4 (svs 60 30 ⟨defScope (top 70), N_law, fun _ => true, G_law f__law_cup f__law_plain_set f__law_lines f__law_is_right f__law_any_row⟩ (defBody (top 70))) from by rw [t_law]; exact r_law)
end
theorem facts {P : Program} {w : World} {K : PySem.W.Frag} {h : Heap} {mg : Str → Option Value} {f : Addr} (X : K.In h) (G : h.Ns mainGlobals mg) (hfa : mg ("law" : Str) = some (.ref f)) (c : SaysQ fa fn exB K) :
    ∃ fd : FuncData, (∀ (s : Shared) (v : Value), BindsTo s fd ⟨[v], []⟩ [("script", v)]) ∧ ∀ base : Heap, K.In base → base.Ns mainGlobals mg → FnG P w K mg base (L2.CX P w) 19 f fd ["script"] (spD K mg f_law) := by
  obtain ⟨fd, F⟩ := c.d.def_ 46 (d := d_law) rfl
  have e := hfa.symm.trans (He.glo_ok X G (c.d.fact 83 (f := .glo "law") rfl))
  cases e
  have b := FunD.bindsA (ps := ["script"]) F fun _ _ _ _ _ _ us hl => match us, hl with | [_], _ => rfl
  exact ⟨fd, fun s v => b s [v] rfl, fun base _ _ => o_law ⟨X, G, c⟩ F⟩
end DL
end L2
set_option Elab.async false
set_option maxRecDepth 100000
set_option maxHeartbeats 0
open PySem PySem.W PyProof.Rows
theorem PySem.Challenge.cw_countlaw_k65_greatest_sums_holds : PySem.Challenge.rw_countlaw_k65_greatest_sums.Holds := by
  w_on; o_law
  refine HandSHeadRun.head_any (r := OpenLaw.row PySem.Challenge.rw_countlaw_k65_greatest_sums) (q := view (OpenLaw.row PySem.Challenge.rw_countlaw_k65_greatest_sums).prog [70]) (H := L2.DL.hk) (ob := L2.DL.ob) (M := 40000) (loose := L2.DL.namA) (d := HandSHeadRun.topDef (OpenLaw.row PySem.Challenge.rw_countlaw_k65_greatest_sums).prog 70) (kwd := []) L2.DL.ob_eq
    (by kernel_rfl) (fun s => by kernel_rfl) L2.DL.run (by kernel_rfl) (by kernel_rfl) (by kernel_rfl) (by rfl) (by first | assumption | decide +kernel) (by decide +kernel) ⟨rfl, rfl, rfl, rfl, rfl, by decide +kernel⟩ ?hw ?hc
  case hw => w_witness2
  case hc =>
    refine L2.DL.walk_ofW (l := PySem.Challenge.rw_countlaw_k65_greatest_sums) (n := 63) (k := 19) (x := "script") rfl (by decide) (by kernel_rfl) ⟨rfl, by decide, by decide⟩ ?F
    intro w mg fa h Y G hmg0
    obtain ⟨K, KX, c⟩ := Y
    have hmg : mg ("law" : PySem.Str) = some (.ref fa) := by
      have e : (HandSHeadRun.topDef (OpenLaw.row PySem.Challenge.rw_countlaw_k65_greatest_sums).prog 70).name = ("law" : PySem.Str) := by kernel_rfl
      rw [← e]
      exact hmg0
    obtain ⟨fd, hb, hF⟩ := L2.DL.facts (P := (PySem.Challenge.rw_countlaw_k65_greatest_sums).prog) (w := w) KX G hmg c
    exact ⟨K, fd, _, KX, hb, fun H a ns hl _ hS => L2.DL.law_sp (by omega) hS, hF⟩
