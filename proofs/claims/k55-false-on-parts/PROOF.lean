import PyProof.Rows.All
import Wide.All
import OpenK.AllK
import Wide.FinOn
import HandS.ForMost
import HandS.ForExc
import HandS.Wide
import HandS.TupAny
import HandS.Conv
import HandS.Zip
import HandS.IsInst
import HandS.SortRule
import HandS.SortInts
import HandS.TupSets
import HandS.Style
import HandS.Defaults
import HandS.TupMul
import HandS.Deep
import HandS.Text
import HandS.HeadEnd
import HandS.HeadHook1
import HandS.HeadHook2
import HandS.Head0
import HandS.Head1
import HandS.Head2
import HandS.ExcIs
import KE.SortData
import KE.KStateDown
import HandS.Small
import PyProof.ExcBaseAll.ValueError
import HandS.ExcOwn
import HandS.SetFor
import HandS.Strs
import HandS.HeadHook4
import PySem.Challenge.RW_countlaw_k55_false_on_parts
set_option linter.all false
set_option Elab.async false
set_option maxRecDepth 100000
set_option maxHeartbeats 1000000
/-! The data layer, part 1: slots that hold data, the invariant, operands. -/
namespace L2
open PySem PySem.Spec PyProof.Rows
namespace DL

abbrev D := PyData
/-- what is known of a name's slot: nothing; frozen data; a list or dict of its own; one handed in to be changed -/
inductive Sl where
  | un
  | val (d : D)
  | own (d : D)
  | io (d : D)
abbrev SD := List Sl
abbrev XW := Str → Prop
/-- what an expression gives: frozen data; or a new list or dict that nobody else has -/
inductive Rv where
  | d (x : D)
  | f (x : D)
abbrev WE := XW → SD → (Rv → SD → Prop) → Prop
abbrev WT := XW → SD → (Bool → SD → Prop) → Prop
structure EndsD where
  nx : SD → Prop
  rt : Rv → SD → Prop
  bk : SD → Prop := fun _ => False
  ct : SD → Prop := fun _ => False
abbrev WS := XW → EndsD → SD → Prop

abbrev Grow (F F' : Hp) : Prop := ∀ a o, F a = some o → F' a = some o
theorem Grow.refl (F : Hp) : Grow F F := fun _ _ h => h
theorem Grow.trans {F G J : Hp} (a : Grow F G) (b : Grow G J) : Grow F J := fun c o h => b c o (a c o h)
theorem Grow.rd {F F' : Hp} (g : Grow F F') {a : Addr} {u : HO} (r : Rd F a u) : Rd F' a u := by
  rcases r with r | ⟨o, r⟩
  · exact .inl (g _ _ r)
  · exact .inr ⟨o, g _ _ r⟩
section
variable {K : PySem.W.Frag} {F F' H H' : Hp}
theorem Grow.sql (g : Grow F F') {a : Addr} {xs : List V} (h : SqL K F a xs) : SqL K F' a xs := by
  rcases h with h | h
  · exact .inl (g.rd h)
  · exact .inr h
theorem Grow.sqt (g : Grow F F') {a : Addr} {xs : List V} (h : SqT K F a xs) : SqT K F' a xs := by
  rcases h with h | h
  · exact .inl (g.rd h)
  · exact .inr h
mutual
theorem dp_mono (g : Grow F F') : ∀ {v : V} {d : D}, Dp K F v d → Dp K F' v d
  | _, _, .non => .non
  | _, _, .bl b => .bl b
  | _, _, .int i => .int i
  | _, _, .str x => .str x
  | _, _, .lst h hs => .lst (g.sql h) (dpa_mono g hs)
  | _, _, .tup h hs => .tup (g.sqt h) (dpa_mono g hs)
theorem dpa_mono (g : Grow F F') : ∀ {vs : List V} {ds : List D}, DpAll K F vs ds → DpAll K F' vs ds
  | _, _, .nil => .nil
  | _, _, .cons h t => .cons (dp_mono g h) (dpa_mono g t)
end
theorem dpa_len : ∀ {vs : List V} {ds : List D}, DpAll K F vs ds → vs.length = ds.length
  | _, _, .nil => rfl
  | _, _, .cons _ t => by rw [List.length_cons, List.length_cons, dpa_len t]
theorem dpa_get : ∀ {vs : List V} {ds : List D} {i : Nat} {d : D}, DpAll K F vs ds → ds[i]? = some d → ∃ v, vs[i]? = some v ∧ Dp K F v d
  | _, _, _, _, .nil, h => by simp at h
  | _, _, 0, d, .cons h t, e => by
    simp at e
    subst e
    exact ⟨_, rfl, h⟩
  | _, _, i + 1, d, .cons h t, e => by
    obtain ⟨v, h1, h2⟩ := dpa_get (i := i) (d := d) t (by simpa using e)
    exact ⟨v, by simpa using h1, h2⟩
theorem dpa_get' : ∀ {vs : List V} {ds : List D} {i : Nat} {v : V}, DpAll K F vs ds → vs[i]? = some v → ∃ d, ds[i]? = some d ∧ Dp K F v d
  | _, _, _, _, .nil, h => by simp at h
  | _, _, 0, v, .cons h t, e => by
    simp at e
    subst e
    exact ⟨_, rfl, h⟩
  | _, _, i + 1, v, .cons h t, e => by
    obtain ⟨d, h1, h2⟩ := dpa_get' (i := i) (v := v) t (by simpa using e)
    exact ⟨d, by simpa using h1, h2⟩
theorem dpa_app : ∀ {vs us : List V} {ds es : List D}, DpAll K F vs ds → DpAll K F us es → DpAll K F (vs ++ us) (ds ++ es)
  | _, _, _, _, .nil, h => h
  | _, _, _, _, .cons h t, s => .cons h (dpa_app t s)
theorem dpa_take : ∀ {vs : List V} {ds : List D} (n : Nat), DpAll K F vs ds → DpAll K F (vs.take n) (ds.take n)
  | _, _, 0, _ => by simpa using DpAll.nil
  | _, _, _ + 1, .nil => by simpa using DpAll.nil
  | _, _, n + 1, .cons h t => .cons h (dpa_take n t)
theorem dpa_drop : ∀ {vs : List V} {ds : List D} (n : Nat), DpAll K F vs ds → DpAll K F (vs.drop n) (ds.drop n)
  | _, _, 0, h => h
  | _, _, _ + 1, .nil => .nil
  | _, _, n + 1, .cons h t => dpa_drop n t
theorem dpa_set : ∀ {vs : List V} {ds : List D} (n : Nat) {v : V} {d : D}, DpAll K F vs ds → Dp K F v d → DpAll K F (vs.set n v) (ds.set n d)
  | _, _, _, _, _, .nil, _ => .nil
  | _, _, 0, _, _, .cons h t, r => .cons r t
  | _, _, n + 1, _, _, .cons h t, r => .cons h (dpa_set n t r)
theorem dpa_erase : ∀ {vs : List V} {ds : List D} (n : Nat), DpAll K F vs ds → DpAll K F (vs.eraseIdx n) (ds.eraseIdx n)
  | _, _, _, .nil => .nil
  | _, _, 0, .cons h t => t
  | _, _, n + 1, .cons h t => .cons h (dpa_erase n t)
theorem dpa_dropLast {vs : List V} {ds : List D} (h : DpAll K F vs ds) : DpAll K F vs.dropLast ds.dropLast := by
  rw [List.dropLast_eq_take, List.dropLast_eq_take, dpa_len h]
  exact dpa_take _ h
theorem dpa_rev : ∀ {vs : List V} {ds : List D}, DpAll K F vs ds → DpAll K F vs.reverse ds.reverse
  | _, _, .nil => by simpa using DpAll.nil
  | _, _, .cons h t => by
    rw [List.reverse_cons, List.reverse_cons]
    exact dpa_app (dpa_rev t) (.cons h .nil)
theorem dpa_nil {vs : List V} (h : DpAll K F vs []) : vs = [] := by cases h; rfl
end

def keyD : Key → D
  | .inl i => .int i
  | .inr s => .str s
theorem keyD_inj {a b : Key} (h : keyD a = keyD b) : a = b := by
  cases a <;> cases b <;> simp [keyD] at h <;> simp [h]
def keyT (ks : List Key) : D := .tuple (ks.map keyD)

/-- what stands at a, its parts frozen; a dict whose keys are tuples is told with a pair of Nones ahead -/
def OwnAt (K : PySem.W.Frag) (F H : Hp) (a : Addr) : D → Prop
  | .list ds => ∃ vs, H a = some (.lst vs) ∧ DpAll K F vs ds
  | .dict kvs => (∃ es : List (Key × V), H a = some (.dK es) ∧ Paired (fun (p : Key × V) (q : D × D) => q.1 = keyD p.1 ∧ Dp K F p.2 q.2) es kvs) ∨
      ∃ (es : List (List Key × V)) (r : List (D × D)), kvs = (.none, .none) :: r ∧ H a = some (.dT es) ∧ Paired (fun (p : List Key × V) (q : D × D) => q.1 = keyT p.1 ∧ Dp K F p.2 q.2) es r
  | _ => False
theorem OwnAt.mono {K : PySem.W.Frag} {F F' H H' : Hp} {a : Addr} (g : Grow F F') (e : H' a = H a) : ∀ {d : D}, OwnAt K F H a d → OwnAt K F' H' a d
  | .list ds, ⟨vs, h1, h2⟩ => ⟨vs, e.trans h1, dpa_mono g h2⟩
  | .dict kvs, h => by
    rcases h with ⟨es, h1, h2⟩ | ⟨es, r, h0, h1, h2⟩
    · exact .inl ⟨es, e.trans h1, Paired.mapP h2 fun _ _ z => ⟨z.1, dp_mono g z.2⟩⟩
    · exact .inr ⟨es, r, h0, e.trans h1, Paired.mapP h2 fun _ _ z => ⟨z.1, dp_mono g z.2⟩⟩
theorem OwnAt.some {K : PySem.W.Frag} {F H : Hp} {a : Addr} : ∀ {d : D}, OwnAt K F H a d → ∃ o, H a = some o ∧ ∀ xs, o ≠ .tup xs
  | .list ds, ⟨vs, h1, h2⟩ => ⟨_, h1, fun _ z => by cases z⟩
  | .dict kvs, h => by
    rcases h with ⟨es, h1, h2⟩ | ⟨es, r, h0, h1, h2⟩
    · exact ⟨_, h1, fun _ z => by cases z⟩
    · exact ⟨_, h1, fun _ z => by cases z⟩

/-- the entry of a def's run: heap, frozen part, the parameters that may be changed (slot, place); T: what stands meanwhile -/
structure Bs where
  H0 : Hp
  F0 : Hp
  ps : List (Nat × Addr)
  T : List (Addr × HO)
abbrev Bs.io (b : Bs) : List Addr := b.ps.map (·.2)

structure Ext (b : Bs) (F H : Hp) : Prop where
  sub : Grow F H
  old : ∀ a, b.H0 a ≠ none → F a = b.F0 a
  keep : ∀ a o, b.H0 a = some o → a ∉ b.io → H a = some o
  trk : ∀ a, b.H0 a ≠ none → H a ≠ none

def SlR (K : PySem.W.Frag) (b : Bs) (F H : Hp) (o : Option V) : Sl → Prop
  | .un => True
  | .val d => ∃ v, o = some v ∧ Dp K F v d
  | .own d => ∃ a, o = some (.ref a) ∧ F a = none ∧ b.H0 a = none ∧ OwnAt K F H a d
  | .io d => ∃ a, o = some (.ref a) ∧ F a = none ∧ a ∈ b.io ∧ OwnAt K F H a d

/-- the slot i holds an object at a that may be changed -/
def OA (σ : St) (σd : SD) (i : Nat) (a : Addr) : Prop := σ[i]? = some (some (.ref a)) ∧ ∃ d, σd[i]? = some (.own d) ∨ σd[i]? = some (.io d)

structure Iv (K : PySem.W.Frag) (b : Bs) (F H : Hp) (σ : St) (σd : SD) : Prop extends Ext b F H where
  len : σd.length = σ.length
  sl : ∀ (i : Nat) (o : Option V) (s : Sl), σ[i]? = some o → σd[i]? = some s → SlR K b F H o s
  apart : ∀ (i j : Nat) (a : Addr), OA σ σd i a → OA σ σd j a → i = j
  par : ∀ p ∈ b.ps, σ[p.1]? = some (some (.ref p.2)) ∧ ∃ d, σd[p.1]? = some (.io d)
  tmp : ∀ p ∈ b.T, H p.1 = some p.2 ∧ F p.1 = none ∧ b.H0 p.1 = none ∧ ∀ i a, OA σ σd i a → a ≠ p.1

section
variable {K : PySem.W.Frag} {b : Bs} {F F' H H' : Hp} {σ σ' : St} {σd σd' : SD}
theorem Iv.get (I : Iv K b F H σ σd) {i : Nat} {s : Sl} (h : σd[i]? = some s) : ∃ o, σ[i]? = some o ∧ SlR K b F H o s := by
  have hi : i < σ.length := by
    rw [← I.len]
    exact (List.getElem?_eq_some_iff.mp h).1
  exact ⟨σ[i], List.getElem?_eq_getElem hi, I.sl i _ _ (List.getElem?_eq_getElem hi) h⟩
theorem Iv.val (I : Iv K b F H σ σd) {i : Nat} {d : D} (h : σd[i]? = some (.val d)) : ∃ v, σ[i]? = some (some v) ∧ Dp K F v d := by
  obtain ⟨o, e, v, rfl, r⟩ := I.get h
  exact ⟨v, e, r⟩
/-- a step that leaves the slots: all own objects stand, the frozen part grows by new places -/
theorem Iv.step (I : Iv K b F H σ σd) (g : Grow F F') (sub : Grow F' H') (new : ∀ a, H a ≠ none → F' a = F a) (keep : ∀ a o, H a = some o → H' a = some o) : Iv K b F' H' σ σd := by
  have ne : ∀ a, b.H0 a ≠ none → H a ≠ none := I.trk
  have kp : ∀ a, H a ≠ none → H' a = H a := fun a h => by
    cases e : H a with
    | none => exact absurd e h
    | some o => exact keep a o e
  refine ⟨⟨sub, fun a h => (new a (ne a h)).trans (I.old a h), fun a o h hi => keep a o (I.keep a o h hi), fun a h => by rw [kp a (ne a h)]; exact ne a h⟩, I.len, fun i o s h1 h2 => ?_, I.apart, I.par, fun p hp => ?_⟩
  · have r := I.sl i o s h1 h2
    cases s with
    | un => trivial
    | val d =>
      obtain ⟨v, e, r⟩ := r
      exact ⟨v, e, dp_mono g r⟩
    | own d =>
      obtain ⟨a, e, f, h0, r⟩ := r
      obtain ⟨o', ho, _⟩ := r.some
      have hn : H a ≠ none := by rw [ho]; exact fun z => by cases z
      exact ⟨a, e, by rw [new a hn]; exact f, h0, r.mono g (kp a hn)⟩
    | io d =>
      obtain ⟨a, e, f, h0, r⟩ := r
      obtain ⟨o', ho, _⟩ := r.some
      have hn : H a ≠ none := by rw [ho]; exact fun z => by cases z
      exact ⟨a, e, by rw [new a hn]; exact f, h0, r.mono g (kp a hn)⟩
  · obtain ⟨h1, h2, h3, h4⟩ := I.tmp p hp
    exact ⟨keep _ _ h1, by rw [new _ (by rw [h1]; exact fun z => by cases z)]; exact h2, h3, h4⟩
/-- a new frozen object -/
theorem Iv.alloc (I : Iv K b F H σ σd) {q : Addr} (o : HO) (hq : H q = none) : Iv K b (upd F q o) (upd H q o) σ σd := by
  have fq : F q = none := by
    cases e : F q with
    | none => rfl
    | some u => rw [I.sub _ _ e] at hq; cases hq
  refine I.step (fun a u e => ?_) (fun a u e => ?_) (fun a h => ?_) (fun a u e => ?_)
  · rw [upd_ne (ne_of_none e fq)]
    exact e
  · by_cases z : a = q
    · subst z
      rw [upd_same] at e ⊢
      exact e
    · rw [upd_ne z] at e ⊢
      exact I.sub _ _ e
  · rw [upd_ne (fun z => h (by rw [z]; exact hq))]
  · rw [upd_ne (ne_of_none e hq)]
    exact e
theorem Iv.growq (I : Iv K b F H σ σd) {q : Addr} (o : HO) (hq : H q = none) : Grow F (upd F q o) := fun a u e => by
  rw [upd_ne (ne_of_none (I.sub _ _ e) hq)]
  exact e
/-- a new object that is not frozen (and no slot's) -/
theorem Iv.laid (I : Iv K b F H σ σd) {q : Addr} (o : HO) (hq : H q = none) : Iv K b F (upd H q o) σ σd := by
  refine I.step (Grow.refl F) (fun a u e => ?_) (fun a _ => rfl) (fun a u e => ?_)
  · rw [upd_ne (ne_of_none (I.sub _ _ e) hq)]
    exact I.sub _ _ e
  · rw [upd_ne (ne_of_none e hq)]
    exact e
end

/-! ### operands -/
/-- an operand: an expression of data; or a name's slot, looked at when all are there -/
inductive Opd where
  | ex (w : WE)
  | br (i : Nat)
inductive AV where
  | d (x : D)
  | b (i : Nat)
def slD : Sl → Option D
  | .un => none
  | .val d => some d
  | .own d => some d
  | .io d => some d
def rs (σd : SD) : AV → Option D
  | .d x => some x
  | .b i => (σd[i]?).bind slD
def AVr (K : PySem.W.Frag) (F : Hp) (σ : St) (v : V) : AV → Prop
  | .d x => Dp K F v x
  | .b i => σ[i]? = some (some v)
theorem AVr.mono {K : PySem.W.Frag} {F F' : Hp} {σ : St} {v : V} (g : Grow F F') : ∀ {x : AV}, AVr K F σ v x → AVr K F' σ v x
  | .d _, h => dp_mono g h
  | .b _, h => h
/-- a value that may be read as d now -/
def BV (K : PySem.W.Frag) (F H : Hp) (v : V) (d : D) : Prop := Dp K F v d ∨ ∃ a, v = .ref a ∧ OwnAt K F H a d
section
variable {K : PySem.W.Frag} {b : Bs} {F F' H H' : Hp} {σ σ' : St} {σd σd' : SD}
theorem Iv.bv (I : Iv K b F H σ σd) {v : V} {x : AV} {d : D} (r : AVr K F σ v x) (e : rs σd x = some d) : BV K F H v d := by
  cases x with
  | d x =>
    cases e
    exact .inl r
  | b i =>
    have r : σ[i]? = some (some v) := r
    have e : (σd[i]?).bind slD = some d := e
    cases q : σd[i]? with
    | none => rw [q] at e; cases e
    | some s =>
      rw [q] at e
      have z := I.sl i _ s r q
      cases s with
      | un => cases e
      | val d' =>
        cases e
        obtain ⟨_, z1, z2⟩ := z
        cases z1
        exact .inl z2
      | own d' =>
        cases e
        obtain ⟨a, z1, _, _, z2⟩ := z
        cases z1
        exact .inr ⟨a, rfl, z2⟩
      | io d' =>
        cases e
        obtain ⟨a, z1, _, _, z2⟩ := z
        cases z1
        exact .inr ⟨a, rfl, z2⟩
theorem BV.lst (I : Ext b F H) {v : V} {ds : List D} (r : BV K F H v (.list ds)) : ∃ a xs, v = .ref a ∧ SqL K H a xs ∧ DpAll K F xs ds := by
  rcases r with r | ⟨a, rfl, vs, h1, h2⟩
  · cases r with
    | lst h hs => exact ⟨_, _, rfl, Grow.sql I.sub h, hs⟩
  · exact ⟨a, vs, rfl, SqL.of h1, h2⟩
theorem BV.tup (I : Ext b F H) {v : V} {ds : List D} (r : BV K F H v (.tuple ds)) : ∃ a xs, v = .ref a ∧ SqT K F a xs ∧ SqT K H a xs ∧ DpAll K F xs ds := by
  rcases r with r | ⟨a, rfl, h⟩
  · cases r with
    | tup h hs => exact ⟨_, _, rfl, h, Grow.sqt I.sub h, hs⟩
  · exact h.elim
theorem BV.int {v : V} {i : Int} (r : BV K F H v (.int i)) : v = .int i := by
  rcases r with r | ⟨a, rfl, h⟩
  · cases r; rfl
  · exact h.elim
theorem BV.bool {v : V} {i : Bool} (r : BV K F H v (.bool i)) : v = .bl i := by
  rcases r with r | ⟨a, rfl, h⟩
  · cases r; rfl
  · exact h.elim
theorem BV.str {v : V} {i : Str} (r : BV K F H v (.str i)) : v = .str i := by
  rcases r with r | ⟨a, rfl, h⟩
  · cases r; rfl
  · exact h.elim
theorem BV.non {v : V} (r : BV K F H v .none) : v = .non := by
  rcases r with r | ⟨a, rfl, h⟩
  · cases r; rfl
  · exact h.elim
theorem BV.dp (I : Ext b F H) {v : V} : ∀ {d : D}, (∀ kvs, d ≠ .dict kvs) → BV K F H v d → Dp K H v d
  | d, hn, .inl r => dp_mono I.sub r
  | .list ds, _, .inr ⟨a, e, z⟩ => by
    obtain ⟨vs, h1, h2⟩ := z
    subst e
    exact .lst (SqL.of h1) (dpa_mono I.sub h2)
  | .dict kvs, hn, .inr _ => absurd rfl (hn kvs)
  | .none, _, .inr ⟨_, _, z⟩ => z.elim
  | .bool _, _, .inr ⟨_, _, z⟩ => z.elim
  | .int _, _, .inr ⟨_, _, z⟩ => z.elim
  | .str _, _, .inr ⟨_, _, z⟩ => z.elim
  | .tuple _, _, .inr ⟨_, _, z⟩ => z.elim
end
end DL
end L2
set_option Elab.async false
set_option maxRecDepth 100000
set_option maxHeartbeats 1000000
/-! The data layer, part 2: expressions. -/
namespace L2
open PySem PySem.Spec PyProof.Rows
namespace DL

def fzD : D → Bool
  | .list _ => true
  | _ => false
/-- a wish about data, of a result: a new list is frozen -/
def dz (Q : D → SD → Prop) : Rv → SD → Prop
  | .d x, σ => Q x σ
  | .f x, σ => fzD x = true ∧ Q x σ

/-- what stands at a is new, nobody has it -/
structure Fr1 (K : PySem.W.Frag) (b : Bs) (F H : Hp) (σ : St) (σd : SD) (a : Addr) (x : D) : Prop where
  fz : F a = none
  h0 : b.H0 a = none
  at_ : OwnAt K F H a x
  no : ∀ i, ¬ OA σ σd i a
  nt : ∀ p ∈ b.T, p.1 ≠ a
def RvR (K : PySem.W.Frag) (b : Bs) (F H : Hp) (σ : St) (σd : SD) (v : V) : Rv → Prop
  | .d x => Dp K F v x
  | .f x => ∃ a, v = .ref a ∧ Fr1 K b F H σ σd a x

def XOk (mg : Str → Option Value) (b : Bs) (X : XW) (E : XK) : Prop := ∀ nm C F' H', X nm → mg nm = some (.ref C) → Ext b F' H' → E (.ref C) none H'

section
variable {K : PySem.W.Frag} {mg : Str → Option Value} {E : XK} {b : Bs} {F F' H H' : Hp} {σ σ' : St} {σd σd' : SD} {X : XW}

theorem Fr1.mono {a : Addr} {x : D} (f : Fr1 K b F H σ σd a x) (g : Grow F F') (new : ∀ a, H a ≠ none → F' a = F a) (keep : ∀ a o, H a = some o → H' a = some o) : Fr1 K b F' H' σ σd a x := by
  obtain ⟨o, ho, _⟩ := f.at_.some
  have hn : H a ≠ none := by rw [ho]; exact fun z => by cases z
  exact ⟨by rw [new a hn]; exact f.fz, f.h0, f.at_.mono g ((keep a o ho).trans ho.symm), f.no, f.nt⟩

/-- a new list is frozen -/
theorem Iv.freeze (I : Iv K b F H σ σd) {a : Addr} {x : D} (f : Fr1 K b F H σ σd a x) (hz : fzD x = true) : ∃ F', Iv K b F' H σ σd ∧ Grow F F' ∧ Dp K F' (.ref a) x := by
  cases x with
  | list ds =>
    obtain ⟨vs, h1, h2⟩ := f.at_
    have g : Grow F (upd F a (.lst vs)) := fun c u e => by
      rw [upd_ne (ne_of_none e f.fz)]
      exact e
    refine ⟨upd F a (.lst vs), ⟨⟨fun c u e => ?_, fun c h => ?_, I.keep, I.trk⟩, I.len, fun i o s e1 e2 => ?_, I.apart, I.par, fun p hp => ?_⟩, g, .lst (.inl (.inl upd_same)) (dpa_mono g h2)⟩
    · by_cases z : c = a
      · subst z
        rw [upd_same] at e
        cases e
        exact h1
      · rw [upd_ne z] at e
        exact I.sub _ _ e
    · rw [upd_ne (fun z => h (by rw [z]; exact f.h0))]
      exact I.old c h
    · have r := I.sl i o s e1 e2
      cases s with
      | un => trivial
      | val d =>
        obtain ⟨v, e, r⟩ := r
        exact ⟨v, e, dp_mono g r⟩
      | own d =>
        obtain ⟨c, e, fc, h0, r⟩ := r
        subst e
        refine ⟨c, rfl, ?_, h0, r.mono g rfl⟩
        rw [upd_ne (fun z => f.no i (by rw [← z]; exact ⟨e1, d, .inl e2⟩))]
        exact fc
      | io d =>
        obtain ⟨c, e, fc, h0, r⟩ := r
        subst e
        refine ⟨c, rfl, ?_, h0, r.mono g rfl⟩
        rw [upd_ne (fun z => f.no i (by rw [← z]; exact ⟨e1, d, .inr e2⟩))]
        exact fc
    · obtain ⟨t1, t2, t3, t4⟩ := I.tmp p hp
      exact ⟨t1, by rw [upd_ne (f.nt p hp)]; exact t2, t3, t4⟩
  | _ => cases hz

def tD (K : PySem.W.Frag) (mg : Str → Option Value) (E : XK) (w : WE) : TE := fun σ H Q => ∃ b F σd X Qd, Iv K b F H σ σd ∧ XOk mg b X E ∧ w X σd Qd ∧
  ∀ v H' F' r σd', Iv K b F' H' σ σd' → Grow F F' → RvR K b F' H' σ σd' v r → Qd r σd' → Q v H'
def tDT (K : PySem.W.Frag) (mg : Str → Option Value) (E : XK) (w : WT) : TT := fun σ H Q => ∃ b F σd X Qd, Iv K b F H σ σd ∧ XOk mg b X E ∧ w X σd Qd ∧
  ∀ k H' F' σd', Iv K b F' H' σ σd' → Grow F F' → Qd k σd' → Q k H'

/-- with the result frozen -/
theorem tD_dz {w : WE} {Q : VK} {R : D → SD → Prop} (I : Iv K b F H σ σd) (x : XOk mg b X E) (h : w X σd (dz R))
    (q : ∀ v H' F' d σd', Iv K b F' H' σ σd' → Grow F F' → Dp K F' v d → R d σd' → Q v H') : tD K mg E w σ H Q := by
  refine ⟨b, F, σd, X, _, I, x, h, fun v H' F' r σd' I' g rr hr => ?_⟩
  cases r with
  | d y => exact q v H' F' y σd' I' g rr hr
  | f y =>
    obtain ⟨a, rfl, f1⟩ := rr
    obtain ⟨F2, I2, g2, dp⟩ := I'.freeze f1 hr.1
    exact q _ H' F2 y σd' I2 (g.trans g2) dp hr.2

def tO (K : PySem.W.Frag) (mg : Str → Option Value) (E : XK) : Opd → TE
  | .ex w => tD K mg E w
  | .br i => tVar i
def wO : Opd → XW → SD → (AV → SD → Prop) → Prop
  | .ex w, X, σd, Q => w X σd (dz fun d σ' => Q (.d d) σ')
  | .br i, _, σd, Q => (∃ d, rs σd (.b i) = some d) ∧ Q (.b i) σd
theorem Iv.slot (I : Iv K b F H σ σd) {i : Nat} {d : D} (e : rs σd (.b i) = some d) : ∃ v, σ[i]? = some (some v) := by
  have e : (σd[i]?).bind slD = some d := e
  cases q : σd[i]? with
  | none => rw [q] at e; cases e
  | some s =>
    rw [q] at e
    obtain ⟨o, h1, h2⟩ := I.get q
    cases s with
    | un => cases e
    | val _ => obtain ⟨v, rfl, _⟩ := h2; exact ⟨v, h1⟩
    | own _ => obtain ⟨v, rfl, _⟩ := h2; exact ⟨_, h1⟩
    | io _ => obtain ⟨v, rfl, _⟩ := h2; exact ⟨_, h1⟩
theorem tO_run {o : Opd} {R : AV → SD → Prop} {Q : VK} (I : Iv K b F H σ σd) (x : XOk mg b X E) (h : wO o X σd R)
    (q : ∀ v H' F' av σd', Iv K b F' H' σ σd' → Grow F F' → AVr K F' σ v av → R av σd' → Q v H') : tO K mg E o σ H Q := by
  cases o with
  | ex w => exact tD_dz I x h fun v H' F' d σd' I' g r q' => q v H' F' (.d d) σd' I' g r q'
  | br i =>
    obtain ⟨⟨d, e⟩, h⟩ := h
    obtain ⟨v, hv⟩ := I.slot e
    exact ⟨v, hv, q v H F (.b i) σd I (Grow.refl F) hv h⟩

/-! lists of operands -/
def tOs (K : PySem.W.Frag) (mg : Str → Option Value) (E : XK) : List Opd → TA
  | [] => tNil
  | o :: os => tCons (tO K mg E o) (tOs K mg E os)
def wOs : List Opd → XW → SD → (List AV → SD → Prop) → Prop
  | [], _, σd, Q => Q [] σd
  | o :: os, X, σd, Q => wO o X σd fun av σ1 => wOs os X σ1 fun avs σ2 => Q (av :: avs) σ2
inductive AVs (K : PySem.W.Frag) (F : Hp) (σ : St) : List V → List AV → Prop
  | nil : AVs K F σ [] []
  | cons {v x vs xs} : AVr K F σ v x → AVs K F σ vs xs → AVs K F σ (v :: vs) (x :: xs)
theorem tOs_run : ∀ {os : List Opd} {F H : Hp} {σd : SD} {R : List AV → SD → Prop} {Q : List V → Hp → Prop} (_ : Iv K b F H σ σd) (_ : XOk mg b X E) (_ : wOs os X σd R)
    (_ : ∀ vs H' F' avs σd', Iv K b F' H' σ σd' → Grow F F' → AVs K F' σ vs avs → R avs σd' → Q vs H'), tOs K mg E os σ H Q
  | [], F, H, σd, R, Q, I, x, h, q => q [] H F [] σd I (Grow.refl F) .nil h
  | o :: os, F, H, σd, R, Q, I, x, h, q =>
    tO_run I x h fun v H' F' av σd' I' g r h' => tOs_run I' x h' fun vs H2 F2 avs σ2 I2 g2 rs h2 => q (v :: vs) H2 F2 (av :: avs) σ2 I2 (g.trans g2) (.cons (r.mono g2) rs) h2
def rsL (σd : SD) : List AV → Option (List D)
  | [] => some []
  | x :: xs => match rs σd x, rsL σd xs with
    | some d, some ds => some (d :: ds)
    | _, _ => none
inductive BVs (K : PySem.W.Frag) (F H : Hp) : List V → List D → Prop
  | nil : BVs K F H [] []
  | cons {v d vs ds} : BV K F H v d → BVs K F H vs ds → BVs K F H (v :: vs) (d :: ds)
theorem Iv.bvs (I : Iv K b F H σ σd) : ∀ {vs : List V} {xs : List AV} {ds : List D}, AVs K F σ vs xs → rsL σd xs = some ds → BVs K F H vs ds
  | _, _, _, .nil, e => by cases e; exact .nil
  | _, _, ds, .cons (v := v) (x := x) (vs := vs) (xs := xs) r t, e => by
    unfold rsL at e
    cases h1 : rs σd x with
    | none => rw [h1] at e; cases e
    | some d =>
      cases h2 : rsL σd xs with
      | none => rw [h1, h2] at e; cases e
      | some es =>
        rw [h1, h2] at e
        cases e
        exact .cons (I.bv r h1) (I.bvs t h2)

/-! pure operations -/
abbrev P1 := D → (Rv → Prop) → Prop
abbrev P2 := D → D → (Rv → Prop) → Prop
abbrev PL := List D → (Rv → Prop) → Prop
def w1 (p : P1) (a : Opd) : WE := fun X σd Q => wO a X σd fun x σ1 => ∃ d, rs σ1 x = some d ∧ p d fun r => Q r σ1
def w2 (p : P2) (a c : Opd) : WE := fun X σd Q => wO a X σd fun x σ1 => wO c X σ1 fun y σ2 => ∃ d e, rs σ2 x = some d ∧ rs σ2 y = some e ∧ p d e fun r => Q r σ2
def wL (p : PL) (os : List Opd) : WE := fun X σd Q => wOs os X σd fun xs σ1 => ∃ ds, rsL σ1 xs = some ds ∧ p ds fun r => Q r σ1

/-- what a rule's end wishes, told from data -/
def Ends1 (K : PySem.W.Frag) (b : Bs) (F : Hp) (σ : St) (σd : SD) (Qd : Rv → Prop) (Q : VK) : Prop := ∀ v H' F' r, Iv K b F' H' σ σd → Grow F F' → RvR K b F' H' σ σd v r → Qd r → Q v H'
def P1Ok (K : PySem.W.Frag) (r : V → Hp → VK → Prop) (p : P1) : Prop := ∀ b F H σ σd x d Q Qd, Iv K b F H σ σd → BV K F H x d → p d Qd → Ends1 K b F σ σd Qd Q → r x H Q
def P2Ok (K : PySem.W.Frag) (r : R2) (p : P2) : Prop := ∀ b F H σ σd x y d e Q Qd, Iv K b F H σ σd → BV K F H x d → BV K F H y e → p d e Qd → Ends1 K b F σ σd Qd Q → r x y H Q
def PLOk (K : PySem.W.Frag) (r : List V → Hp → VK → Prop) (p : PL) : Prop := ∀ b F H σ σd xs ds Q Qd, Iv K b F H σ σd → BVs K F H xs ds → p ds Qd → Ends1 K b F σ σd Qd Q → r xs H Q

theorem t1_of {r : V → Hp → VK → Prop} {p : P1} (hp : P1Ok K r p) {o : Opd} {Q : VK} (h : tD K mg E (w1 p o) σ H Q) : tUn r (tO K mg E o) σ H Q := by
  obtain ⟨b, F, σd, X, Qd, I, x, h, q⟩ := h
  exact tO_run I x h fun v H1 F1 av σ1 I1 g1 r1 ⟨d, e1, h1⟩ => hp b F1 H1 σ σ1 v d Q _ I1 (I1.bv r1 e1) h1 fun w H2 F2 rr I2 g2 rv hq => q w H2 F2 rr σ1 I2 (g1.trans g2) rv hq
theorem t2_of {r : R2} {p : P2} (hp : P2Ok K r p) {o c : Opd} {Q : VK} (h : tD K mg E (w2 p o c) σ H Q) : tOp r (tO K mg E o) (tO K mg E c) σ H Q := by
  obtain ⟨b, F, σd, X, Qd, I, x, h, q⟩ := h
  exact tO_run I x h fun v H1 F1 av σ1 I1 g1 r1 h1 => tO_run I1 x h1 fun u H2 F2 aw σ2 I2 g2 r2 ⟨d, e, e1, e2, h2⟩ =>
    hp b F2 H2 σ σ2 v u d e Q _ I2 (I2.bv (r1.mono g2) e1) (I2.bv r2 e2) h2 fun w H3 F3 rr I3 g3 rv hq => q w H3 F3 rr σ2 I3 ((g1.trans g2).trans g3) rv hq
theorem tL_of {r : List V → Hp → VK → Prop} {p : PL} (hp : PLOk K r p) {os : List Opd} {Q : VK} (h : tD K mg E (wL p os) σ H Q) : tOs K mg E os σ H (fun vs H1 => r vs H1 Q) := by
  obtain ⟨b, F, σd, X, Qd, I, x, h, q⟩ := h
  exact tOs_run I x h fun vs H1 F1 avs σ1 I1 g1 r1 ⟨ds, e1, h1⟩ => hp b F1 H1 σ σ1 vs ds Q _ I1 (I1.bvs r1 e1) h1 fun w H2 F2 rr I2 g2 rv hq => q w H2 F2 rr σ1 I2 (g1.trans g2) rv hq
end

/-! ### the judgements -/
abbrev DE (X : Cx) (E : XK) (e : Expr) (w : WE) : Prop := PE X e (tD X.K X.mg E w)
abbrev DO (X : Cx) (E : XK) (e : Expr) (o : Opd) : Prop := PE X e (tO X.K X.mg E o)
abbrev DT (X : Cx) (E : XK) (e : Expr) (w : WT) : Prop := PT X e (tDT X.K X.mg E w)
abbrev DA (X : Cx) (E : XK) (es : List Expr) (os : List Opd) : Prop := PA X es (tOs X.K X.mg E os)

section
variable {X : Cx} {E : XK} {e a c : Expr} {pos : Pos}
theorem _root_.L2.PE.imp {t t' : TE} (h : PE X e t) (i : ∀ σ H Q, t' σ H Q → t σ H Q) : PE X e t' := ⟨fun pins s σ H Q I q => h.run pins s σ H Q I (i _ _ _ q)⟩
theorem _root_.L2.PT.imp {t t' : TT} (h : PT X e t) (i : ∀ σ H Q, t' σ H Q → t σ H Q) : PT X e t' := ⟨fun pins s σ H Q I q => h.run pins s σ H Q I (i _ _ _ q)⟩
theorem _root_.L2.PA.imp {es : List Expr} {t t' : TA} (h : PA X es t) (i : ∀ σ H Q, t' σ H Q → t σ H Q) : PA X es t' := ⟨fun pos pins s σ H Q I q => h.run pos pins s σ H Q I (i _ _ _ q)⟩

def wFalse : WE := fun _ _ _ => False
theorem de_false : DE X E e wFalse := ⟨fun pins s σ H Q I h => by
  obtain ⟨_, _, _, _, _, _, _, z, _⟩ := h
  exact z.elim⟩
def wtFalse : WT := fun _ _ _ => False
theorem dt_false : DT X E e wtFalse := ⟨fun pins s σ H Q I h => by
  obtain ⟨_, _, _, _, _, _, _, z, _⟩ := h
  exact z.elim⟩
theorem do_ex {w : WE} (h : DE X E e w) : DO X E e (.ex w) := h
theorem do_br {i : Nat} {x : Str} {p : Pos} (hN : X.N[i]? = some x) (hv : Vis X.env.scope x) (hd : (x == ("__debug__" : Str)) = false) (hcd : (x == ("__classdict__" : Str)) = false) : DO X E (.Name x p) (.br i) := pe_var hN hv hd hcd
/-- a constant -/
def wC (d : D) : WE := fun _ σd Q => Q (.d d) σd
theorem de_c {v : V} {d : D} (h : PE X e (tC v)) (r : ∀ K F, Dp K F v d) : DE X E e (wC d) := h.imp fun σ H Q ⟨b, F, σd, W, Qd, I, x, h, q⟩ => q v H F (.d d) σd I (Grow.refl F) (r _ _) h
/-- a name, its own list frozen if it has one -/
def wN (i : Nat) : WE := fun _ σd Q => match σd[i]? with
  | some (.val d) => Q (.d d) σd
  | some (.own d) => fzD d = true ∧ Q (.d d) (σd.set i (.val d))
  | _ => False
/-- a name, its own object given away -/
def wMv (i : Nat) : WE := fun _ σd Q => match σd[i]? with
  | some (.val d) => Q (.d d) σd
  | some (.own d) => Q (.f d) (σd.set i .un)
  | _ => False
end

section
variable {K : PySem.W.Frag} {b : Bs} {F H : Hp} {σ : St} {σd : SD}
theorem OA.of_set {σ : St} {σd : SD} {i j : Nat} {a : Addr} {s : Sl} (h : OA σ (σd.set i s) j a) (hs : ∀ d, s ≠ .own d ∧ s ≠ .io d) : OA σ σd j a ∧ j ≠ i := by
  obtain ⟨h1, d, h2⟩ := h
  by_cases z : j = i
  · subst z
    by_cases hi : j < σd.length
    · rw [List.getElem?_set_self hi] at h2
      rcases h2 with h2 | h2
      · exact absurd (Option.some.inj h2) (hs d).1
      · exact absurd (Option.some.inj h2) (hs d).2
    · rw [List.getElem?_eq_none (by rw [List.length_set]; omega)] at h2
      rcases h2 with h2 | h2 <;> cases h2
  · rw [List.getElem?_set_ne (Ne.symm z)] at h2
    exact ⟨⟨h1, d, h2⟩, z⟩
/-- an own slot is forgotten: its object is free to be taken -/
theorem Iv.drop (I : Iv K b F H σ σd) {i : Nat} {d : D} (e : σd[i]? = some (.own d)) : ∃ a, σ[i]? = some (some (.ref a)) ∧ Iv K b F H σ (σd.set i .un) ∧ Fr1 K b F H σ (σd.set i .un) a d := by
  obtain ⟨o, h1, a, rfl, f, h0, r⟩ := I.get e
  have hs : ∀ d, Sl.un ≠ .own d ∧ Sl.un ≠ .io d := fun d => ⟨fun z => (by cases z), fun z => (by cases z)⟩
  have oa : OA σ σd i a := ⟨h1, d, .inl e⟩
  refine ⟨a, h1, ⟨I.toExt, by rw [List.length_set]; exact I.len, fun j o s e1 e2 => ?_, fun j k c p q => I.apart j k c (OA.of_set p hs).1 (OA.of_set q hs).1, fun p hp => ?_, fun p hp => ?_⟩, f, h0, r, fun j z => ?_, fun p hp z => ?_⟩
  · by_cases z : i = j
    · subst z
      rw [List.getElem?_set_self (List.getElem?_eq_some_iff.mp e).1] at e2
      cases e2
      trivial
    · rw [List.getElem?_set_ne z] at e2
      exact I.sl j o s e1 e2
  · obtain ⟨p1, d', p2⟩ := I.par p hp
    refine ⟨p1, d', ?_⟩
    rw [List.getElem?_set_ne (fun z => by rw [← z, e] at p2; cases p2)]
    exact p2
  · obtain ⟨t1, t2, t3, t4⟩ := I.tmp p hp
    exact ⟨t1, t2, t3, fun j c z => t4 j c (OA.of_set z hs).1⟩
  · obtain ⟨z1, z2⟩ := OA.of_set z hs
    exact z2 (I.apart j i a z1 oa)
  · exact (I.tmp p hp).2.2.2 i a oa z.symm
/-- a slot gets data; the value stands in it already -/
theorem Iv.setv (I : Iv K b F H σ σd) {i : Nat} {v : V} {d : D} (h : σ[i]? = some (some v)) (r : Dp K F v d) (e : σd[i]? = some .un) : Iv K b F H σ (σd.set i (.val d)) := by
  have hs : ∀ d', Sl.val d ≠ .own d' ∧ Sl.val d ≠ .io d' := fun d => ⟨fun z => (by cases z), fun z => (by cases z)⟩
  refine ⟨I.toExt, by rw [List.length_set]; exact I.len, fun j o s e1 e2 => ?_, fun j k c p q => I.apart j k c (OA.of_set p hs).1 (OA.of_set q hs).1, fun p hp => ?_, fun p hp => ?_⟩
  · by_cases z : i = j
    · subst z
      rw [List.getElem?_set_self (List.getElem?_eq_some_iff.mp e).1] at e2
      cases e2
      rw [h] at e1
      exact ⟨v, (Option.some.inj e1).symm, r⟩
    · rw [List.getElem?_set_ne z] at e2
      exact I.sl j o s e1 e2
  · obtain ⟨p1, d', p2⟩ := I.par p hp
    refine ⟨p1, d', ?_⟩
    rw [List.getElem?_set_ne (fun z => by rw [← z, e] at p2; cases p2)]
    exact p2
  · obtain ⟨t1, t2, t3, t4⟩ := I.tmp p hp
    exact ⟨t1, t2, t3, fun j c z => t4 j c (OA.of_set z hs).1⟩
end

section
variable {X : Cx} {E : XK} {e a c : Expr} {pos : Pos}
theorem de_mv {i : Nat} {x : Str} {p : Pos} (hN : X.N[i]? = some x) (hv : Vis X.env.scope x) (hd : (x == ("__debug__" : Str)) = false) (hcd : (x == ("__classdict__" : Str)) = false) : DE X E (.Name x p) (wMv i) := by
  refine (pe_var hN hv hd hcd).imp fun σ H Q ⟨b, F, σd, W, Qd, I, x, h, q⟩ => ?_
  unfold wMv at h
  split at h
  · rename_i d e
    obtain ⟨v, h1, r⟩ := I.val e
    exact ⟨v, h1, q v H F (.d d) σd I (Grow.refl F) r h⟩
  · rename_i d e
    obtain ⟨a, h1, I1, f⟩ := I.drop e
    exact ⟨_, h1, q _ H F (.f d) _ I1 (Grow.refl F) ⟨a, rfl, f⟩ h⟩
  · exact h.elim
theorem de_n {i : Nat} {x : Str} {p : Pos} (hN : X.N[i]? = some x) (hv : Vis X.env.scope x) (hd : (x == ("__debug__" : Str)) = false) (hcd : (x == ("__classdict__" : Str)) = false) : DE X E (.Name x p) (wN i) := by
  refine (pe_var hN hv hd hcd).imp fun σ H Q ⟨b, F, σd, W, Qd, I, x, h, q⟩ => ?_
  unfold wN at h
  split at h
  · rename_i d e
    obtain ⟨v, h1, r⟩ := I.val e
    exact ⟨v, h1, q v H F (.d d) σd I (Grow.refl F) r h⟩
  · rename_i d e
    obtain ⟨a, h1, I1, f⟩ := I.drop e
    obtain ⟨F2, I2, g2, dp⟩ := I1.freeze f h.1
    have I3 := I2.setv (i := i) h1 dp (List.getElem?_set_self (List.getElem?_eq_some_iff.mp e).1)
    rw [List.set_set] at I3
    exact ⟨_, h1, q _ H F2 (.d d) _ I3 g2 dp h.2⟩
  · exact h.elim

theorem do_list_nil : DA X E [] [] := pa_nil
theorem do_list_cons {es : List Expr} {o : Opd} {os : List Opd} (h : DO X E e o) (t : DA X E es os) (hs : starEach (e :: es) X.env = (false, eval e X.env) :: starEach es X.env) : DA X E (e :: es) (o :: os) := pa_cons h t hs

theorem de_bin {op : Operator} {r : R2} {p : P2} {oa oc : Opd} (ho : OpR X (binaryOp op) r) (hp : P2Ok X.K r p) (ha : DO X E a oa) (hc : DO X E c oc) : DE X E (.BinOp a op c pos) (w2 p oa oc) :=
  (pe_op ho ha hc).imp fun _ _ _ h => t2_of hp h
theorem de_un {op : UnaryOp} {r : V → Hp → VK → Prop} {p : P1} {oa : Opd} (ho : UnR X (unaryOp op) r) (hp : P1Ok X.K r p) (ha : DO X E a oa) : DE X E (.UnaryOp op a pos) (w1 p oa) :=
  (pe_un ho ha).imp fun _ _ _ h => t1_of hp h
theorem de_cmp {op : CmpOp} {r : R2} {p : P2} {oa oc : Opd} (ho : OpR X (compareOp op) r) (hp : P2Ok X.K r p) (ha : DO X E a oa) (hc : DO X E c oc) (hm : behindInMarks op c = false) : DE X E (.Compare a [op] [c] pos) (w2 p oa oc) :=
  (pe_cmpR ho ha hc hm).imp fun _ _ _ h => t2_of hp h
theorem de_ix {r : R2} {p : P2} {oa oc : Opd} (ho : IxR X r) (hp : P2Ok X.K r p) (ha : DO X E a oa) (hc : DO X E c oc) (hs : PlainIx c) : DE X E (.Subscript a c pos) (w2 p oa oc) :=
  (pe_ix ho ha hc hs).imp fun _ _ _ h => t2_of hp h
theorem de_callB {x : Str} {id : String} {p : Pos} {es : List Expr} {r : List V → Hp → VK → Prop} {pl : PL} {os : List Opd} (hr : CallR X (.builtin id) r) (hp : PLOk X.K r pl) (hg : Gl X x) (hm : X.mg x = none) (hv : bootBuiltins x = some (.builtin id)) (ha : DA X E (e :: es) os)
    (hn : x ≠ "__name__") (hdb : (x == ("__debug__" : Str)) = false) (he : starEach (e :: es) X.env = (false, eval e X.env) :: starEach es X.env) (hpl : (backTo pos (starEach es X.env)).any (·.1) = false) : DE X E (.Call (.Name x p) (e :: es) [] pos) (wL pl os) :=
  (pe_callB hr hg hm hv ha hn hdb he hpl).imp fun _ _ _ h => tL_of hp h
theorem de_callTy {x : Str} {T : String} {p : Pos} {es : List Expr} {r : List V → Hp → VK → Prop} {pl : PL} {os : List Opd} (hr : CallR X (.type T) r) (hp : PLOk X.K r pl) (hg : Gl X x) (hm : X.mg x = none) (hv : bootBuiltins x = some (.type T)) (ha : DA X E (e :: es) os)
    (hn : x ≠ "__name__") (hdb : (x == ("__debug__" : Str)) = false) (he : starEach (e :: es) X.env = (false, eval e X.env) :: starEach es X.env) (hpl : (backTo pos (starEach es X.env)).any (·.1) = false) : DE X E (.Call (.Name x p) (e :: es) [] pos) (wL pl os) :=
  (pe_callTy hr hg hm hv ha hn hdb he hpl).imp fun _ _ _ h => tL_of hp h

/-! ### tests -/
def wtB (w : WE) : WT := fun X σd Q => w X σd fun r σ1 => match r with
  | .d (.bool k) => Q k σ1
  | _ => False
theorem tB_of {w : WE} {K : PySem.W.Frag} {mg : Str → Option Value} {σ : St} {H : Hp} {Q : Bool → Hp → Prop} (h : tDT K mg E (wtB w) σ H Q) : tB (tD K mg E w) σ H Q := by
  obtain ⟨b, F, σd, W, Qd, I, x, h, q⟩ := h
  refine ⟨b, F, σd, W, _, I, x, h, fun v H' F' r σd' I' g rr hr => ?_⟩
  split at hr
  · rename_i k
    cases rr
    exact ⟨k, rfl, q k H' F' σd' I' g hr⟩
  · exact hr.elim
theorem dt_val {w : WE} (h : DE X E e w) (he : ∀ whole, isTrue e X.env whole = (do let v ← whole; standAt e.pos; holding [v] (truthy v))) : DT X E e (wtB w) :=
  (pt_val h he).imp fun _ _ _ h => tB_of h
theorem dt_cmp {op : CmpOp} {r : R2} {p : P2} {oa oc : Opd} (ho : OpR X (compareOp op) r) (hp : P2Ok X.K r p) (ha : DO X E a oa) (hc : DO X E c oc) (hm : behindInMarks op c = false) : DT X E (.Compare a [op] [c] pos) (wtB (w2 p oa oc)) :=
  (pt_cmpR ho ha hc hm).imp fun σ H Q h => by
    obtain ⟨b, F, σd, W, Qd, I, x, h, q⟩ := h
    refine t2_of (K := X.K) (mg := X.mg) (E := E) hp ⟨b, F, σd, W, _, I, x, h, fun v H' F' r σd' I' g rr hr => ?_⟩
    split at hr
    · rename_i k
      cases rr
      exact ⟨k, rfl, q k H' F' σd' I' g hr⟩
    · exact hr.elim
def wtNot (w : WT) : WT := fun X σd Q => w X σd fun k σ1 => Q (!k) σ1
theorem dt_not {w : WT} (h : DT X E a w) : DT X E (.UnaryOp .Not a pos) (wtNot w) :=
  (pt_not h).imp fun σ H Q ⟨b, F, σd, W, Qd, I, x, h, q⟩ => ⟨b, F, σd, W, _, I, x, h, fun k H' F' σd' I' g hr => q (!k) H' F' σd' I' g hr⟩
def wtAnd (w u : WT) : WT := fun X σd Q => w X σd fun k σ1 => if k = true then u X σ1 Q else Q false σ1
def wtOr (w u : WT) : WT := fun X σd Q => w X σd fun k σ1 => if k = true then Q true σ1 else u X σ1 Q
abbrev DW (X : Cx) (E : XK) (e : Expr) (w : WT) : Prop := PW X e (tDT X.K X.mg E w)
theorem dw_and1 {w : WT} (h : DT X E a w) : DW X E (.BoolOp .And [a] pos) w := pw_and1 h
theorem dw_or1 {w : WT} (h : DT X E a w) : DW X E (.BoolOp .Or [a] pos) w := pw_or1 h
theorem _root_.L2.PW.imp {t t' : TT} (h : PW X e t) (i : ∀ σ H Q, t' σ H Q → t σ H Q) : PW X e t' := ⟨fun wh pins s σ H Q I q => h.run wh pins s σ H Q I (i _ _ _ q)⟩
theorem dw_and {w u : WT} {c : Expr} {rest : List Expr} (h : DT X E a w) (t : DW X E (.BoolOp .And (c :: rest) pos) u) : DW X E (.BoolOp .And (a :: c :: rest) pos) (wtAnd w u) :=
  PW.imp (pw_and h t) fun σ H Q ⟨b, F, σd, W, Qd, I, x, h, q⟩ => ⟨b, F, σd, W, _, I, x, h, fun k H' F' σd' I' g hr => by
    cases k with
    | true => exact ⟨b, F', σd', W, Qd, I', x, hr, fun k2 H2 F2 σ2 I2 g2 hq => q k2 H2 F2 σ2 I2 (g.trans g2) hq⟩
    | false => exact q false H' F' σd' I' g hr⟩
theorem dw_or {w u : WT} {c : Expr} {rest : List Expr} (h : DT X E a w) (t : DW X E (.BoolOp .Or (c :: rest) pos) u) : DW X E (.BoolOp .Or (a :: c :: rest) pos) (wtOr w u) :=
  PW.imp (pw_or h t) fun σ H Q ⟨b, F, σd, W, Qd, I, x, h, q⟩ => ⟨b, F, σd, W, _, I, x, h, fun k H' F' σd' I' g hr => by
    cases k with
    | false => exact ⟨b, F', σd', W, Qd, I', x, hr, fun k2 H2 F2 σ2 I2 g2 hq => q k2 H2 F2 σ2 I2 (g.trans g2) hq⟩
    | true => exact q true H' F' σd' I' g hr⟩
theorem dw_dt {w : WT} (h : DW X E e w) : DT X E e w := h.pt
/-! values by and, or, not: all but the last True or False -/
def weAnd (w u : WE) : WE := fun X σd Q => w X σd fun r σ1 => match r with
  | .d (.bool true) => u X σ1 Q
  | .d (.bool false) => Q (.d (.bool false)) σ1
  | _ => False
def weOr (w u : WE) : WE := fun X σd Q => w X σd fun r σ1 => match r with
  | .d (.bool false) => u X σ1 Q
  | .d (.bool true) => Q (.d (.bool true)) σ1
  | _ => False
theorem de_one {op} {w : WE} (h : DE X E a w) : DE X E (.BoolOp op [a] pos) w := pe_one h
theorem de_and {w u : WE} {c : Expr} {rest : List Expr} (h : DE X E a w) (t : DE X E (.BoolOp .And (c :: rest) pos) u) : DE X E (.BoolOp .And (a :: c :: rest) pos) (weAnd w u) :=
  (pe_and h t).imp fun σ H Q ⟨b, F, σd, W, Qd, I, x, h, q⟩ => ⟨b, F, σd, W, _, I, x, h, fun v H' F' r σd' I' g rr hr => by
    split at hr
    · cases rr
      exact ⟨true, rfl, b, F', σd', W, Qd, I', x, hr, fun k2 H2 F2 r2 σ2 I2 g2 rr2 hq => q k2 H2 F2 r2 σ2 I2 (g.trans g2) rr2 hq⟩
    · cases rr
      exact ⟨false, rfl, q _ H' F' (.d (.bool false)) σd' I' g (Dp.bl false) hr⟩
    · exact hr.elim⟩
theorem de_or {w u : WE} {c : Expr} {rest : List Expr} (h : DE X E a w) (t : DE X E (.BoolOp .Or (c :: rest) pos) u) : DE X E (.BoolOp .Or (a :: c :: rest) pos) (weOr w u) :=
  (pe_or h t).imp fun σ H Q ⟨b, F, σd, W, Qd, I, x, h, q⟩ => ⟨b, F, σd, W, _, I, x, h, fun v H' F' r σd' I' g rr hr => by
    split at hr
    · cases rr
      exact ⟨false, rfl, b, F', σd', W, Qd, I', x, hr, fun k2 H2 F2 r2 σ2 I2 g2 rr2 hq => q k2 H2 F2 r2 σ2 I2 (g.trans g2) rr2 hq⟩
    · cases rr
      exact ⟨true, rfl, q _ H' F' (.d (.bool true)) σd' I' g (Dp.bl true) hr⟩
    · exact hr.elim⟩
def weNot (w : WE) : WE := fun X σd Q => w X σd fun r σ1 => match r with
  | .d (.bool k) => Q (.d (.bool (!k))) σ1
  | _ => False
theorem de_not {w : WE} (h : DE X E a w) : DE X E (.UnaryOp .Not a pos) (weNot w) :=
  (pe_not h).imp fun σ H Q ⟨b, F, σd, W, Qd, I, x, h, q⟩ => ⟨b, F, σd, W, _, I, x, h, fun v H' F' r σd' I' g rr hr => by
    split at hr
    · rename_i k
      cases rr
      exact ⟨k, rfl, q _ H' F' (.d (.bool _)) σd' I' g (Dp.bl _) hr⟩
    · exact hr.elim⟩
def weIf (t : WT) (w u : WE) : WE := fun X σd Q => t X σd fun k σ1 => if k = true then w X σ1 Q else u X σ1 Q
theorem de_if {t : WT} {w u : WE} (ht : DT X E e t) (h : DE X E a w) (h2 : DE X E c u) : DE X E (.IfExp e a c pos) (weIf t w u) :=
  (pe_ifExp ht h h2).imp fun σ H Q ⟨b, F, σd, W, Qd, I, x, h, q⟩ => ⟨b, F, σd, W, _, I, x, h, fun k H' F' σd' I' g hr => by
    cases k with
    | true => exact ⟨b, F', σd', W, Qd, I', x, hr, fun k2 H2 F2 r2 σ2 I2 g2 rr2 hq => q k2 H2 F2 r2 σ2 I2 (g.trans g2) rr2 hq⟩
    | false => exact ⟨b, F', σd', W, Qd, I', x, hr, fun k2 H2 F2 r2 σ2 I2 g2 rr2 hq => q k2 H2 F2 r2 σ2 I2 (g.trans g2) rr2 hq⟩⟩
/-- a op1 b op2 c -/
def w3 (p p' : P2) (a c e : Opd) : WE := fun X σd Q => wO a X σd fun x σ1 => wO c X σ1 fun y σ2 => ∃ d1 d2, rs σ2 x = some d1 ∧ rs σ2 y = some d2 ∧ p d1 d2 fun r => match r with
  | .d (.bool true) => wO e X σ2 fun z σ3 => ∃ d2' d3, rs σ3 y = some d2' ∧ rs σ3 z = some d3 ∧ p' d2' d3 fun r => Q r σ3
  | .d (.bool false) => Q (.d (.bool false)) σ2
  | _ => False
theorem t3_of {r r' : R2} {p p' : P2} {K : PySem.W.Frag} {mg : Str → Option Value} {σ : St} {H : Hp} {Q : VK} (hp : P2Ok K r p) (hp' : P2Ok K r' p') {oa oc oe : Opd} (h : tD K mg E (w3 p p' oa oc oe) σ H Q) : tChain r r' (tO K mg E oa) (tO K mg E oc) (tO K mg E oe) σ H Q := by
  obtain ⟨b, F, σd, X, Qd, I, x, h, q⟩ := h
  refine tO_run I x h fun v H1 F1 av σ1 I1 g1 r1 h1 => tO_run I1 x h1 fun u H2 F2 aw σ2 I2 g2 r2 ⟨d, e, e1, e2, h2⟩ =>
    hp b F2 H2 σ σ2 v u d e _ _ I2 (I2.bv (r1.mono g2) e1) (I2.bv r2 e2) h2 fun w H3 F3 rr I3 g3 rv hq => ?_
  split at hq
  · cases rv
    refine ⟨true, rfl, ?_⟩
    rw [if_pos rfl]
    exact tO_run I3 x hq fun z H4 F4 az σ4 I4 g4 r4 ⟨d2, d3, e3, e4, h4⟩ => hp' b F4 H4 σ σ4 u z d2 d3 Q _ I4 (I4.bv ((r2.mono g3).mono g4) e3) (I4.bv r4 e4) h4 fun w5 H5 F5 rr5 I5 g5 rv5 hq5 =>
      q w5 H5 F5 rr5 σ4 I5 ((((g1.trans g2).trans g3).trans g4).trans g5) rv5 hq5
  · cases rv
    refine ⟨false, rfl, ?_⟩
    rw [if_neg Bool.false_ne_true]
    exact q _ H3 F3 (.d (.bool false)) σ2 I3 ((g1.trans g2).trans g3) (Dp.bl false) hq
  · exact hq.elim
theorem de_chain {op op' : CmpOp} {r r' : R2} {p p' : P2} {oa oc oe : Opd} (ho : OpR X (compareOp op) r) (ho' : OpR X (compareOp op') r') (hp : P2Ok X.K r p) (hp' : P2Ok X.K r' p') (ha : DO X E a oa) (hc : DO X E c oc) (he : DO X E e oe)
    (hm : lastMarks [op, op'] [c, e] = false) : DE X E (.Compare a [op, op'] [c, e] pos) (w3 p p' oa oc oe) := (pe_chain ho ho' ha hc he hm).imp fun _ _ _ h => t3_of hp hp' h
theorem dt_chain {op op' : CmpOp} {r r' : R2} {p p' : P2} {oa oc oe : Opd} (ho : OpR X (compareOp op) r) (ho' : OpR X (compareOp op') r') (hp : P2Ok X.K r p) (hp' : P2Ok X.K r' p') (ha : DO X E a oa) (hc : DO X E c oc) (he : DO X E e oe)
    (hm : lastMarks [op, op'] [c, e] = false) : DT X E (.Compare a [op, op'] [c, e] pos) (wtB (w3 p p' oa oc oe)) := (pt_chain ho ho' ha hc he hm).imp fun σ H Q h => by
    obtain ⟨b, F, σd, W, Qd, I, x, h, q⟩ := h
    refine t3_of (K := X.K) (mg := X.mg) (E := E) hp hp' ⟨b, F, σd, W, _, I, x, h, fun v H' F' r σd' I' g rr hr => ?_⟩
    split at hr
    · rename_i k
      cases rr
      exact ⟨k, rfl, q k H' F' σd' I' g hr⟩
    · exact hr.elim
end
end DL
end L2
set_option Elab.async false
set_option maxRecDepth 100000
set_option maxHeartbeats 1000000
/-! The data layer, part 3: the pure operations. -/
namespace L2
open PySem PySem.Spec PyProof.Rows
namespace DL

section
variable {K : PySem.W.Frag} {b : Bs} {F H : Hp} {σ : St} {σd : SD} {Qd : Rv → Prop} {Q : VK}
theorem Iv.fr1 (I : Iv K b F H σ σd) {p : Addr} (hp : H p = none) {xs : List V} {ds : List D} (r : DpAll K F xs ds) : Fr1 K b F (upd H p (.lst xs)) σ σd p (.list ds) := by
  refine ⟨?_, ?_, ⟨xs, upd_same, r⟩, fun i z => ?_, fun t ht z => ?_⟩
  · cases e : F p with
    | none => rfl
    | some o => rw [I.sub _ _ e] at hp; cases hp
  · cases e : b.H0 p with
    | none => rfl
    | some o => exact absurd hp (I.trk p (by rw [e]; exact fun z => by cases z))
  · obtain ⟨z1, d, z2⟩ := z
    rcases z2 with z2 | z2
    · obtain ⟨a, e, _, _, q⟩ := I.sl i _ _ z1 z2
      cases e
      obtain ⟨o, ho, _⟩ := q.some
      rw [hp] at ho; cases ho
    · obtain ⟨a, e, _, _, q⟩ := I.sl i _ _ z1 z2
      cases e
      obtain ⟨o, ho, _⟩ := q.some
      rw [hp] at ho; cases ho
  · have := (I.tmp t ht).1
    rw [z, hp] at this; cases this
/-- a new list -/
theorem Ends1.list (e : Ends1 K b F σ σd Qd Q) (I : Iv K b F H σ σd) {p : Addr} (hp : H p = none) {xs : List V} {ds : List D} (r : DpAll K F xs ds) (q : Qd (.f (.list ds))) : Q (.ref p) (upd H p (.lst xs)) :=
  e _ _ F (.f (.list ds)) (I.laid _ hp) (Grow.refl F) ⟨p, rfl, I.fr1 hp r⟩ q
/-- a new tuple -/
theorem Ends1.tup (e : Ends1 K b F σ σd Qd Q) (I : Iv K b F H σ σd) {p : Addr} (hp : H p = none) {xs : List V} {ds : List D} (r : DpAll K F xs ds) (q : Qd (.d (.tuple ds))) : Q (.ref p) (upd H p (.tup xs)) :=
  e _ _ (upd F p (.tup xs)) (.d (.tuple ds)) (I.alloc _ hp) (I.growq _ hp) (.tup (.inl (.inl upd_same)) (dpa_mono (I.growq _ hp) r)) q
theorem Ends1.same (e : Ends1 K b F σ σd Qd Q) (I : Iv K b F H σ σd) {v : V} {d : D} (r : Dp K F v d) (q : Qd (.d d)) : Q v H := e v H F (.d d) I (Grow.refl F) r q
end

/-! ### arithmetic -/
def pAdd : P2
  | .int i, .int j, Q => Q (.d (.int (i + j)))
  | .list a, .list c, Q => a.length + c.length ≤ sizeLine ∧ Q (.f (.list (a ++ c)))
  | .tuple a, .tuple c, Q => a.length + c.length ≤ sizeLine ∧ Q (.d (.tuple (a ++ c)))
  | .str a, .str c, Q => a.length + c.length ≤ sizeLine ∧ Q (.d (.str (a ++ c)))
  | _, _, _ => False
/-- list + list, of any lists that are read -/
def rCatL (K : PySem.W.Frag) : R2 := fun x y H Q => ∃ l b xs zs, x = .ref l ∧ y = .ref b ∧ SqL K H l xs ∧ SqL K H b zs ∧ xs.length + zs.length ≤ sizeLine ∧ ∀ p, H p = none → Q (.ref p) (upd H p (.lst (xs ++ zs)))
theorem op_catL {X : Cx} : OpR X (binaryOp .Add) (rCatL X.K) := by
  intro pins s σ H x y v u Q I rx ry h
  obtain ⟨l, b, xs, zs, rfl, rfl, hH, hB, hz, q⟩ := h
  cases rx
  cases ry
  obtain ⟨its, r, ⟨⟨cls, dd, data, sl⟩, n, e, c1, c2, c3⟩, z⟩ := I.list hH
  obtain ⟨its2, r2, ⟨⟨cls2, dd2, data2, sl2⟩, n2, e2, d1, d2, d3⟩, z2⟩ := I.list hB
  have hl := r.length
  have hl2 := r2.length
  simp only at c1 c2 c3 d1 d2 d3
  subst c1 c2 c3 d1 d2 d3
  have ea : its.toArray ++ its2.toArray = (its ++ its2).toArray := by simp
  refine concat_meets ⟨_, e, rfl⟩ ⟨_, e2, rfl⟩ noFill_list_add seq_list_add PySem.F.slot_list_add PySem.F.entry_list_add (PySem.F.args_list_add_2 _ _) (list_addW l b its.toArray its2.toArray n n2 none none sl sl2 (by simpa [← hl, ← hl2] using hz)) ⟨e, e2, ?_⟩
  rw [ea]
  exact ⟨.ref _, _, I.lnew (t' := s.toks) (r.append r2) (by rw [List.length_append]; omega), rfl, q _ I.fresh⟩
abbrev rAdd (K : PySem.W.Frag) : R2 := fun x y H Q => (rI0 fun i j => .int (i + j)) x y H Q ∨ (rCatL K x y H Q ∨ (rCatA K x y H Q ∨ ∃ i j, x = .str i ∧ y = .str j ∧ i.length + j.length ≤ sizeLine ∧ Q (.str (i ++ j)) H))
theorem op_addD {X : Cx} : OpR X (binaryOp .Add) (rAdd X.K) := op_add.or (op_catL.or (op_catA.or op_add_str))
theorem ok_add {K : PySem.W.Frag} : P2Ok K (rAdd K) pAdd := by
  intro b F H σ σd x y d e Q Qd I rx ry h q
  unfold pAdd at h
  split at h
  · rename_i i j
    rw [rx.int, ry.int]
    exact .inl ⟨i, j, rfl, rfl, q.same I (.int _) h⟩
  · obtain ⟨a, xs, rfl, h1, h2⟩ := rx.lst I.toExt
    obtain ⟨c, ys, rfl, h3, h4⟩ := ry.lst I.toExt
    refine .inr (.inl ⟨a, c, xs, ys, rfl, rfl, h1, h3, by rw [dpa_len h2, dpa_len h4]; exact h.1, fun p hp => q.list I hp (dpa_app h2 h4) h.2⟩)
  · obtain ⟨a, xs, rfl, h0, h1, h2⟩ := rx.tup I.toExt
    obtain ⟨c, ys, rfl, h5, h3, h4⟩ := ry.tup I.toExt
    refine .inr (.inr (.inl ⟨a, c, xs, ys, rfl, rfl, h1, h3, by rw [dpa_len h2, dpa_len h4]; exact h.1, fun e => ?_, fun _ e => ?_, fun _ _ p hp => q.tup I hp (dpa_app h2 h4) h.2⟩))
    · subst e
      cases h2
      exact q.same I (.tup h5 h4) h.2
    · subst e
      cases h4
      refine q.same I (.tup h0 h2) ?_
      have := h.2
      rwa [List.append_nil] at this
  · rename_i i j
    rw [rx.str, ry.str]
    exact .inr (.inr (.inr ⟨i, j, rfl, rfl, h.1, q.same I (.str _) h.2⟩))
  · exact h.elim
def pI (g : Int → Int → Int) : P2
  | .int i, .int j, Q => Q (.d (.int (g i j)))
  | _, _, _ => False
def pIC (C : Int → Int → Prop) (g : Int → Int → Int) : P2
  | .int i, .int j, Q => C i j ∧ Q (.d (.int (g i j)))
  | _, _, _ => False
theorem ok_i {K : PySem.W.Frag} {g : Int → Int → Int} : P2Ok K (rI0 fun i j => .int (g i j)) (pI g) := by
  intro b F H σ σd x y d e Q Qd I rx ry h q
  unfold pI at h
  split at h
  · rename_i i j
    rw [rx.int, ry.int]
    exact ⟨i, j, rfl, rfl, q.same I (.int _) h⟩
  · exact h.elim
theorem ok_ic {K : PySem.W.Frag} {C : Int → Int → Prop} {g : Int → Int → Int} : P2Ok K (rI C fun i j => .int (g i j)) (pIC C g) := by
  intro b F H σ σd x y d e Q Qd I rx ry h q
  unfold pIC at h
  split at h
  · rename_i i j
    rw [rx.int, ry.int]
    exact ⟨i, j, rfl, rfl, h.1, q.same I (.int _) h.2⟩
  · exact h.elim
abbrev pSub : P2 := pI fun i j => i - j
abbrev pMul : P2 := pIC IntMulOk fun i j => i * j
def CDivA (_ j : Int) : Prop := j ≠ 0 ∧ j.natAbs.log2 < 9000
abbrev pFdiv : P2 := pIC CDivA fun i j => i.fdiv j
abbrev pMod : P2 := pIC (fun _ j => j ≠ 0) fun i j => i.fmod j
abbrev pPow : P2 := pIC CPow fun i j => i ^ j.toNat
theorem op_mulA {X : Cx} : OpR X (binaryOp .Mult) (rI IntMulOk fun i j => .int (i * j)) := opI fun _ _ _ _ _ _ _ hc q => mul_int q hc
theorem op_fdivA {X : Cx} : OpR X (binaryOp .FloorDiv) (rI CDivA fun i j => .int (i.fdiv j)) := opI fun i j _ _ _ _ _ hc q => floordiv_int hc.1 q (.inl (PyProof.noPylong_of_log2 hc.2))
theorem mulOk_right {i j : Int} (h1 : -(2 ^ 64) < j) (h2 : j < 2 ^ 64) : IntMulOk i j := .of_right (intBits_le_64 h1 h2)
theorem mulOk_left {i j : Int} (h1 : -(2 ^ 64) < i) (h2 : i < 2 ^ 64) : IntMulOk i j := .of_left (intBits_le_64 h1 h2)
/-- list * int, tuple * int -/
def pNeg : P1
  | .int i, Q => Q (.d (.int (-i)))
  | _, _ => False
theorem ok_neg {K : PySem.W.Frag} : P1Ok K (rU fun i => .int (-i)) pNeg := by
  intro b F H σ σd x d Q Qd I rx h q
  unfold pNeg at h
  split at h
  · rename_i i
    rw [rx.int]
    exact ⟨i, rfl, q.same I (.int _) h⟩
  · exact h.elim

/-! ### comparisons -/
def pB (g : Int → Int → Bool) : P2
  | .int i, .int j, Q => Q (.d (.bool (g i j)))
  | _, _, _ => False
theorem ok_b {K : PySem.W.Frag} {g : Int → Int → Bool} : P2Ok K (rI0 fun i j => .bl (g i j)) (pB g) := by
  intro b F H σ σd x y d e Q Qd I rx ry h q
  unfold pB at h
  split at h
  · rename_i i j
    rw [rx.int, ry.int]
    exact ⟨i, j, rfl, rfl, q.same I (.bl _) h⟩
  · exact h.elim
abbrev pLt : P2 := pB fun i j => decide (i < j)
abbrev pLe : P2 := pB fun i j => decide (i ≤ j)
abbrev pGt : P2 := pB fun i j => decide (j < i)
abbrev pGe : P2 := pB fun i j => decide (j ≤ i)
def isDct : D → Bool
  | .dict _ => true
  | _ => false
theorem isDct_ne {d : D} (h : isDct d = false) : ∀ kvs, d ≠ .dict kvs := fun kvs e => by subst e; cases h
/-- what may be compared -/
def CmpOk (d e : D) : Prop := d.canLay0 = true ∧ e.canLay0 = true ∧ min d.depth e.depth ≤ 64
theorem lay_dct {d : D} (h : d.canLay0 = true) : ∀ kvs, d ≠ .dict kvs := fun kvs e => by
  subst e
  simp [PyData.canLay0] at h
def pEq : P2 := fun d e Q => CmpOk d e ∧ Q (.d (.bool (PyData.eqv d e)))
def pNe : P2 := fun d e Q => CmpOk d e ∧ Q (.d (.bool (!PyData.eqv d e)))
def rEqM (K : PySem.W.Frag) : R2 := fun x y H Q => ∃ d e, Dp K H x d ∧ Dp K H y e ∧ CmpOk d e ∧ Q (.bl (PyData.eqv d e)) H
def rNeM (K : PySem.W.Frag) : R2 := fun x y H Q => ∃ d e, Dp K H x d ∧ Dp K H y e ∧ CmpOk d e ∧ Q (.bl (!PyData.eqv d e)) H
theorem op_eqM {X : Cx} (hu : X.A.units + 64 < cLine) : OpR X (compareOp .Eq) (rEqM X.K) := by
  intro pins s σ H x y v u Q I rx ry h
  obtain ⟨d, e, hd, he, ⟨c1, c2, c3⟩, q⟩ := h
  obtain ⟨as, r1⟩ := Dp.reads I d x v hd rx
  obtain ⟨bs, r2⟩ := Dp.reads I e y u he ry
  exact SeqAt.compareEq_reads r1 r2 c1 c2 (by omega) ⟨.bl _, H, I, rfl, q⟩
theorem op_neM {X : Cx} (hu : X.A.units + 64 < cLine) : OpR X (compareOp .NotEq) (rNeM X.K) := by
  intro pins s σ H x y v u Q I rx ry h
  obtain ⟨d, e, hd, he, ⟨c1, c2, c3⟩, q⟩ := h
  obtain ⟨as, r1⟩ := Dp.reads I d x v hd rx
  obtain ⟨bs, r2⟩ := Dp.reads I e y u he ry
  exact SeqAt.compareNe_reads r1 r2 c1 c2 (by omega) ⟨.bl _, H, I, rfl, q⟩
theorem ok_eq {K : PySem.W.Frag} : P2Ok K (rEqM K) pEq := by
  intro b F H σ σd x y d e Q Qd I rx ry h q
  obtain ⟨hc, h⟩ := h
  exact ⟨d, e, rx.dp I.toExt (lay_dct hc.1), ry.dp I.toExt (lay_dct hc.2.1), hc, q.same I (.bl _) h⟩
theorem ok_ne {K : PySem.W.Frag} : P2Ok K (rNeM K) pNe := by
  intro b F H σ σd x y d e Q Qd I rx ry h q
  obtain ⟨hc, h⟩ := h
  exact ⟨d, e, rx.dp I.toExt (lay_dct hc.1), ry.dp I.toExt (lay_dct hc.2.1), hc, q.same I (.bl _) h⟩
/-- is None -/
def isN : D → Bool
  | .none => true
  | _ => false
def pIsN : P2 := fun d e Q => isDct d = false ∧ e = .none ∧ Q (.d (.bool (isN d)))
def pNotN : P2 := fun d e Q => isDct d = false ∧ e = .none ∧ Q (.d (.bool (!isN d)))
theorem dp_isN {K : PySem.W.Frag} {H : Hp} {v : V} {d : D} (r : Dp K H v d) : decide (v = .non) = isN d := by
  cases r <;> rfl
theorem ok_isN {K : PySem.W.Frag} : P2Ok K (fun x y H Q => y = .non ∧ Q (.bl (decide (x = .non))) H) pIsN := by
  intro b F H σ σd x y d e Q Qd I rx ry h q
  obtain ⟨hd, rfl, h⟩ := h
  rw [dp_isN (rx.dp I.toExt (isDct_ne hd))]
  exact ⟨ry.non, q.same I (.bl _) h⟩
theorem ok_notN {K : PySem.W.Frag} : P2Ok K (fun x y H Q => y = .non ∧ Q (.bl (!decide (x = .non))) H) pNotN := by
  intro b F H σ σd x y d e Q Qd I rx ry h q
  obtain ⟨hd, rfl, h⟩ := h
  rw [dp_isN (rx.dp I.toExt (isDct_ne hd))]
  exact ⟨ry.non, q.same I (.bl _) h⟩
/-- in, not in -/
def flatD : D → Bool
  | .none => true
  | .bool _ => true
  | .int _ => true
  | .str _ => true
  | _ => false
def eqF : D → D → Bool
  | .none, .none => true
  | .bool a, .bool b => a == b
  | .bool a, .int b => (if a then 1 else 0) == b
  | .int a, .bool b => a == (if b then 1 else 0)
  | .int a, .int b => a == b
  | .str a, .str b => a == b
  | _, _ => false
theorem flat_of {K : PySem.W.Frag} {H : Hp} {v : V} {d : D} (r : Dp K H v d) (h : flatD d = true) : flatV v = true := by
  cases r with
  | lst _ _ => cases h
  | tup _ _ => cases h
  | _ => rfl
theorem eqF_of {K : PySem.W.Frag} {H : Hp} {v w : V} {d e : D} (r : Dp K H v d) (s : Dp K H w e) (h : flatD d = true) (h' : flatD e = true) : eqV v w = eqF d e := by
  cases r with
  | lst _ _ => cases h
  | tup _ _ => cases h
  | _ => cases s with
    | lst _ _ => cases h'
    | tup _ _ => cases h'
    | _ => rfl
theorem flats_of {K : PySem.W.Frag} {H : Hp} : ∀ {vs : List V} {ds : List D}, DpAll K H vs ds → ds.all flatD = true → vs.all flatV = true
  | _, _, .nil, _ => rfl
  | _, _, .cons h t, e => by
    rw [List.all_cons, Bool.and_eq_true] at e ⊢
    exact ⟨flat_of h e.1, flats_of t e.2⟩
theorem any_of {K : PySem.W.Frag} {H : Hp} {x : V} {d : D} (r : Dp K H x d) (h : flatD d = true) : ∀ {vs : List V} {ds : List D}, DpAll K H vs ds → ds.all flatD = true → (vs.any fun y => eqV y x) = ds.any fun y => eqF y d
  | _, _, .nil, _ => rfl
  | _, _, .cons g t, e => by
    rw [List.all_cons, Bool.and_eq_true] at e
    rw [List.any_cons, List.any_cons, eqF_of g r e.1 h, any_of r h t e.2]
/-- the items of a list or tuple -/
def itemsD : D → Option (List D)
  | .list l => some l
  | .tuple l => some l
  | _ => none
/-- the keys of a dict that is told -/
def hasKey (kvs : List (D × D)) (k : D) : Bool := kvs.any fun p => eqF p.1 k
def pIn (neg : Bool) : P2 := fun d e Q => match itemsD e with
  | some l => flatD d = true ∧ l.all flatD = true ∧ Q (.d (.bool (if neg then !(l.any fun y => eqF y d) else l.any fun y => eqF y d)))
  | none => False
theorem ok_in {K : PySem.W.Frag} {neg : Bool} : P2Ok K (rIn K neg) (pIn neg) := by
  intro b F H σ σd x y d e Q Qd I rx ry h q
  unfold pIn at h
  split at h
  · rename_i l el
    obtain ⟨h1, h2, h⟩ := h
    have hx : Dp K H x d := rx.dp I.toExt (fun kvs z => by subst z; cases h1)
    cases e with
    | list l' =>
      cases el
      obtain ⟨a, xs, rfl, s1, s2⟩ := ry.lst I.toExt
      have hs := dpa_mono I.sub s2
      refine ⟨a, xs, rfl, .inl s1, flat_of hx h1, flats_of hs h2, ?_⟩
      unfold inV
      rw [any_of hx h1 hs h2]
      exact q.same I (.bl _) h
    | tuple l' =>
      cases el
      obtain ⟨a, xs, rfl, _, s1, s2⟩ := ry.tup I.toExt
      have hs := dpa_mono I.sub s2
      refine ⟨a, xs, rfl, .inr s1, flat_of hx h1, flats_of hs h2, ?_⟩
      unfold inV
      rw [any_of hx h1 hs h2]
      exact q.same I (.bl _) h
    | _ => cases el
  · exact h.elim

/-! ### subscripts -/
def pIx : P2
  | .list l, .int i, Q => ∃ d, atI l i = some d ∧ Q (.d d)
  | .tuple l, .int i, Q => ∃ d, atI l i = some d ∧ Q (.d d)
  | .str z, .int i, Q => z.length ≤ sizeLine ∧ ∃ c, atI z.cps.toList i = some c ∧ Q (.d (.str ⟨#[c]⟩))
  | _, _, _ => False
theorem atI_dp {K : PySem.W.Frag} {F : Hp} {vs : List V} {ds : List D} (r : DpAll K F vs ds) {i : Int} {d : D} (h : atI ds i = some d) : ∃ v, atI vs i = some v ∧ Dp K F v d := by
  unfold atI at h ⊢
  rw [dpa_len r]
  cases e : ixN ds.length i with
  | none => rw [e] at h; cases h
  | some j =>
    rw [e] at h
    exact dpa_get r h
theorem ok_ix {K : PySem.W.Frag} : P2Ok K (rIx K) pIx := by
  intro b F H σ σd x y d e Q Qd I rx ry h q
  unfold pIx at h
  split at h
  · obtain ⟨d, h1, h⟩ := h
    obtain ⟨a, xs, rfl, s1, s2⟩ := rx.lst I.toExt
    obtain ⟨v, h2, h3⟩ := atI_dp s2 h1
    rw [ry.int]
    exact .inl ⟨a, xs, _, v, rfl, rfl, s1, h2, q.same I h3 h⟩
  · obtain ⟨d, h1, h⟩ := h
    obtain ⟨a, xs, rfl, _, s1, s2⟩ := rx.tup I.toExt
    obtain ⟨v, h2, h3⟩ := atI_dp s2 h1
    rw [ry.int]
    exact .inr (.inl ⟨a, xs, _, v, rfl, rfl, s1, h2, q.same I h3 h⟩)
  · obtain ⟨hz, c, h1, h⟩ := h
    rw [rx.str, ry.int]
    exact .inr (.inr ⟨_, _, c, rfl, rfl, hz, h1, q.same I (.str _) h⟩)
  · exact h.elim

/-! ### built-in functions -/
theorem bvs_one {K : PySem.W.Frag} {F H : Hp} {xs : List V} {d : D} (h : BVs K F H xs [d]) : ∃ x, xs = [x] ∧ BV K F H x d := by
  cases h with
  | cons h t => cases t; exact ⟨_, rfl, h⟩
theorem bvs_two {K : PySem.W.Frag} {F H : Hp} {xs : List V} {d e : D} (h : BVs K F H xs [d, e]) : ∃ x y, xs = [x, y] ∧ BV K F H x d ∧ BV K F H y e := by
  cases h with
  | cons h t =>
    obtain ⟨y, rfl, hy⟩ := bvs_one t
    exact ⟨_, _, rfl, h, hy⟩
def pLen : PL
  | [.list l], Q => Q (.d (.int l.length))
  | [.tuple l], Q => Q (.d (.int l.length))
  | [.str z], Q => z.length ≤ sizeLine ∧ Q (.d (.int z.length))
  | _, _ => False
theorem ok_len {K : PySem.W.Frag} : PLOk K (fun xs H Q => ∃ x n, xs = [x] ∧ LenV K x H n ∧ Q (.int n) H) pLen := by
  intro b F H σ σd xs ds Q Qd I rx h q
  unfold pLen at h
  split at h
  · obtain ⟨x, hxs, rz⟩ := bvs_one rx
    subst hxs
    replace rx := rz
    obtain ⟨a, xs, rfl, s1, s2⟩ := rx.lst I.toExt
    refine ⟨_, xs.length, rfl, .inl ⟨xs, s1, rfl⟩, ?_⟩
    rw [dpa_len s2]
    exact q.same I (.int _) h
  · obtain ⟨x, hxs, rz⟩ := bvs_one rx
    subst hxs
    replace rx := rz
    obtain ⟨a, xs, rfl, _, s1, s2⟩ := rx.tup I.toExt
    refine ⟨_, xs.length, rfl, .inr ⟨xs, s1, rfl⟩, ?_⟩
    rw [dpa_len s2]
    exact q.same I (.int _) h
  · obtain ⟨x, hxs, rz⟩ := bvs_one rx
    subst hxs
    replace rx := rz
    rw [rx.str]
    exact ⟨_, _, rfl, ⟨h.1, rfl⟩, q.same I (.int _) h.2⟩
  · exact h.elim
def pAbs : PL
  | [.int i], Q => Q (.d (.int (if i < 0 then -i else i)))
  | _, _ => False
theorem ok_abs {K : PySem.W.Frag} : PLOk K (fun xs H Q => ∃ i, xs = [.int i] ∧ Q (.int (if i < 0 then -i else i)) H) pAbs := by
  intro b F H σ σd xs ds Q Qd I rx h q
  unfold pAbs at h
  split at h
  · obtain ⟨x, hxs, rz⟩ := bvs_one rx
    subst hxs
    replace rx := rz
    rw [rx.int]
    exact ⟨_, rfl, q.same I (.int _) h⟩
  · exact h.elim
def pInt : PL
  | [.int i], Q => Q (.d (.int i))
  | _, _ => False
theorem ok_int {K : PySem.W.Frag} : PLOk K (fun xs H Q => (∃ i, xs = [.int i] ∧ Q (.int i) H) ∨ ∃ k, xs = [.bl k] ∧ Q (.int (if k then 1 else 0)) H) pInt := by
  intro b F H σ σd xs ds Q Qd I rx h q
  unfold pInt at h
  split at h
  · obtain ⟨x, hxs, rz⟩ := bvs_one rx
    subst hxs
    replace rx := rz
    rw [rx.int]
    exact .inl ⟨_, rfl, q.same I (.int _) h⟩
  · exact h.elim
/-- list(x), tuple(x) -/
def pList : PL
  | [.list l], Q => Q (.f (.list l))
  | [.tuple l], Q => Q (.f (.list l))
  | _, _ => False
theorem ok_list {K : PySem.W.Frag} : PLOk K (fun xs H Q => ∃ p ys, xs = [.ref p] ∧ (SqL K H p ys ∨ SqT K H p ys) ∧ ∀ l, H l = none → Q (.ref l) (upd H l (.lst ys))) pList := by
  intro b F H σ σd xs ds Q Qd I rx h q
  unfold pList at h
  split at h
  · obtain ⟨x, hxs, rz⟩ := bvs_one rx
    subst hxs
    replace rx := rz
    obtain ⟨a, xs, rfl, s1, s2⟩ := rx.lst I.toExt
    exact ⟨a, xs, rfl, .inl s1, fun l hl => q.list I hl s2 h⟩
  · obtain ⟨x, hxs, rz⟩ := bvs_one rx
    subst hxs
    replace rx := rz
    obtain ⟨a, xs, rfl, _, s1, s2⟩ := rx.tup I.toExt
    exact ⟨a, xs, rfl, .inr s1, fun l hl => q.list I hl s2 h⟩
  · exact h.elim
def pTup : PL
  | [.list l], Q => Q (.d (.tuple l))
  | [.tuple l], Q => Q (.d (.tuple l))
  | _, _ => False
theorem ok_tup {K : PySem.W.Frag} : PLOk K (fun xs H Q => ∃ p ys, xs = [.ref p] ∧ ((SqL K H p ys ∧ ∀ l, H l = none → Q (.ref l) (upd H l (.tup ys))) ∨ (SqT K H p ys ∧ Q (.ref p) H))) pTup := by
  intro b F H σ σd xs ds Q Qd I rx h q
  unfold pTup at h
  split at h
  · obtain ⟨x, hxs, rz⟩ := bvs_one rx
    subst hxs
    replace rx := rz
    obtain ⟨a, xs, rfl, s1, s2⟩ := rx.lst I.toExt
    exact ⟨a, xs, rfl, .inl ⟨s1, fun l hl => q.tup I hl s2 h⟩⟩
  · obtain ⟨x, hxs, rz⟩ := bvs_one rx
    subst hxs
    replace rx := rz
    obtain ⟨a, xs, rfl, s0, s1, s2⟩ := rx.tup I.toExt
    exact ⟨a, xs, rfl, .inr ⟨s1, q.same I (.tup s0 s2) h⟩⟩
  · exact h.elim
/-! ints and bools in data -/
def intsD : List D → Option (List Int)
  | [] => some []
  | .int i :: r => (intsD r).map (i :: ·)
  | _ => none
def bolsD : List D → Option (List Bool)
  | [] => some []
  | .bool i :: r => (bolsD r).map (i :: ·)
  | _ => none
theorem intsD_map : ∀ ns : List Int, intsD (ns.map PyData.int) = some ns
  | [] => rfl
  | n :: ns => by rw [List.map_cons]; unfold intsD; rw [intsD_map ns]; rfl
theorem bolsD_map : ∀ ns : List Bool, bolsD (ns.map PyData.bool) = some ns
  | [] => rfl
  | n :: ns => by rw [List.map_cons]; unfold bolsD; rw [bolsD_map ns]; rfl
theorem intsD_eq : ∀ {ds : List D} {ns : List Int}, intsD ds = some ns → ds = ns.map PyData.int
  | [], ns, h => by cases h; rfl
  | .int i :: r, ns, h => by
    unfold intsD at h
    cases e : intsD r with
    | none => rw [e] at h; cases h
    | some ms =>
      rw [e] at h
      cases h
      rw [List.map_cons, intsD_eq e]
  | .none :: _, _, h => by cases h
  | .bool _ :: _, _, h => by cases h
  | .str _ :: _, _, h => by cases h
  | .list _ :: _, _, h => by cases h
  | .tuple _ :: _, _, h => by cases h
  | .dict _ :: _, _, h => by cases h
theorem bolsD_eq : ∀ {ds : List D} {ns : List Bool}, bolsD ds = some ns → ds = ns.map PyData.bool
  | [], ns, h => by cases h; rfl
  | .bool i :: r, ns, h => by
    unfold bolsD at h
    cases e : bolsD r with
    | none => rw [e] at h; cases h
    | some ms =>
      rw [e] at h
      cases h
      rw [List.map_cons, bolsD_eq e]
  | .none :: _, _, h => by cases h
  | .int _ :: _, _, h => by cases h
  | .str _ :: _, _, h => by cases h
  | .list _ :: _, _, h => by cases h
  | .tuple _ :: _, _, h => by cases h
  | .dict _ :: _, _, h => by cases h
theorem dpa_ints {K : PySem.W.Frag} {F : Hp} : ∀ {vs : List V} {ns : List Int}, DpAll K F vs (ns.map PyData.int) → vs = ns.map V.int
  | _, [], .nil => rfl
  | _, n :: ns, .cons h t => by cases h; rw [dpa_ints t]; rfl
theorem dpa_bols {K : PySem.W.Frag} {F : Hp} : ∀ {vs : List V} {ns : List Bool}, DpAll K F vs (ns.map PyData.bool) → vs = ns.map V.bl
  | _, [], .nil => rfl
  | _, n :: ns, .cons h t => by cases h; rw [dpa_bols t]; rfl
theorem ints_dpa {K : PySem.W.Frag} {F : Hp} : ∀ ns : List Int, DpAll K F (ns.map V.int) (ns.map PyData.int)
  | [] => .nil
  | n :: ns => .cons (.int n) (ints_dpa ns)
def pSum : PL
  | [.list l], Q => ∃ ns, intsD l = some ns ∧ Q (.d (.int ns.sum))
  | _, _ => False
def pAny : PL
  | [.list l], Q => ∃ ns, bolsD l = some ns ∧ Q (.d (.bool (ns.any id)))
  | _, _ => False
def pAll : PL
  | [.list l], Q => ∃ ns, bolsD l = some ns ∧ Q (.d (.bool (ns.all id)))
  | _, _ => False
theorem ok_sum {K : PySem.W.Frag} : PLOk K (rSum K) pSum := by
  intro b F H σ σd xs ds Q Qd I rx h q
  unfold pSum at h
  split at h
  · obtain ⟨ns, e, h⟩ := h
    obtain ⟨x, hxs, rz⟩ := bvs_one rx
    subst hxs
    replace rx := rz
    obtain ⟨a, xs, rfl, s1, s2⟩ := rx.lst I.toExt
    rw [intsD_eq e] at s2
    rw [dpa_ints s2] at s1
    exact ⟨a, ns, rfl, s1, q.same I (.int _) h⟩
  · exact h.elim
theorem ok_any {K : PySem.W.Frag} : PLOk K (rAny K) pAny := by
  intro b F H σ σd xs ds Q Qd I rx h q
  unfold pAny at h
  split at h
  · obtain ⟨ns, e, h⟩ := h
    obtain ⟨x, hxs, rz⟩ := bvs_one rx
    subst hxs
    replace rx := rz
    obtain ⟨a, xs, rfl, s1, s2⟩ := rx.lst I.toExt
    rw [bolsD_eq e] at s2
    rw [dpa_bols s2] at s1
    exact ⟨a, ns, rfl, s1, q.same I (.bl _) h⟩
  · exact h.elim
theorem ok_all {K : PySem.W.Frag} : PLOk K (rAll K) pAll := by
  intro b F H σ σd xs ds Q Qd I rx h q
  unfold pAll at h
  split at h
  · obtain ⟨ns, e, h⟩ := h
    obtain ⟨x, hxs, rz⟩ := bvs_one rx
    subst hxs
    replace rx := rz
    obtain ⟨a, xs, rfl, s1, s2⟩ := rx.lst I.toExt
    rw [bolsD_eq e] at s2
    rw [dpa_bols s2] at s1
    exact ⟨a, ns, rfl, s1, q.same I (.bl _) h⟩
  · exact h.elim
/-- max, min: of a list of ints; of two ints -/
def maxL : List Int → Int
  | [] => 0
  | [x] => x
  | x :: y :: r => max x (maxL (y :: r))
def minL : List Int → Int
  | [] => 0
  | [x] => x
  | x :: y :: r => min x (minL (y :: r))
theorem maxL_spec : ∀ (x : Int) (r : List Int), maxL (x :: r) ∈ x :: r ∧ ∀ y ∈ x :: r, y ≤ maxL (x :: r)
  | x, [] => by simp [maxL]
  | x, y :: r => by
    obtain ⟨h1, h2⟩ := maxL_spec y r
    show max x (maxL (y :: r)) ∈ x :: y :: r ∧ ∀ z ∈ x :: y :: r, z ≤ max x (maxL (y :: r))
    refine ⟨?_, fun z hz => ?_⟩
    · rcases Int.le_total x (maxL (y :: r)) with h | h
      · rw [Int.max_eq_right h]
        exact List.mem_cons_of_mem _ h1
      · rw [Int.max_eq_left h]
        exact List.mem_cons_self
    · rcases List.mem_cons.mp hz with rfl | hz
      · exact Int.le_max_left _ _
      · exact Int.le_trans (h2 z hz) (Int.le_max_right _ _)
theorem minL_spec : ∀ (x : Int) (r : List Int), minL (x :: r) ∈ x :: r ∧ ∀ y ∈ x :: r, minL (x :: r) ≤ y
  | x, [] => by simp [minL]
  | x, y :: r => by
    obtain ⟨h1, h2⟩ := minL_spec y r
    show min x (minL (y :: r)) ∈ x :: y :: r ∧ ∀ z ∈ x :: y :: r, min x (minL (y :: r)) ≤ z
    refine ⟨?_, fun z hz => ?_⟩
    · rcases Int.le_total x (minL (y :: r)) with h | h
      · rw [Int.min_eq_left h]
        exact List.mem_cons_self
      · rw [Int.min_eq_right h]
        exact List.mem_cons_of_mem _ h1
    · rcases List.mem_cons.mp hz with rfl | hz
      · exact Int.min_le_left _ _
      · exact Int.le_trans (Int.min_le_right _ _) (h2 z hz)
def pMax : PL
  | [.list l], Q => ∃ ns, intsD l = some ns ∧ ns ≠ [] ∧ Q (.d (.int (maxL ns)))
  | [.int i, .int j], Q => Q (.d (.int (if j > i then j else i)))
  | _, _ => False
def pMin : PL
  | [.list l], Q => ∃ ns, intsD l = some ns ∧ ns ≠ [] ∧ Q (.d (.int (minL ns)))
  | [.int i, .int j], Q => Q (.d (.int (if j < i then j else i)))
  | _, _ => False
abbrev rMaxA (K : PySem.W.Frag) : List V → Hp → VK → Prop := fun xs H Q => rMax K xs H Q ∨ ∃ i j, xs = [.int i, .int j] ∧ Q (.int (if j > i then j else i)) H
abbrev rMinA (K : PySem.W.Frag) : List V → Hp → VK → Prop := fun xs H Q => rMin K xs H Q ∨ ∃ i j, xs = [.int i, .int j] ∧ Q (.int (if j < i then j else i)) H
theorem cr_maxA {X : Cx} (hc : X.calm = true) : CallR X (.builtin "max") (rMaxA X.K) := (cr_max hc).or (call_max2 hc)
theorem cr_minA {X : Cx} (hc : X.calm = true) : CallR X (.builtin "min") (rMinA X.K) := (cr_min hc).or (call_min2 hc)
theorem ok_max {K : PySem.W.Frag} : PLOk K (rMaxA K) pMax := by
  intro b F H σ σd xs ds Q Qd I rx h q
  unfold pMax at h
  split at h
  · obtain ⟨ns, e, hne, h⟩ := h
    obtain ⟨x, hxs, rz⟩ := bvs_one rx
    subst hxs
    replace rx := rz
    obtain ⟨a, xs, rfl, s1, s2⟩ := rx.lst I.toExt
    rw [intsD_eq e] at s2
    rw [dpa_ints s2] at s1
    cases ns with
    | nil => exact absurd rfl hne
    | cons n r =>
      obtain ⟨m1, m2⟩ := maxL_spec n r
      refine .inl ⟨a, n :: r, rfl, s1, Nat.succ_pos _, fun m hm hy => ?_⟩
      rw [Int.le_antisymm (m2 m hm) (hy _ m1)]
      exact q.same I (.int _) h
  · obtain ⟨x, y, hxs, rz, ry⟩ := bvs_two rx
    subst hxs
    replace rx := rz
    rw [rx.int, ry.int]
    exact .inr ⟨_, _, rfl, q.same I (.int _) h⟩
  · exact h.elim
theorem ok_min {K : PySem.W.Frag} : PLOk K (rMinA K) pMin := by
  intro b F H σ σd xs ds Q Qd I rx h q
  unfold pMin at h
  split at h
  · obtain ⟨ns, e, hne, h⟩ := h
    obtain ⟨x, hxs, rz⟩ := bvs_one rx
    subst hxs
    replace rx := rz
    obtain ⟨a, xs, rfl, s1, s2⟩ := rx.lst I.toExt
    rw [intsD_eq e] at s2
    rw [dpa_ints s2] at s1
    cases ns with
    | nil => exact absurd rfl hne
    | cons n r =>
      obtain ⟨m1, m2⟩ := minL_spec n r
      refine .inl ⟨a, n :: r, rfl, s1, Nat.succ_pos _, fun m hm hy => ?_⟩
      rw [Int.le_antisymm (hy _ m1) (m2 m hm)]
      exact q.same I (.int _) h
  · obtain ⟨x, y, hxs, rz, ry⟩ := bvs_two rx
    subst hxs
    replace rx := rz
    rw [rx.int, ry.int]
    exact .inr ⟨_, _, rfl, q.same I (.int _) h⟩
  · exact h.elim

/-! ### isinstance(x, T) of a built-in class -/
def tyD : D → String
  | .none => "NoneType"
  | .bool _ => "bool"
  | .int _ => "int"
  | .str _ => "str"
  | .list _ => "list"
  | .tuple _ => "tuple"
  | .dict _ => "dict"
def isiB (t T : String) : Bool := t == T || (t == "bool" && T == "int")
theorem tyD_of {K : PySem.W.Frag} {F H : Hp} {v : V} {d : D} (g : Grow F H) (r : BV K F H v d) : TyX K H v (.type (tyD d)) := by
  rcases r with r | ⟨a, rfl, r⟩
  · cases r with
    | non => exact .base .non
    | bl x => exact .base (.bl x)
    | int i => exact .base (.int i)
    | str x => exact .base (.str x)
    | lst h _ =>
      rcases h with h | ⟨o, its, n, h, hc, _⟩
      · rcases g.rd h with h | ⟨o, h⟩
        · exact .base (.lst h)
        · exact .base (.frz h)
      · exact .kList h hc
    | tup h _ =>
      rcases h with h | ⟨o, its, n, h, hc, _⟩
      · rcases g.rd h with h | ⟨o, h⟩
        · exact .base (.tup h)
        · exact .fTuple h
      · exact .kTuple h hc
  · cases d with
    | list l =>
      obtain ⟨vs, h, _⟩ := r
      exact .base (.lst h)
    | dict l =>
      rcases r with ⟨vs, h, _⟩ | ⟨vs, _, _, h, _⟩
      · exact .base (.dK h)
      · exact .base (.dT h)
    | _ => exact r.elim
theorem kitB_all {a T : String} (ha : a = "NoneType" ∨ a = "bool" ∨ a = "int" ∨ a = "str" ∨ a = "list" ∨ a = "tuple" ∨ a = "dict") (h : T = "int" ∨ T = "bool" ∨ T = "str" ∨ T = "tuple" ∨ T = "list") : kitB a T = some (isiB a T) := by
  rcases ha with rfl | rfl | rfl | rfl | rfl | rfl | rfl <;> rcases h with rfl | rfl | rfl | rfl | rfl <;> decide +kernel
theorem isi_kit {K : PySem.W.Frag} (d : D) {T : String} (h : T = "int" ∨ T = "bool" ∨ T = "str" ∨ T = "tuple" ∨ T = "list") : PySem.W.kitOne K (.type (tyD d)) (.type T) = some (isiB (tyD d) T) :=
  kit_ty (kitB_all (by cases d <;> simp [tyD]) h)
end DL
end L2
set_option Elab.async false
set_option maxRecDepth 100000
set_option maxHeartbeats 1000000
/-! The data layer, part 4: displays, slices, several values, stores, statements. -/
namespace L2
open PySem PySem.Spec PyProof.Rows
namespace DL

section
variable {K : PySem.W.Frag} {mg : Str → Option Value} {E : XK} {b : Bs} {F F' H H' : Hp} {σ σ' : St} {σd σd' : SD} {X : XW}

/-! ### tuple and list displays -/
def avD : List AV → Option (List D)
  | [] => some []
  | .d x :: r => (avD r).map (x :: ·)
  | .b _ :: _ => none
theorem avs_dpa : ∀ {vs : List V} {xs : List AV} {ds : List D}, AVs K F σ vs xs → avD xs = some ds → DpAll K F vs ds
  | _, _, _, .nil, e => by cases e; exact .nil
  | _, .d x :: r, ds, .cons h t, e => by
    unfold avD at e
    cases q : avD r with
    | none => rw [q] at e; cases e
    | some es =>
      rw [q] at e
      cases e
      exact .cons h (avs_dpa t q)
  | _, .b _ :: _, _, .cons _ _, e => by cases e
def wTup (os : List Opd) : WE := fun X σd Q => wOs os X σd fun xs σ1 => ∃ ds, avD xs = some ds ∧ ds.length ≤ sizeLine ∧ Q (.d (.tuple ds)) σ1
def wLst (os : List Opd) : WE := fun X σd Q => wOs os X σd fun xs σ1 => ∃ ds, avD xs = some ds ∧ ds.length ≤ sizeLine ∧ Q (.f (.list ds)) σ1
theorem tTup_of {os : List Opd} {Q : VK} (h : tD K mg E (wTup os) σ H Q) : tTup (tOs K mg E os) σ H Q := by
  obtain ⟨b, F, σd, X, Qd, I, x, h, q⟩ := h
  refine tOs_run I x h fun vs H1 F1 avs σ1 I1 g1 r1 ⟨ds, e1, hz, h1⟩ => ?_
  have dp := avs_dpa r1 e1
  refine ⟨by rw [dpa_len dp]; exact hz, fun p hp => ?_⟩
  exact q _ _ (upd F1 p (.tup vs)) (.d (.tuple ds)) σ1 (I1.alloc _ hp) (g1.trans (I1.growq _ hp)) (.tup (.inl (.inl upd_same)) (dpa_mono (I1.growq _ hp) dp)) h1
theorem tLst_of {os : List Opd} {Q : VK} (h : tD K mg E (wLst os) σ H Q) : tLst (tOs K mg E os) σ H Q := by
  obtain ⟨b, F, σd, X, Qd, I, x, h, q⟩ := h
  refine tOs_run I x h fun vs H1 F1 avs σ1 I1 g1 r1 ⟨ds, e1, hz, h1⟩ => ?_
  have dp := avs_dpa r1 e1
  refine ⟨by rw [dpa_len dp]; exact hz, fun p hp => ?_⟩
  exact q _ _ F1 (.f (.list ds)) σ1 (I1.laid _ hp) g1 ⟨p, rfl, I1.fr1 hp dp⟩ h1

/-! ### slices -/
inductive SlB where
  | no
  | ex (o : Opd)
def cutA {α : Type} (xs : List α) (lo hi : Option Int) : List α := (xs.drop (HT.sIx xs.length 0 lo)).take (HT.sIx xs.length xs.length hi - HT.sIx xs.length 0 lo)
theorem cutV_dp {vs : List V} {ds : List D} (r : DpAll K F vs ds) (lo hi : Option Int) : DpAll K F (cutV vs lo hi) (cutA ds lo hi) := by
  unfold cutV cutA
  rw [dpa_len r]
  exact dpa_take _ (dpa_drop _ r)
def wSb : SlB → XW → SD → (Option Int → SD → Prop) → Prop
  | .no, _, σd, Q => Q none σd
  | .ex o, X, σd, Q => wO o X σd fun a σ1 => ∃ i, rs σ1 a = some (.int i) ∧ Q (some i) σ1
def pSl (lo hi : Option Int) : P1
  | .list l, Q => Q (.f (.list (cutA l lo hi)))
  | .tuple l, Q => Q (.d (.tuple (cutA l lo hi)))
  | _, _ => False
def wSl (o : Opd) (lo hi : SlB) : WE := fun X σd Q => wO o X σd fun x σ1 => wSb lo X σ1 fun i σ2 => wSb hi X σ2 fun j σ3 => ∃ d, rs σ3 x = some d ∧ pSl i j d fun r => Q r σ3
def tSb (K : PySem.W.Frag) (mg : Str → Option Value) (E : XK) : SlB → TO
  | .no => tNoPart
  | .ex o => tPart (tO K mg E o)
abbrev rSl (K : PySem.W.Frag) : V → Option Int → Option Int → Hp → VK → Prop := fun x lo hi H Q => rSlL K x lo hi H Q ∨ rSlA K x lo hi H Q

/-! ### several values, new ones among them -/
theorem Ext.withT {t : Addr × HO} : Ext { b with T := t :: b.T } F H ↔ Ext b F H := ⟨fun e => ⟨e.sub, e.old, e.keep, e.trk⟩, fun e => ⟨e.sub, e.old, e.keep, e.trk⟩⟩
theorem SlR.withT {t : Addr × HO} {o : Option V} : ∀ {s : Sl}, SlR K { b with T := t :: b.T } F H o s ↔ SlR K b F H o s
  | .un => Iff.rfl
  | .val _ => Iff.rfl
  | .own _ => Iff.rfl
  | .io _ => Iff.rfl
theorem Iv.dropT {t : Addr × HO} (I : Iv K { b with T := t :: b.T } F H σ σd) : Iv K b F H σ σd :=
  ⟨Ext.withT.mp I.toExt, I.len, fun i o s h1 h2 => SlR.withT.mp (I.sl i o s h1 h2), I.apart, I.par, fun p hp => I.tmp p (List.mem_cons_of_mem _ hp)⟩
theorem Iv.addT (I : Iv K b F H σ σd) {a : Addr} {o : HO} (h : H a = some o) (f : F a = none) (h0 : b.H0 a = none) (no : ∀ i, ¬ OA σ σd i a) : Iv K { b with T := (a, o) :: b.T } F H σ σd :=
  ⟨Ext.withT.mpr I.toExt, I.len, fun i o s h1 h2 => SlR.withT.mpr (I.sl i o s h1 h2), I.apart, I.par, fun p hp => by
    rcases List.mem_cons.mp hp with rfl | hp
    · exact ⟨h, f, h0, fun i c z e => no i (by rw [← show c = a from e]; exact z)⟩
    · exact I.tmp p hp⟩
theorem XOk.withT {t : Addr × HO} : XOk mg { b with T := t :: b.T } X E ↔ XOk mg b X E := ⟨fun h nm C F' H' x e z => h nm C F' H' x e (Ext.withT.mpr z), fun h nm C F' H' x e z => h nm C F' H' x e (Ext.withT.mp z)⟩

/-- several values; a new one stands apart from those behind it -/
def RvsR (K : PySem.W.Frag) (F H : Hp) (σ : St) (σd : SD) : Bs → List V → List Rv → Prop
  | _, [], [] => True
  | b, v :: vs, .d x :: rs => Dp K F v x ∧ RvsR K F H σ σd b vs rs
  | b, v :: vs, .f x :: rs => ∃ a o, v = .ref a ∧ Fr1 K b F H σ σd a x ∧ H a = some o ∧ RvsR K F H σ σd { b with T := (a, o) :: b.T } vs rs
  | _, _, _ => False
def wRs : List WE → XW → SD → (List Rv → SD → Prop) → Prop
  | [], _, σd, Q => Q [] σd
  | w :: ws, X, σd, Q => w X σd fun r σ1 => wRs ws X σ1 fun rs σ2 => Q (r :: rs) σ2
def tRs (K : PySem.W.Frag) (mg : Str → Option Value) (E : XK) : List WE → TA
  | [] => tNil
  | w :: ws => tCons (tD K mg E w) (tRs K mg E ws)
theorem tRs_run : ∀ {ws : List WE} {b : Bs} {F H : Hp} {σd : SD} {R : List Rv → SD → Prop} {Q : List V → Hp → Prop} (_ : Iv K b F H σ σd) (_ : XOk mg b X E) (_ : wRs ws X σd R)
    (_ : ∀ vs H' F' rs σd', Iv K b F' H' σ σd' → Grow F F' → RvsR K F' H' σ σd' b vs rs → R rs σd' → Q vs H'), tRs K mg E ws σ H Q
  | [], b, F, H, σd, R, Q, I, x, h, q => q [] H F [] σd I (Grow.refl F) trivial h
  | w :: ws, b, F, H, σd, R, Q, I, x, h, q => by
    refine ⟨b, F, σd, X, _, I, x, h, fun v H1 F1 r σ1 I1 g1 rr h1 => ?_⟩
    cases r with
    | d y => exact tRs_run I1 x h1 fun vs H2 F2 rs σ2 I2 g2 r2 h2 => q (v :: vs) H2 F2 (.d y :: rs) σ2 I2 (g1.trans g2) ⟨dp_mono g2 rr, r2⟩ h2
    | f y =>
      obtain ⟨a, rfl, f⟩ := rr
      obtain ⟨o, ho, _⟩ := f.at_.some
      have I1' := I1.addT ho f.fz f.h0 f.no
      refine tRs_run I1' (XOk.withT.mpr x) h1 fun vs H2 F2 rs σ2 I2 g2 r2 h2 => ?_
      obtain ⟨t1, t2, t3, t4⟩ := I2.tmp (a, o) List.mem_cons_self
      exact q (_ :: vs) H2 F2 (.f y :: rs) σ2 I2.dropT (g1.trans g2) ⟨a, o, rfl, ⟨t2, t3, f.at_.mono g2 (t1.trans ho.symm), fun i z => t4 i a z rfl, f.nt⟩, t1, r2⟩ h2

/-! ### a slot is set -/
def slOf : Rv → Sl
  | .d x => .val x
  | .f x => .own x
def noIo (σd : SD) (i : Nat) : Prop := match σd[i]? with
  | some (.io _) => False
  | none => False
  | _ => True
theorem OA.set {σ : St} {σd : SD} {i j : Nat} {a : Addr} {v : V} {s : Sl} (h : OA (σ.set i (some v)) (σd.set i s) j a) (hi : i < σ.length) (hd : i < σd.length) : (j = i ∧ v = .ref a ∧ ∃ d, s = .own d ∨ s = .io d) ∨ (j ≠ i ∧ OA σ σd j a) := by
  obtain ⟨h1, d, h2⟩ := h
  by_cases z : j = i
  · subst z
    rw [List.getElem?_set_self hi] at h1
    rw [List.getElem?_set_self hd] at h2
    refine .inl ⟨rfl, Option.some.inj (Option.some.inj h1), d, ?_⟩
    rcases h2 with h2 | h2
    · exact .inl (Option.some.inj h2)
    · exact .inr (Option.some.inj h2)
  · rw [List.getElem?_set_ne (Ne.symm z)] at h1 h2
    exact .inr ⟨z, h1, d, h2⟩
theorem Iv.asg (I : Iv K b F H σ σd) {i : Nat} {v : V} {r : Rv} (h : RvR K b F H σ σd v r) (n : noIo σd i) : Iv K b F H (σ.set i (some v)) (σd.set i (slOf r)) := by
  have hd : i < σd.length := by
    unfold noIo at n
    cases e : σd[i]? with
    | none => rw [e] at n; exact n.elim
    | some s => exact (List.getElem?_eq_some_iff.mp e).1
  have hi : i < σ.length := by rw [← I.len]; exact hd
  refine ⟨I.toExt, by rw [List.length_set, List.length_set]; exact I.len, fun j o s e1 e2 => ?_, fun j k c p q => ?_, fun p hp => ?_, fun p hp => ?_⟩
  · by_cases z : i = j
    · subst z
      rw [List.getElem?_set_self hi] at e1
      rw [List.getElem?_set_self hd] at e2
      cases e1
      cases e2
      cases r with
      | d x => exact ⟨v, rfl, h⟩
      | f x =>
        obtain ⟨a, rfl, f⟩ := h
        exact ⟨a, rfl, f.fz, f.h0, f.at_⟩
    · rw [List.getElem?_set_ne z] at e1 e2
      exact I.sl j o s e1 e2
  · rcases OA.set p hi hd with ⟨p1, p2, p3, p4⟩ | ⟨p1, p2⟩
    · rcases OA.set q hi hd with ⟨q1, q2, _⟩ | ⟨q1, q2⟩
      · rw [p1, q1]
      · cases r with
        | d x => rcases p4 with p4 | p4 <;> cases p4
        | f x =>
          obtain ⟨a, e, f⟩ := h
          rw [p2] at e
          cases e
          exact absurd q2 (f.no k)
    · rcases OA.set q hi hd with ⟨q1, q2, q3, q4⟩ | ⟨q1, q2⟩
      · cases r with
        | d x => rcases q4 with q4 | q4 <;> cases q4
        | f x =>
          obtain ⟨a, e, f⟩ := h
          rw [q2] at e
          cases e
          exact absurd p2 (f.no j)
      · exact I.apart j k c p2 q2
  · obtain ⟨p1, d, p2⟩ := I.par p hp
    have z : i ≠ p.1 := fun z => by
      unfold noIo at n
      rw [z, p2] at n
      exact n
    rw [List.getElem?_set_ne z, List.getElem?_set_ne z]
    exact ⟨p1, d, p2⟩
  · obtain ⟨t1, t2, t3, t4⟩ := I.tmp p hp
    refine ⟨t1, t2, t3, fun j c z => ?_⟩
    rcases OA.set z hi hd with ⟨p1, p2, p3, p4⟩ | ⟨_, p2⟩
    · cases r with
      | d x => rcases p4 with p4 | p4 <;> cases p4
      | f x =>
        obtain ⟨a, e, f⟩ := h
        rw [p2] at e
        cases e
        exact (f.nt p hp).symm
    · exact t4 j c p2
/-- what stands new behind a store -/
theorem Fr1.asg {i : Nat} {v : V} {r : Rv} {a : Addr} {x : D} (f : Fr1 K b F H σ σd a x) (hv : ∀ y c, r = .f y → v = .ref c → c ≠ a) (hi : i < σ.length) (hd : i < σd.length) : Fr1 K b F H (σ.set i (some v)) (σd.set i (slOf r)) a x := by
  refine ⟨f.fz, f.h0, f.at_, fun j z => ?_, f.nt⟩
  rcases OA.set z hi hd with ⟨p1, p2, p3, p4⟩ | ⟨_, p2⟩
  · cases r with
    | d x => rcases p4 with p4 | p4 <;> cases p4
    | f y => exact hv y a rfl p2 rfl
  · exact f.no j p2
theorem Fr1.dropT {t : Addr × HO} {a : Addr} {x : D} (f : Fr1 K { b with T := t :: b.T } F H σ σd a x) : Fr1 K b F H σ σd a x := ⟨f.fz, f.h0, f.at_, f.no, fun p hp => f.nt p (List.mem_cons_of_mem _ hp)⟩

/-! ### statements -/
structure EndsOk (K : PySem.W.Frag) (b : Bs) (F : Hp) (Dd : EndsD) (D : Ends) : Prop where
  nx : ∀ σ' F' H' σd', Iv K b F' H' σ' σd' → Grow F F' → Dd.nx σd' → D.nx σ' H'
  rt : ∀ v r σ' F' H' σd', Iv K b F' H' σ' σd' → RvR K b F' H' σ' σd' v r → Grow F F' → Dd.rt r σd' → D.rt v H'
  bk : ∀ σ' F' H' σd', Iv K b F' H' σ' σd' → Grow F F' → Dd.bk σd' → D.bk σ' H'
  ct : ∀ σ' F' H' σd', Iv K b F' H' σ' σd' → Grow F F' → Dd.ct σd' → D.ct σ' H'
theorem EndsOk.grow {Dd : EndsD} {D : Ends} (q : EndsOk K b F Dd D) (g : Grow F F') : EndsOk K b F' Dd D :=
  ⟨fun σ' F' H' σd' I' g' => q.nx σ' F' H' σd' I' (g.trans g'), fun v r σ' F' H' σd' I' rr g' => q.rt v r σ' F' H' σd' I' rr (g.trans g'), fun σ' F' H' σd' I' g' => q.bk σ' F' H' σd' I' (g.trans g'), fun σ' F' H' σd' I' g' => q.ct σ' F' H' σd' I' (g.trans g')⟩
def tDS (K : PySem.W.Frag) (mg : Str → Option Value) (E : XK) (w : WS) : TS := fun D σ H => ∃ b F σd X Dd, Iv K b F H σ σd ∧ XOk mg b X E ∧ w X Dd σd ∧ EndsOk K b F Dd D

def wNx : WS := fun _ D σd => D.nx σd
def wSeq (w u : WS) : WS := fun X D σd => w X { D with nx := fun σ1 => u X D σ1 } σd
def wEx (w : WE) : WS := fun X D σd => w X σd fun _ σ1 => D.nx σ1
def wRet (w : WE) : WS := fun X D σd => w X σd fun r σ1 => D.rt r σ1
def wRetN : WS := fun _ D σd => D.rt (.d .none) σd
def wIf (t : WT) (w u : WS) : WS := fun X D σd => t X σd fun k σ1 => if k = true then w X D σ1 else u X D σ1
def wBk : WS := fun _ D σd => D.bk σd
def wCt : WS := fun _ D σd => D.ct σd
def wsFalse : WS := fun _ _ _ => False
def wSet (i : Nat) (w : WE) : WS := fun X D σd => w X σd fun r σ1 => noIo σ1 i ∧ D.nx (σ1.set i (slOf r))
def wWhile (t : WT) (w : WS) : WS := fun X D σd => ∃ W : Nat → SD → Prop, (∃ m, W m σd) ∧ ∀ m σ1, W m σ1 → t X σ1 fun k σ2 => if k = true then w X { D with nx := fun s => ∃ m', m' < m ∧ W m' s, ct := fun s => ∃ m', m' < m ∧ W m' s, bk := D.nx } σ2 else D.nx σ2
end

abbrev DS (X : Cx) (E : XK) (st : Stmt) (w : WS) : Prop := PS X st (tDS X.K X.mg E w)
abbrev DSs (X : Cx) (E : XK) (sts : List Stmt) (w : WS) : Prop := PSs X sts (tDS X.K X.mg E w)
theorem _root_.L2.PS.imp {X : Cx} {st : Stmt} {t t' : TS} (h : PS X st t) (i : ∀ D σ H, t' D σ H → t D σ H) : PS X st t' := ⟨fun pins s σ H D I q => h.run pins s σ H D I (i _ _ _ q)⟩
theorem _root_.L2.PSs.imp {X : Cx} {st : List Stmt} {t t' : TS} (h : PSs X st t) (i : ∀ D σ H, t' D σ H → t D σ H) : PSs X st t' := ⟨fun pins s σ H D I q => h.run pins s σ H D I (i _ _ _ q)⟩

section
variable {X : Cx} {E : XK} {e a c : Expr} {pos : Pos} {st : Stmt} {sts : List Stmt}
theorem ds_false : DS X E st wsFalse := ⟨fun pins s σ H Q I h => by
  obtain ⟨_, _, _, _, _, _, _, z, _⟩ := h
  exact z.elim⟩
theorem dss_false : DSs X E sts wsFalse := ⟨fun pins s σ H Q I h => by
  obtain ⟨_, _, _, _, _, _, _, z, _⟩ := h
  exact z.elim⟩
theorem dss_nil : DSs X E [] wNx := pss_nil.imp fun D σ H ⟨b, F, σd, W, Dd, I, x, h, q⟩ => q.nx σ F H σd I (Grow.refl F) h
theorem dss_cons {w u : WS} (h1 : DS X E st w) (h2 : DSs X E sts u) : DSs X E (st :: sts) (wSeq w u) := (pss_cons h1 h2).imp fun D σ H ⟨b, F, σd, W, Dd, I, x, h, q⟩ =>
  ⟨b, F, σd, W, _, I, x, h, ⟨fun σ' F' H' σd' I' g h' => ⟨b, F', σd', W, Dd, I', x, h', q.grow g⟩, q.rt, q.bk, q.ct⟩⟩
theorem ds_pass : DS X E (.Pass pos) wNx := ps_pass.imp fun D σ H ⟨b, F, σd, W, Dd, I, x, h, q⟩ => q.nx σ F H σd I (Grow.refl F) h
theorem ds_break : DS X E (.Break pos) wBk := ps_break.imp fun D σ H ⟨b, F, σd, W, Dd, I, x, h, q⟩ => q.bk σ F H σd I (Grow.refl F) h
theorem ds_continue : DS X E (.Continue pos) wCt := ps_continue.imp fun D σ H ⟨b, F, σd, W, Dd, I, x, h, q⟩ => q.ct σ F H σd I (Grow.refl F) h
theorem ds_expr {w : WE} (he : DE X E e w) (hs : swapsWith e none pos.line X.env = pure false) : DS X E (.Expr e pos) (wEx w) :=
  (ps_expr he hs).imp fun D σ H ⟨b, F, σd, W, Dd, I, x, h, q⟩ => ⟨b, F, σd, W, _, I, x, h, fun v H' F' r σd' I' g rr hr => q.nx σ F' H' σd' I' g hr⟩
theorem ds_ret {w : WE} (he : DE X E e w) : DS X E (.Return (some e) pos) (wRet w) :=
  (ps_ret he).imp fun D σ H ⟨b, F, σd, W, Dd, I, x, h, q⟩ => ⟨b, F, σd, W, _, I, x, h, fun v H' F' r σd' I' g rr hr => q.rt v r σ F' H' σd' I' rr g hr⟩
theorem ds_retN : DS X E (.Return none pos) wRetN :=
  ps_retN.imp fun D σ H ⟨b, F, σd, W, Dd, I, x, h, q⟩ => q.rt .non (.d .none) σ F H σd I (Dp.non) (Grow.refl F) h
theorem ds_if {t : WT} {w u : WS} {sa sc : List Stmt} (ht : DT X E e t) (h1 : DSs X E sa w) (h2 : DSs X E sc u) : DS X E (.If e sa sc pos) (wIf t w u) :=
  (ps_if ht h1 h2).imp fun D σ H ⟨b, F, σd, W, Dd, I, x, h, q⟩ => ⟨b, F, σd, W, _, I, x, h, fun k H' F' σd' I' g hr => by
    cases k with
    | true => exact ⟨b, F', σd', W, Dd, I', x, hr, q.grow g⟩
    | false => exact ⟨b, F', σd', W, Dd, I', x, hr, q.grow g⟩⟩
theorem ds_set {i : Nat} {x : Str} {w : WE} {pos' : Pos} (hN : X.N.Nodup) (hi : X.N[i]? = some x) (hx : Loc X.env.scope x) (he : DE X E e w) (hs : swapsWith e (some (.Name x pos')) pos.line X.env = pure false) (hf : X.fn x = true ∨ X.env.scope.names.lookup x = some .local) :
    DS X E (.Assign [.Name x pos'] e pos) (wSet i w) :=
  (ps_set hN hi hx he hs hf).imp fun D σ H ⟨b, F, σd, W, Dd, I, x, h, q⟩ => ⟨b, F, σd, W, _, I, x, h, fun v H' F' r σd' I' g rr hr => q.nx _ F' H' _ (I'.asg rr hr.1) g hr.2⟩
theorem ds_while {t : WT} {w : WS} {body : List Stmt} (hp : PassesOwn (model X.prog X.w) X.A X.env X.xe) (ht : DT X E e t) (hb : DSs X E body w) : DS X E (.While e body [] pos) (wWhile t w) :=
  (ps_while hp ht hb).imp fun D σ H ⟨b, F, σd, W, Dd, I, x, h, q⟩ => by
    obtain ⟨Wd, ⟨m, w0⟩, turn⟩ := h
    refine ⟨fun m σ H => ∃ F1 σd, Iv X.K b F1 H σ σd ∧ Grow F F1 ∧ Wd m σd, ⟨m, F, σd, I, Grow.refl F, w0⟩, fun m σ1 H1 ⟨F1, σd1, I1, g1, w1⟩ => ?_⟩
    refine ⟨b, F1, σd1, W, _, I1, x, turn m σd1 w1, fun k H2 F2 σd2 I2 g2 h2 => ?_⟩
    cases k with
    | true =>
      rw [if_pos rfl] at h2 ⊢
      refine ⟨fun σ' H' => ∃ m', m' < m ∧ ∃ F1 σd, Iv X.K b F1 H' σ' σd ∧ Grow F F1 ∧ Wd m' σd, fun σ' H' z => z, b, F2, σd2, W, _, I2, x, h2, ⟨fun σ' F' H' σd' I' g' ⟨m', hm, w'⟩ => ⟨m', hm, F', σd', I', (g1.trans g2).trans g', w'⟩,
        fun v r σ' F' H' σd' I' rr g' => q.rt v r σ' F' H' σd' I' rr ((g1.trans g2).trans g'), fun σ' F' H' σd' I' g' => q.nx σ' F' H' σd' I' ((g1.trans g2).trans g'), fun σ' F' H' σd' I' g' ⟨m', hm, w'⟩ => ⟨m', hm, F', σd', I', (g1.trans g2).trans g', w'⟩⟩⟩
    | false =>
      rw [if_neg Bool.false_ne_true] at h2 ⊢
      exact q.nx σ1 F2 H2 σd2 I2 (g1.trans g2) h2
theorem de_tup {es : List Expr} {os : List Opd} {x1} (h : DA X E es os) : DE X E (.Tuple es x1 pos) (wTup os) := (pe_tup h).imp fun _ _ _ h => tTup_of h
theorem de_lst {es : List Expr} {os : List Opd} (h : DA X E es os) : DE X E (.List es pos) (wLst os) := (pe_lst h).imp fun _ _ _ h => tLst_of h
abbrev DB (X : Cx) (E : XK) (e : Option Expr) (s : SlB) : Prop := PO X e (tSb X.K X.mg E s)
theorem db_no : DB X E none .no := po_none
theorem db_ex {o : Opd} (h : DO X E e o) : DB X E (some e) (.ex o) := po_some h
theorem tSb_run {K : PySem.W.Frag} {mg : Str → Option Value} {b : Bs} {F H : Hp} {σ : St} {σd : SD} {W : XW} {s : SlB} {R : Option Int → SD → Prop} {Q : Option Int → Hp → Prop} (I : Iv K b F H σ σd) (x : XOk mg b W E) (h : wSb s W σd R)
    (q : ∀ i H' F' σ1, Iv K b F' H' σ σ1 → Grow F F' → R i σ1 → Q i H') : tSb K mg E s σ H Q := by
  cases s with
  | no => exact q none H F σd I (Grow.refl F) h
  | ex o =>
    refine tO_run I x h fun v H1 F1 av σ1 I1 g1 r1 ⟨i, e, h1⟩ => ?_
    rw [(I1.bv r1 e).int]
    exact ⟨i, rfl, q (some i) H1 F1 σ1 I1 g1 h1⟩
theorem ok_sl {K : PySem.W.Frag} {b : Bs} {F H : Hp} {σ : St} {σd : SD} {x : V} {d : D} {i j : Option Int} {Q : VK} {Qd : Rv → Prop} (I : Iv K b F H σ σd) (rx : BV K F H x d) (h : pSl i j d Qd) (q : Ends1 K b F σ σd Qd Q) : rSl K x i j H Q := by
  unfold pSl at h
  split at h
  · obtain ⟨a, xs, rfl, s1, s2⟩ := rx.lst I.toExt
    exact .inl ⟨a, xs, rfl, s1, fun p hp => q.list I hp (cutV_dp s2 i j) h⟩
  · obtain ⟨a, xs, rfl, s0, s1, s2⟩ := rx.tup I.toExt
    refine .inr ⟨a, xs, rfl, s1, fun ⟨e1, e2⟩ => ?_, fun _ p hp => q.tup I hp (cutV_dp s2 i j) h⟩
    have z : ∀ {α : Type} (l : List α), l.length = xs.length → cutA l i j = l := fun l hl => by
      unfold cutA
      rw [hl, e1, e2]
      simp [← hl]
    rw [z _ (dpa_len s2).symm] at h
    exact q.same I (.tup s0 s2) h
  · exact h.elim
theorem de_sl {o : Opd} {lo hi : Option Expr} {l u : SlB} {p2 : Pos} (he : DO X E e o) (hl : DB X E lo l) (hu : DB X E hi u) : DE X E (.Subscript e (.Slice lo hi none p2) pos) (wSl o l u) :=
  (pe_slice (SlR.or sl_list sl_tupA) he hl hu).imp fun σ H Q ⟨b, F, σd, W, Qd, I, x, h, q⟩ => by
    refine tO_run I x h fun v H1 F1 av σ1 I1 g1 r1 h1 => tSb_run I1 x h1 fun i H2 F2 σ2 I2 g2 h2 => tSb_run I2 x h2 fun j H3 F3 σ3 I3 g3 ⟨d, e3, h3⟩ => ?_
    exact ok_sl I3 (I3.bv ((r1.mono g2).mono g3) e3) h3 fun w H4 F4 r I4 g4 rv hq => q w H4 F4 r σ3 I4 (((g1.trans g2).trans g3).trans g4) rv hq
end
end DL
end L2
set_option Elab.async false
set_option maxRecDepth 100000
set_option maxHeartbeats 1000000
/-! The data layer, part 5: what is walked, targets, for, list comprehensions. -/
namespace L2
open PySem PySem.Spec PyProof.Rows
namespace DL

/-- what an iterator yields, told by frozen data -/
structure ItOk (K : PySem.W.Frag) (F0 : Hp) (J : It) (items : List D) : Prop where
  go : ∀ i F H, Grow F0 F → Grow F H → i < items.length → J.go i H
  yld : ∀ i F H x H' d, Grow F0 F → Grow F H → items[i]? = some d → J.yld i H x H' → (H' = H ∧ Dp K F x d) ∨ ∃ T xs ds, H T = none ∧ H' = upd H T (.tup xs) ∧ x = .ref T ∧ d = .tuple ds ∧ DpAll K F xs ds
  stop : ∀ F H, Grow F0 F → Grow F H → J.stop items.length H
abbrev WI := XW → SD → (List D → SD → Prop) → Prop
def tDI (K : PySem.W.Frag) (mg : Str → Option Value) (E : XK) (w : WI) : TI := fun σ H R => ∃ b F σd X Rd, Iv K b F H σ σd ∧ XOk mg b X E ∧ w X σd Rd ∧
  ∀ J items F' H' σd', Iv K b F' H' σ σd' → Grow F F' → ItOk K F' J items → Rd items σd' → R J H'
abbrev DI (X : Cx) (E : XK) (tg e : Expr) (w : WI) : Prop := PI X tg e (tDI X.K X.mg E w)
theorem _root_.L2.PI.imp {X : Cx} {tg e : Expr} {t t' : TI} (h : PI X tg e t) (i : ∀ σ H R, t' σ H R → t σ H R) : PI X tg e t' := ⟨fun pins s σ H R I q => h.run pins s σ H R I (i _ _ _ q)⟩

section
variable {K : PySem.W.Frag} {mg : Str → Option Value} {E : XK} {b : Bs} {F F' H H' : Hp} {σ σ' : St} {σd σd' : SD} {X : XW}
theorem itok_list {a : Addr} {xs : List V} {ds : List D} (h : SqL K F a xs) (r : DpAll K F xs ds) : ItOk K F (Itl K a) ds := by
  refine ⟨fun i F1 H g s hi => ?_, fun i F1 H x H' d g s e y => ?_, fun F1 H g s => ⟨xs, (g.trans s).sql h, by rw [dpa_len r]; exact Nat.le_refl _⟩⟩
  · rw [← dpa_len r] at hi
    exact ⟨xs, xs[i], (g.trans s).sql h, List.getElem?_eq_getElem hi⟩
  · obtain ⟨v, e1, e2⟩ := dpa_get r e
    obtain ⟨y1, y2⟩ := y
    have := y2 xs ((g.trans s).sql h)
    rw [e1] at this
    cases this
    exact .inl ⟨y1, dp_mono g e2⟩
theorem itok_tup {a : Addr} {xs : List V} {ds : List D} (h : SqT K F a xs) (r : DpAll K F xs ds) : ItOk K F (Itt K a) ds := by
  refine ⟨fun i F1 H g s hi => ?_, fun i F1 H x H' d g s e y => ?_, fun F1 H g s => ⟨xs, (g.trans s).sqt h, by rw [dpa_len r]; exact Nat.le_refl _⟩⟩
  · rw [← dpa_len r] at hi
    exact ⟨xs, xs[i], (g.trans s).sqt h, List.getElem?_eq_getElem hi⟩
  · obtain ⟨v, e1, e2⟩ := dpa_get r e
    obtain ⟨y1, y2⟩ := y
    have := y2 xs ((g.trans s).sqt h)
    rw [e1] at this
    cases this
    exact .inl ⟨y1, dp_mono g e2⟩
/-- lo, lo + 1, .. -/
def rangeD (lo : Int) (n : Nat) : List D := (List.range n).map fun i => .int (lo + (i : Nat))
theorem rangeD_len (lo : Int) (n : Nat) : (rangeD lo n).length = n := by unfold rangeD; rw [List.length_map, List.length_range]
theorem itok_range {lo : Int} {n : Nat} : ItOk K F (Itr lo n) (rangeD lo n) := by
  refine ⟨fun i F1 H g s hi => by rw [rangeD_len] at hi; exact hi, fun i F1 H x H' d g s e y => ?_, fun F1 H g s => by rw [rangeD_len]; exact Nat.le_refl _⟩
  obtain ⟨y1, y2⟩ := y
  unfold rangeD at e
  rw [List.getElem?_map] at e
  cases q : (List.range n)[i]? with
  | none => rw [q] at e; cases e
  | some j =>
    rw [q] at e
    cases e
    have hj : j = i := by
      have hi := (List.getElem?_eq_some_iff.mp q).1
      rw [List.getElem?_eq_getElem hi, List.getElem_range] at q
      exact (Option.some.inj q).symm
    subst hj
    subst y2
    exact .inl ⟨y1, .int _⟩
def enumD : Nat → List D → List D
  | _, [] => []
  | n, d :: r => .tuple [.int (n : Nat), d] :: enumD (n + 1) r
theorem enumD_len : ∀ (n : Nat) (ds : List D), (enumD n ds).length = ds.length
  | _, [] => rfl
  | n, d :: r => by
    show (enumD (n + 1) r).length + 1 = r.length + 1
    rw [enumD_len]
theorem enumD_get : ∀ (n : Nat) (ds : List D) (i : Nat), (enumD n ds)[i]? = (ds[i]?).map fun d => .tuple [.int ((n + i : Nat) : Int), d]
  | _, [], i => by simp [enumD]
  | n, d :: r, 0 => by simp [enumD]
  | n, d :: r, i + 1 => by
    show (enumD (n + 1) r)[i]? = _
    rw [enumD_get, Nat.add_assoc, Nat.add_comm 1 i]
    rfl
theorem itok_enum {a : Addr} {xs : List V} {ds : List D} (h : SqL K F a xs) (r : DpAll K F xs ds) : ItOk K F (Ite K a) (enumD 0 ds) := by
  refine ⟨fun i F1 H g s hi => ?_, fun i F1 H x H' d g s e y => ?_, fun F1 H g s => ⟨xs, (g.trans s).sql h, by rw [dpa_len r, enumD_len]; exact Nat.le_refl _⟩⟩
  · rw [enumD_len, ← dpa_len r] at hi
    exact ⟨xs, xs[i], (g.trans s).sql h, List.getElem?_eq_getElem hi⟩
  · rw [enumD_get] at e
    cases q : ds[i]? with
    | none => rw [q] at e; cases e
    | some d' =>
      rw [q] at e
      cases e
      obtain ⟨v, e1, e2⟩ := dpa_get r q
      obtain ⟨T, x', y1, y2, y3, y4⟩ := y
      have := y4 xs ((g.trans s).sql h)
      rw [e1] at this
      cases this
      refine .inr ⟨T, _, _, y2, y3, y1, rfl, ?_⟩
      rw [Nat.zero_add]
      exact .cons (.int _) (.cons (dp_mono g e2) .nil)
def zipD : List D → List D → List D
  | x :: xs, y :: ys => .tuple [x, y] :: zipD xs ys
  | _, _ => []
theorem zipD_len : ∀ (xs ys : List D), (zipD xs ys).length = min xs.length ys.length
  | [], ys => by simp [zipD]
  | x :: xs, [] => by simp [zipD]
  | x :: xs, y :: ys => by
    show (zipD xs ys).length + 1 = min (xs.length + 1) (ys.length + 1)
    rw [zipD_len]
    omega
theorem zipD_get : ∀ (xs ys : List D) (i : Nat) (d : D), (zipD xs ys)[i]? = some d → ∃ x y, xs[i]? = some x ∧ ys[i]? = some y ∧ d = .tuple [x, y]
  | [], ys, i, d, h => by simp [zipD] at h
  | x :: xs, [], i, d, h => by simp [zipD] at h
  | x :: xs, y :: ys, 0, d, h => by
    simp [zipD] at h
    exact ⟨x, y, rfl, rfl, h.symm⟩
  | x :: xs, y :: ys, i + 1, d, h => zipD_get xs ys i d (by simpa [zipD] using h)
theorem itok_zipL {a c : Addr} {xs ys : List V} {ds es : List D} (h : SqL K F a xs) (r : DpAll K F xs ds) (h2 : SqL K F c ys) (r2 : DpAll K F ys es) : ItOk K F (Itz K a c) (zipD ds es) := by
  refine ⟨fun i F1 H g s hi => ?_, fun i F1 H x H' d g s e y => ?_, fun F1 H g s => ⟨xs, ys, (g.trans s).sql h, (g.trans s).sql h2, by rw [dpa_len r, dpa_len r2, zipD_len]; omega⟩⟩
  · rw [zipD_len, ← dpa_len r, ← dpa_len r2] at hi
    exact ⟨xs, ys, xs[i]'(by omega), ys[i]'(by omega), (g.trans s).sql h, (g.trans s).sql h2, List.getElem?_eq_getElem (by omega), List.getElem?_eq_getElem (by omega)⟩
  · obtain ⟨x1, y1, e1, e2, rfl⟩ := zipD_get _ _ _ _ e
    obtain ⟨v, p1, p2⟩ := dpa_get r e1
    obtain ⟨u, q1, q2⟩ := dpa_get r2 e2
    obtain ⟨T, x', y', z1, z2, z3, z4, z5⟩ := y
    have := z4 xs ((g.trans s).sql h)
    rw [p1] at this
    cases this
    have := z5 ys ((g.trans s).sql h2)
    rw [q1] at this
    cases this
    exact .inr ⟨T, _, _, z2, z3, z1, rfl, .cons (dp_mono g p2) (.cons (dp_mono g q2) .nil)⟩
theorem itok_zipT {a c : Addr} {xs ys : List V} {ds es : List D} (h : SqT K F a xs) (r : DpAll K F xs ds) (h2 : SqT K F c ys) (r2 : DpAll K F ys es) : ItOk K F (RZ.ItzT K a c) (zipD ds es) := by
  refine ⟨fun i F1 H g s hi => ?_, fun i F1 H x H' d g s e y => ?_, fun F1 H g s => ⟨xs, ys, (g.trans s).sqt h, (g.trans s).sqt h2, by rw [dpa_len r, dpa_len r2, zipD_len]; omega⟩⟩
  · rw [zipD_len, ← dpa_len r, ← dpa_len r2] at hi
    exact ⟨xs, ys, xs[i]'(by omega), ys[i]'(by omega), (g.trans s).sqt h, (g.trans s).sqt h2, List.getElem?_eq_getElem (by omega), List.getElem?_eq_getElem (by omega)⟩
  · obtain ⟨x1, y1, e1, e2, rfl⟩ := zipD_get _ _ _ _ e
    obtain ⟨v, p1, p2⟩ := dpa_get r e1
    obtain ⟨u, q1, q2⟩ := dpa_get r2 e2
    obtain ⟨T, x', y', z1, z2, z3, z4, z5⟩ := y
    have := z4 xs ((g.trans s).sqt h)
    rw [p1] at this
    cases this
    have := z5 ys ((g.trans s).sqt h2)
    rw [q1] at this
    cases this
    exact .inr ⟨T, _, _, z2, z3, z1, rfl, .cons (dp_mono g p2) (.cons (dp_mono g q2) .nil)⟩

/-! the sources -/
def wiSeq (w : WE) : WI := fun X σd Q => w X σd (dz fun d σ1 => ∃ l, itemsD d = some l ∧ Q l σ1)
def wiRng1 (o : Opd) : WI := fun X σd Q => wO o X σd fun a σ1 => ∃ j, rs σ1 a = some (.int j) ∧ (-(2 ^ 62) ≤ j ∧ j < 2 ^ 62) ∧ Q (rangeD 0 j.toNat) σ1
def wiRng2 (o u : Opd) : WI := fun X σd Q => wO o X σd fun a σ1 => wO u X σ1 fun c σ2 => ∃ i j, rs σ2 a = some (.int i) ∧ rs σ2 c = some (.int j) ∧ (-(2 ^ 62) ≤ i ∧ i < 2 ^ 62 ∧ -(2 ^ 62) ≤ j ∧ j < 2 ^ 62) ∧ Q (rangeD i (j - i).toNat) σ2
def wiEnum (w : WE) : WI := fun X σd Q => w X σd (dz fun d σ1 => ∃ l, d = .list l ∧ Q (enumD 0 l) σ1)
def wiZip (w u : WE) : WI := fun X σd Q => w X σd (dz fun d σ1 => u X σ1 (dz fun e σ2 => match d, e with
  | .list l, .list m => Q (zipD l m) σ2
  | .tuple l, .tuple m => Q (zipD l m) σ2
  | _, _ => False))
def iSeq (K : PySem.W.Frag) (tl : TE) : TI := fun σ H R => tl σ H fun x H1 => ∃ a, x = .ref a ∧ (((∃ xs, SqL K H1 a xs) ∧ R (Itl K a) H1) ∨ ((∃ xs, SqT K H1 a xs) ∧ R (Itt K a) H1))
end

section
variable {X : Cx} {E : XK} {tg e : Expr} {pos : Pos}
theorem pi_seq {l : Expr} {tl : TE} (hl : PE X l tl) : PI X tg l (iSeq X.K tl) := by
  refine ⟨fun pins s σ H R I h => ?_⟩
  refine thn (hl.run pins s σ H _ I h) fun v s1 ⟨x, H1, I1, r1, q1⟩ => ?_
  obtain ⟨a, e, q⟩ := q1
  subst e
  cases r1
  rcases q with ⟨⟨xs, hq⟩, q⟩ | ⟨⟨xs, hq⟩, q⟩
  · obtain ⟨its, rv, p, hz⟩ := I1.list hq
    refine wpAny_pyIter_list p.isList ?_
    refine ⟨s1.heap.objs.size, [s1.heap.objs.size], _, _, H1, rfl, I1.kept (t' := s1.toks) fun b o e => Heap.get?_push_of_some _ e, turn_list a _, ⟨_, Heap.get?_push_size _ rfl, rfl, rfl⟩, fun b hb => ?_, q⟩
    have e : b = s1.heap.objs.size := by simpa using hb
    subst e
    exact I1.fpOk (Nat.le_refl _) (I1.hok.fresh (Nat.le_refl _))
  · obtain ⟨its, rv, p, hz⟩ := I1.tuple hq
    refine wpAny_pyIter_tuple (show s1.heap.IsTuple a its.toArray from p) ?_
    refine ⟨s1.heap.objs.size, [s1.heap.objs.size], _, _, H1, rfl, I1.kept (t' := s1.toks) fun b o e => Heap.get?_push_of_some _ e, turn_tuple a _, ⟨_, Heap.get?_push_size _ rfl, rfl, rfl⟩, fun b hb => ?_, q⟩
    have e : b = s1.heap.objs.size := by simpa using hb
    subst e
    exact I1.fpOk (Nat.le_refl _) (I1.hok.fresh (Nat.le_refl _))
theorem di_seq {w : WE} (h : DE X E e w) : DI X E tg e (wiSeq w) := (pi_seq h).imp fun σ H R ⟨b, F, σd, W, Rd, I, x, h, q⟩ => by
  refine tD_dz I x h fun v H1 F1 d σ1 I1 g1 r1 ⟨l, e1, h1⟩ => ?_
  cases d with
  | list l' =>
    cases e1
    cases r1 with
    | lst h2 h3 => exact ⟨_, rfl, .inl ⟨⟨_, Grow.sql I1.sub h2⟩, q _ _ F1 H1 σ1 I1 g1 (itok_list h2 h3) h1⟩⟩
  | tuple l' =>
    cases e1
    cases r1 with
    | tup h2 h3 => exact ⟨_, rfl, .inr ⟨⟨_, Grow.sqt I1.sub h2⟩, q _ _ F1 H1 σ1 I1 g1 (itok_tup h2 h3) h1⟩⟩
  | _ => cases e1
theorem di_rng1 {o : Opd} {a : Expr} {p : Pos} (hg : Gl X "range") (hm : X.mg "range" = none) (ha : DO X E a o) (hs : starEach [a] X.env = [(false, eval a X.env)]) : DI X E tg (.Call (.Name "range" p) [a] [] pos) (wiRng1 o) :=
  (pi_range1 hg hm (do_list_cons ha do_list_nil (by rw [hs]; rfl)) hs).imp fun σ H R ⟨b, F, σd, W, Rd, I, x, h, q⟩ => by
    refine tO_run I x h fun v H1 F1 av σ1 I1 g1 r1 ⟨j, e1, hj, h1⟩ => ?_
    rw [(I1.bv r1 e1).int]
    exact ⟨j, rfl, hj.1, hj.2, q _ _ F1 H1 σ1 I1 g1 itok_range h1⟩
theorem di_rng2 {o u : Opd} {a c : Expr} {p : Pos} (hg : Gl X "range") (hm : X.mg "range" = none) (ha : DO X E a o) (hc : DO X E c u) (hs : starEach [a, c] X.env = [(false, eval a X.env), (false, eval c X.env)]) (hs2 : starEach [c] X.env = [(false, eval c X.env)]) :
    DI X E tg (.Call (.Name "range" p) [a, c] [] pos) (wiRng2 o u) :=
  (pi_range2 hg hm (do_list_cons ha (do_list_cons hc do_list_nil (by rw [hs2]; rfl)) (by rw [hs, hs2])) hs hs2).imp fun σ H R ⟨b, F, σd, W, Rd, I, x, h, q⟩ => by
    refine tO_run I x h fun v H1 F1 av σ1 I1 g1 r1 h1 => tO_run I1 x h1 fun v2 H2 F2 av2 σ2 I2 g2 r2 ⟨i, j, e1, e2, hj, h2⟩ => ?_
    rw [(I2.bv (r1.mono g2) e1).int, (I2.bv r2 e2).int]
    exact ⟨i, j, rfl, hj, q _ _ F2 H2 σ2 I2 (g1.trans g2) itok_range h2⟩
theorem di_enum {w : WE} {a : Expr} {p tpos : Pos} {elts : List Expr} {kk : Nat} (hg : Gl X "enumerate") (hm : X.mg "enumerate" = none) (ha : DE X E a w) (hs : starEach [a] X.env = [(false, eval a X.env)]) :
    DI X E (.Tuple elts kk tpos) (.Call (.Name "enumerate" p) [a] [] pos) (wiEnum w) :=
  (pi_enum hg hm (pa_cons ha pa_nil (by rw [hs]; rfl)) hs).imp fun σ H R ⟨b, F, σd, W, Rd, I, x, h, q⟩ => by
    refine tD_dz I x h fun v H1 F1 d σ1 I1 g1 r1 ⟨l, e1, h1⟩ => ?_
    subst e1
    cases r1 with
    | lst h2 h3 => exact ⟨_, _, rfl, Grow.sql I1.sub h2, q _ _ F1 H1 σ1 I1 g1 (itok_enum h2 h3) h1⟩
theorem di_zip {w u : WE} {a c : Expr} {p tpos : Pos} {elts : List Expr} {kk : Nat} (hg : Gl X "zip") (hm : X.mg "zip" = none) (ha : DE X E a w) (hc : DE X E c u)
    (hs : starEach [a, c] X.env = (false, eval a X.env) :: starEach [c] X.env) (hs2 : starEach [c] X.env = (false, eval c X.env) :: starEach [] X.env) (hpl : (backTo pos (starEach [c] X.env)).any (·.1) = false) :
    DI X E (.Tuple elts kk tpos) (.Call (.Name "zip" p) [a, c] [] pos) (wiZip w u) :=
  (RZ.pi_zipA hg hm (pa_cons ha (pa_cons hc pa_nil hs2) hs) hs hpl).imp fun σ H R ⟨b, F, σd, W, Rd, I, x, h, q⟩ => by
    refine tD_dz I x h fun v H1 F1 d σ1 I1 g1 r1 h1 => tD_dz I1 x h1 fun v2 H2 F2 e σ2 I2 g2 r2 h2 => ?_
    split at h2
    · cases dp_mono g2 r1 with
      | lst p1 p2 =>
        cases r2 with
        | lst p3 p4 => exact ⟨_, _, _, _, rfl, .inl ⟨Grow.sql I2.sub p1, Grow.sql I2.sub p3, q _ _ F2 H2 σ2 I2 (g1.trans g2) (itok_zipL p1 p2 p3 p4) h2⟩⟩
    · cases dp_mono g2 r1 with
      | tup p1 p2 =>
        cases r2 with
        | tup p3 p4 => exact ⟨_, _, _, _, rfl, .inr ⟨Grow.sqt I2.sub p1, Grow.sqt I2.sub p3, q _ _ F2 H2 σ2 I2 (g1.trans g2) (itok_zipT p1 p2 p3 p4) h2⟩⟩
    · exact h2.elim
end

/-! ### targets -/
abbrev WG := D → SD → (SD → Prop) → Prop
abbrev WGs := List D → SD → (SD → Prop) → Prop
def tDG (K : PySem.W.Frag) (vs : List Nat) (g : WG) : TG := fun v σ H Q => ∃ b F σd d Qd, Iv K b F H σ σd ∧ Dp K F v d ∧ g d σd Qd ∧ ∀ σ' σd', Iv K b F H σ' σd' → wipe σ' vs = wipe σ vs → Qd σd' → Q σ' H
def tDGs (K : PySem.W.Frag) (vs : List Nat) (g : WGs) : TGs := fun xs σ H Q => ∃ b F σd ds Qd, Iv K b F H σ σd ∧ DpAll K F xs ds ∧ g ds σd Qd ∧ ∀ σ' σd', Iv K b F H σ' σd' → wipe σ' vs = wipe σ vs → Qd σd' → Q σ' H
abbrev DG (X : Cx) (vs : List Nat) (tg : Expr) (g : WG) : Prop := PG X tg (tDG X.K vs g)
abbrev DGs (X : Cx) (vs : List Nat) (tgs : List Expr) (g : WGs) : Prop := PGs X tgs (tDGs X.K vs g)
theorem _root_.L2.PG.imp {X : Cx} {tg : Expr} {t t' : TG} (h : PG X tg t) (i : ∀ v σ H Q, t' v σ H Q → t v σ H Q) : PG X tg t' := ⟨fun pins s σ H v u Q I r q => h.run pins s σ H v u Q I r (i _ _ _ _ q)⟩
theorem _root_.L2.PGs.imp {X : Cx} {tg : List Expr} {t t' : TGs} (h : PGs X tg t) (i : ∀ v σ H Q, t' v σ H Q → t v σ H Q) : PGs X tg t' := ⟨fun pins s σ H v u Q I r q => h.run pins s σ H v u Q I r (i _ _ _ _ q)⟩
def wgF : WG := fun _ _ _ => False
def wgN (i : Nat) : WG := fun d σd Q => noIo σd i ∧ Q (σd.set i (.val d))
def wgNil : WGs := fun ds σd Q => ds = [] ∧ Q σd
def wgCons (g : WG) (gs : WGs) : WGs := fun ds σd Q => match ds with
  | d :: r => g d σd fun σ1 => gs r σ1 Q
  | [] => False
def wgT (n : Nat) (gs : WGs) : WG := fun d σd Q => ∃ ds, d = .tuple ds ∧ ds.length = n ∧ gs ds σd Q
theorem wipe_set {σ : St} {i : Nat} {x : Option V} : ∀ {vs : List Nat}, i ∈ vs → wipe (σ.set i x) vs = wipe σ vs
  | [], h => by cases h
  | v :: vs, h => by
    show (wipe (σ.set i x) vs).set v none = (wipe σ vs).set v none
    by_cases hi : i ∈ vs
    · rw [wipe_set hi]
    · have hv : i = v := by
        rcases List.mem_cons.mp h with h | h
        · exact h
        · exact absurd h hi
      subst hv
      have comm : ∀ ws : List Nat, i ∉ ws → wipe (σ.set i x) ws = (wipe σ ws).set i x := by
        intro ws
        induction ws with
        | nil => intro _; rfl
        | cons w ws ih =>
          intro hw
          show (wipe (σ.set i x) ws).set w none = ((wipe σ ws).set w none).set i x
          rw [ih (fun z => hw (List.mem_cons_of_mem _ z)), List.set_comm _ _ (fun z => hw (by rw [z]; exact List.mem_cons_self))]
      rw [comm vs hi, List.set_set]
section
variable {X : Cx} {E : XK} {tg e : Expr} {pos : Pos} {vs : List Nat}
theorem dg_false : DG X vs tg wgF := ⟨fun pins s σ H v u Q I r h => by
  obtain ⟨_, _, _, _, _, _, _, z, _⟩ := h
  exact z.elim⟩
theorem dg_name {i : Nat} {x : Str} (hN : X.N.Nodup) (hi : X.N[i]? = some x) (hx : Loc X.env.scope x) (hf : X.fn x = true ∨ X.env.scope.names.lookup x = some .local) (hv : i ∈ vs) : DG X vs (.Name x pos) (wgN i) :=
  (pg_name hN hi hx hf).imp fun v σ H Q ⟨b, F, σd, d, Qd, I, r, h, q⟩ => q _ _ (I.asg (r := .d d) r h.1) (wipe_set hv) h.2
theorem dgs_nil : DGs X vs [] wgNil := pgs_nil.imp fun xs σ H Q ⟨b, F, σd, ds, Qd, I, r, h, q⟩ => by
  obtain ⟨e, h⟩ := h
  subst e
  cases r
  exact ⟨rfl, q _ _ I rfl h⟩
theorem dgs_cons {es : List Expr} {g : WG} {gs : WGs} (h1 : DG X vs e g) (h2 : DGs X vs es gs) (hs : (assignEach (e :: es) X.env).map (·.2) = assign e X.env :: (assignEach es X.env).map (·.2)) : DGs X vs (e :: es) (wgCons g gs) :=
  (pgs_cons h1 h2 hs).imp fun xs σ H Q ⟨b, F, σd, ds, Qd, I, r, h, q⟩ => by
    cases r with
    | nil => exact h.elim
    | cons r rr => exact ⟨_, _, rfl, b, F, σd, _, _, I, r, h, fun σ1 σd1 I1 w1 h1 => ⟨b, F, σd1, _, _, I1, rr, h1, fun σ2 σd2 I2 w2 h2 => q σ2 σd2 I2 (w2.trans w1) h2⟩⟩
theorem dg_tup {es : List Expr} {k n : Nat} {gs : WGs} (hc : X.calm = true) (h : DGs X vs es gs) (hn : (assignEach es X.env).length = n) (hst : (assignEach es X.env).findIdx? (·.1) = none) : DG X vs (.Tuple es k pos) (wgT n gs) :=
  (pg_tup hc h hn hst).imp fun v σ H Q ⟨b, F, σd, d, Qd, I, r, h, q⟩ => by
    obtain ⟨ds, rfl, hl, h⟩ := h
    cases r with
    | tup p1 p2 => exact ⟨_, _, rfl, Grow.sqt I.sub p1, by rw [dpa_len p2]; exact hl, b, F, σd, ds, Qd, I, p2, h, q⟩
end

/-! ### for -/
def forD (X : XW) (D' : EndsD) (g : WG) (w : WS) : List D → SD → Prop
  | [], σ => D'.nx σ
  | d :: ds, σ => g d σ fun σ1 => w X { D' with nx := forD X D' g w ds, ct := forD X D' g w ds, bk := D'.nx } σ1
def wFor (wi : WI) (g : WG) (w : WS) : WS := fun X D' σd => wi X σd fun items σ1 => forD X D' g w items σ1
section
variable {X : Cx} {E : XK} {tg e : Expr} {pos : Pos} {vs : List Nat}
theorem ds_for {wi : WI} {g : WG} {w : WS} {body : List Stmt} (hp : PassesOwn (model X.prog X.w) X.A X.env X.xe) (hc : X.calm = true) (hi : DI X E tg e wi) (hg : DG X vs tg g) (hb : DSs X E body w)
    (hs : ∀ x, foldedSetIterable e X.env x = pure x) : DS X E (.For tg e body [] pos) (wFor wi g w) :=
  (ps_for hp hc hi hg hb hs).imp fun D' σ H ⟨b, F, σd, W, Dd, I, x, h, q⟩ => by
    refine ⟨b, F, σd, W, _, I, x, h, fun J items F1 H1 σ1 I1 g1 ok h1 => ?_⟩
    refine ⟨fun i m σ' H' => ∃ F2 σ2, Iv X.K b F2 H' σ' σ2 ∧ Grow F1 F2 ∧ m = items.length - i ∧ i ≤ items.length ∧ forD W Dd g w (items.drop i) σ2, ⟨items.length, F1, σ1, I1, Grow.refl F1, rfl, Nat.zero_le _, h1⟩, ?_⟩
    rintro i m σ' H' ⟨F2, σ2, I2, g2, rfl, hi, h2⟩
    by_cases hlt : i < items.length
    · rw [List.drop_eq_getElem_cons hlt] at h2
      refine .inr ⟨ok.go i F2 H' g2 I2.sub hlt, fun σ' H' => ∃ F2 σ2, Iv X.K b F2 H' σ' σ2 ∧ Grow F1 F2 ∧ forD W Dd g w (items.drop (i + 1)) σ2, fun σ'' H'' ⟨F3, σ3, I3, g3, h3⟩ => ⟨items.length - (i + 1), by omega, F3, σ3, I3, g3, rfl, hlt, h3⟩, fun v H3 y => ?_⟩
      have fin : ∀ F3, Iv X.K b F3 H3 σ' σ2 → Grow F2 F3 → Dp X.K F3 v items[i] → tDG X.K vs g v σ' H3 fun σ4 H4 => tDS X.K X.mg E w { D' with nx := fun σ' H' => ∃ F2 σ2, Iv X.K b F2 H' σ' σ2 ∧ Grow F1 F2 ∧ forD W Dd g w (items.drop (i + 1)) σ2, ct := fun σ' H' => ∃ F2 σ2, Iv X.K b F2 H' σ' σ2 ∧ Grow F1 F2 ∧ forD W Dd g w (items.drop (i + 1)) σ2, bk := D'.nx } σ4 H4 :=
        fun F3 I3 g3 r3 => ⟨b, F3, σ2, _, _, I3, r3, h2, fun σ4 σd4 I4 _ h4 => ⟨b, F3, σd4, W, _, I4, x, h4, ⟨fun σ5 F5 H5 σd5 I5 g5 h5 => ⟨F5, σd5, I5, (g2.trans g3).trans g5, h5⟩,
          fun v r σ5 F5 H5 σd5 I5 rr g5 h5 => q.rt v r σ5 F5 H5 σd5 I5 rr (((g1.trans g2).trans g3).trans g5) h5, fun σ5 F5 H5 σd5 I5 g5 h5 => q.nx σ5 F5 H5 σd5 I5 (((g1.trans g2).trans g3).trans g5) h5, fun σ5 F5 H5 σd5 I5 g5 h5 => ⟨F5, σd5, I5, (g2.trans g3).trans g5, h5⟩⟩⟩⟩
      rcases ok.yld i F2 H' v H3 items[i] g2 I2.sub (List.getElem?_eq_getElem hlt) y with ⟨rfl, r⟩ | ⟨T, xs, ds, hT, rfl, rfl, ed, r⟩
      · exact fin F2 I2 (Grow.refl F2) r
      · refine fin _ (I2.alloc _ hT) (I2.growq _ hT) ?_
        rw [ed]
        exact .tup (.inl (.inl upd_same)) (dpa_mono (I2.growq _ hT) r)
    · have e : i = items.length := by omega
      subst e
      rw [List.drop_length] at h2
      exact .inl ⟨ok.stop F2 H' g2 I2.sub, q.nx σ' F2 H' σ2 I2 (g1.trans g2) h2⟩
end

/-! ### list comprehensions -/
def wipeD (σd : SD) : List Nat → SD
  | [] => σd
  | v :: vs => (wipeD σd vs).set v .un
def restD (σ1 : SD) : List Nat → SD → SD
  | [], σ => σ
  | v :: vs, σ => match σ1[v]? with
    | some (.val d) => (restD σ1 vs σ).set v (.val d)
    | _ => restD σ1 vs σ
def lcD (X : XW) (vs : List Nat) (g : WG) (t : WT) (w : WE) (Q : List D → SD → Prop) : List D → List D → SD → Prop
  | [], acc, σ => Q acc σ
  | d :: ds, acc, σ => g d σ fun σ1 => t X σ1 fun k σ2 => if k = true then w X σ2 (dz fun y σ3 => acc.length < sizeLine ∧ lcD X vs g t w Q ds (acc ++ [y]) (wipeD σ3 vs)) else lcD X vs g t w Q ds acc (wipeD σ2 vs)
def noX : XW := fun _ => False
def wLc (wi : WI) (vs : List Nat) (g : WG) (t : WT) (w : WE) : WE := fun X σd Q => wi X σd fun items σ1 => (∀ v ∈ vs, noIo σ1 v) ∧
  lcD noX vs g t w (fun acc σ => Q (.f (.list acc)) (restD σ1 vs σ)) items [] (wipeD σ1 vs)

section
variable {K : PySem.W.Frag} {mg : Str → Option Value} {E : XK} {b : Bs} {F F' H H' : Hp} {σ σ' : St} {σd σd' : SD} {X : XW}
theorem OA.of_set2 {σ : St} {σd : SD} {i j : Nat} {a : Addr} {o : Option V} (h : OA (σ.set i o) (σd.set i .un) j a) : OA σ σd j a := by
  obtain ⟨h1, d, h2⟩ := h
  by_cases z : i = j
  · subst z
    by_cases hi : i < σd.length
    · rw [List.getElem?_set_self hi] at h2
      rcases h2 with h2 | h2 <;> cases h2
    · rw [List.getElem?_eq_none (by rw [List.length_set]; omega)] at h2
      rcases h2 with h2 | h2 <;> cases h2
  · rw [List.getElem?_set_ne z] at h1 h2
    exact ⟨h1, d, h2⟩
/-- a slot that is no parameter's is forgotten, whatever stands in it -/
theorem Iv.forget (I : Iv K b F H σ σd) {i : Nat} (o : Option V) (n : ∀ p ∈ b.ps, p.1 ≠ i) : Iv K b F H (σ.set i o) (σd.set i .un) := by
  refine ⟨I.toExt, by rw [List.length_set, List.length_set]; exact I.len, fun j o s e1 e2 => ?_, fun j k c p q => I.apart j k c (OA.of_set2 p) (OA.of_set2 q), fun p hp => ?_, fun p hp => ?_⟩
  · by_cases z : i = j
    · subst z
      by_cases hi : i < σd.length
      · rw [List.getElem?_set_self hi] at e2
        cases e2
        trivial
      · rw [List.getElem?_eq_none (by rw [List.length_set]; omega)] at e2
        cases e2
    · rw [List.getElem?_set_ne z] at e1 e2
      exact I.sl j o s e1 e2
  · obtain ⟨p1, d, p2⟩ := I.par p hp
    have z : i ≠ p.1 := fun z => n p hp z.symm
    rw [List.getElem?_set_ne z, List.getElem?_set_ne z]
    exact ⟨p1, d, p2⟩
  · obtain ⟨t1, t2, t3, t4⟩ := I.tmp p hp
    exact ⟨t1, t2, t3, fun j c z => t4 j c (OA.of_set2 z)⟩
theorem Iv.wipes (I : Iv K b F H σ σd) : ∀ {vs : List Nat}, (∀ v ∈ vs, ∀ p ∈ b.ps, p.1 ≠ v) → Iv K b F H (wipe σ vs) (wipeD σd vs)
  | [], _ => I
  | v :: vs, h => (I.wipes fun w hw => h w (List.mem_cons_of_mem _ hw)).forget none (h v List.mem_cons_self)
theorem wipeD_len (σd : SD) : ∀ vs, (wipeD σd vs).length = σd.length
  | [] => rfl
  | v :: vs => by show ((wipeD σd vs).set v .un).length = _; rw [List.length_set, wipeD_len]
theorem wipeD_un (σd : SD) : ∀ {vs : List Nat} {v : Nat} {s : Sl}, v ∈ vs → (wipeD σd vs)[v]? = some s → s = .un
  | [], _, _, h, _ => by cases h
  | w :: vs, v, s, h, e => by
    have e : ((wipeD σd vs).set w .un)[v]? = some s := e
    by_cases z : w = v
    · subst z
      by_cases hi : w < (wipeD σd vs).length
      · rw [List.getElem?_set_self hi] at e
        exact (Option.some.inj e).symm
      · rw [List.getElem?_eq_none (by rw [List.length_set]; omega)] at e
        cases e
    · rw [List.getElem?_set_ne z] at e
      rcases List.mem_cons.mp h with h | h
      · exact absurd h.symm z
      · exact wipeD_un σd h e
theorem wipe_at (σ : St) {vs : List Nat} {j : Nat} (h : j ∉ vs) : (wipe σ vs)[j]? = σ[j]? := wipe_out h
/-- back with the slots that were hidden; nothing is known of them -/
theorem Iv.unwipe {vs : List Nat} (I : Iv K b F H (wipe σ vs) σd) (n : ∀ v ∈ vs, ∀ p ∈ b.ps, p.1 ≠ v) (hu : ∀ v ∈ vs, ∀ s, σd[v]? = some s → s = .un) : Iv K b F H σ σd := by
  have oa : ∀ {j c}, OA σ σd j c → OA (wipe σ vs) σd j c := fun {j c} ⟨h1, d, h2⟩ => by
    refine ⟨?_, d, h2⟩
    rw [wipe_at]
    · exact h1
    · intro hj
      rcases h2 with h2 | h2
      · cases hu j hj _ h2
      · cases hu j hj _ h2
  refine ⟨I.toExt, by rw [I.len, wipe_length], fun j o s e1 e2 => ?_, fun j k c p q => I.apart j k c (oa p) (oa q), fun p hp => ?_, fun p hp => ?_⟩
  · by_cases hj : j ∈ vs
    · rw [hu j hj _ e2]
      trivial
    · exact I.sl j o s (by rw [wipe_at σ hj]; exact e1) e2
  · obtain ⟨p1, d, p2⟩ := I.par p hp
    have hj : p.1 ∉ vs := fun z => n _ z p hp rfl
    rw [wipe_at σ hj] at p1
    exact ⟨p1, d, p2⟩
  · obtain ⟨t1, t2, t3, t4⟩ := I.tmp p hp
    exact ⟨t1, t2, t3, fun j c z => t4 j c (oa z)⟩
theorem restD_at (σ1 : SD) : ∀ {vs : List Nat} {σ2 : SD} {v : Nat}, v ∉ vs → (restD σ1 vs σ2)[v]? = σ2[v]?
  | [], _, _, _ => rfl
  | w :: vs, σ2, v, h => by
    have h1 : w ≠ v := fun z => h (by rw [z]; exact List.mem_cons_self)
    have h2 : v ∉ vs := fun z => h (List.mem_cons_of_mem _ z)
    unfold restD
    split
    · rw [List.getElem?_set_ne h1, restD_at σ1 h2]
    · exact restD_at σ1 h2
/-- a slot of which nothing is known gets the data that stand in it -/
theorem Iv.learn (I : Iv K b F H σ σd) {i : Nat} {v : V} {d : D} (h : σ[i]? = some (some v)) (r : Dp K F v d) (e : ∀ s, σd[i]? = some s → s = .un ∨ s = .val d) : Iv K b F H σ (σd.set i (.val d)) := by
  have hi : i < σd.length := by rw [I.len]; exact (List.getElem?_eq_some_iff.mp h).1
  rcases e _ (List.getElem?_eq_getElem hi) with z | z
  · exact I.setv h r (by rw [List.getElem?_eq_getElem hi, z])
  · have : σd.set i (.val d) = σd := by
      apply List.ext_getElem?
      intro j
      by_cases q : i = j
      · subst q
        rw [List.getElem?_set_self hi, List.getElem?_eq_getElem hi, z]
      · rw [List.getElem?_set_ne q]
    rw [this]
    exact I
theorem Iv.rest {σ1 : SD} {F1 H1 : Hp} (I1 : Iv K b F1 H1 σ σ1) (g : Grow F1 F) : ∀ {vs : List Nat}, Iv K b F H σ σd → (∀ v ∈ vs, ∀ s, σd[v]? = some s → s = .un) → Iv K b F H σ (restD σ1 vs σd) ∧ ∀ v ∈ vs, ∀ s, (restD σ1 vs σd)[v]? = some s → s = .un ∨ (some s = σ1[v]? ∧ ∃ d, s = .val d)
  | [], I, _ => ⟨I, fun v hv => by cases hv⟩
  | w :: vs, I, hu => by
    obtain ⟨J, ju⟩ := Iv.rest I1 g (vs := vs) I fun v hv => hu v (List.mem_cons_of_mem _ hv)
    have old : ∀ s, (restD σ1 vs σd)[w]? = some s → s = .un ∨ (some s = σ1[w]? ∧ ∃ d, s = .val d) := fun s e => by
      by_cases hw : w ∈ vs
      · exact ju w hw s e
      · rw [restD_at σ1 hw] at e
        exact .inl (hu w List.mem_cons_self s e)
    unfold restD
    cases q : σ1[w]? with
    | none =>
      simp only
      refine ⟨J, fun v hv s e => ?_⟩
      rcases List.mem_cons.mp hv with rfl | hv
      · exact old s e
      · exact ju v hv s e
    | some t =>
      cases t with
      | val d =>
        simp only
        obtain ⟨x, hx, r⟩ := I1.val q
        refine ⟨J.learn hx (dp_mono g r) fun s e => ?_, fun v hv s e => ?_⟩
        · rcases old s e with z | ⟨z, _⟩
          · exact .inl z
          · rw [q] at z
            exact .inr (Option.some.inj z)
        · by_cases z : w = v
          · subst z
            by_cases hi : w < (restD σ1 vs σd).length
            · rw [List.getElem?_set_self hi] at e
              cases e
              exact .inr ⟨q.symm, d, rfl⟩
            · rw [List.getElem?_eq_none (by rw [List.length_set]; omega)] at e
              cases e
          · rw [List.getElem?_set_ne z] at e
            rcases List.mem_cons.mp hv with hv | hv
            · exact absurd hv.symm z
            · exact ju v hv s e
      | _ =>
        simp only
        refine ⟨J, fun v hv s e => ?_⟩
        rcases List.mem_cons.mp hv with rfl | hv
        · exact old s e
        · exact ju v hv s e
/-- what stands meanwhile is changed -/
theorem Iv.setT {a : Addr} {o o' : HO} (I : Iv K { b with T := (a, o) :: b.T } F H σ σd) (nt : ∀ p ∈ b.T, p.1 ≠ a) : Iv K { b with T := (a, o') :: b.T } F (upd H a o') σ σd := by
  obtain ⟨h1, h2, h3, h4⟩ := I.tmp (a, o) List.mem_cons_self
  have I0 : Iv K b F H σ σd := I.dropT
  have nz : ∀ c u, c ≠ a → H c = some u → upd H a o' c = some u := fun c u hc e => by rw [upd_ne hc]; exact e
  refine ⟨⟨fun c u e => ?_, I0.old, fun c u e hc => ?_, fun c hc => ?_⟩, I0.len, fun i u s e1 e2 => ?_, I0.apart, I0.par, fun p hp => ?_⟩
  · exact nz c u (fun z => by rw [z, h2] at e; cases e) (I0.sub _ _ e)
  · have h3 : b.H0 a = none := h3
    exact nz c u (fun z => by rw [z, h3] at e; cases e) (I0.keep c u e hc)
  · have h3 : b.H0 a = none := h3
    rw [upd_ne (fun z => hc (by rw [z]; exact h3))]
    exact I0.trk c hc
  · have r := I0.sl i u s e1 e2
    cases s with
    | un => trivial
    | val d => exact r
    | own d =>
      obtain ⟨c, e, f, h0, r⟩ := r
      subst e
      exact ⟨c, rfl, f, h0, r.mono (Grow.refl F) (upd_ne (h4 i c ⟨e1, d, .inl e2⟩))⟩
    | io d =>
      obtain ⟨c, e, f, h0, r⟩ := r
      subst e
      exact ⟨c, rfl, f, h0, r.mono (Grow.refl F) (upd_ne (h4 i c ⟨e1, d, .inr e2⟩))⟩
  · rcases List.mem_cons.mp hp with rfl | hp
    · exact ⟨upd_same, h2, h3, h4⟩
    · obtain ⟨t1, t2, t3, t4⟩ := I0.tmp p hp
      exact ⟨nz _ _ (nt p hp) t1, t2, t3, t4⟩
end

section
variable {X : Cx} {E : XK} {tg e : Expr} {pos : Pos} {vs : List Nat}
def EF : XK := fun _ _ _ => False
theorem xok_no {mg : Str → Option Value} {b : Bs} : XOk mg b noX EF := fun _ _ _ _ h => h.elim
theorem lc_ok {K : PySem.W.Frag} {mg : Str → Option Value} {wi : WI} {g : WG} {t : WT} {w : WE} {σ : St} {H : Hp} {Q : VK} (h : tD K mg E (wLc wi vs g t w) σ H Q) : tLc (tDI K mg E wi) (tDG K vs g) (tDT K mg EF t) (tD K mg EF w) vs σ H Q := by
  obtain ⟨b, F, σd, W, Qd, I, x, h, q⟩ := h
  refine ⟨b, F, σd, W, _, I, x, h, fun J items F1 H1 σ1 I1 g1 ok ⟨n1, h1⟩ D' hD => ?_⟩
  have nps : ∀ v ∈ vs, ∀ p ∈ b.ps, p.1 ≠ v := fun v hv p hp z => by
    obtain ⟨_, d, p2⟩ := I1.par p hp
    have n := n1 v hv
    unfold noIo at n
    rw [← z, p2] at n
    exact n
  have f0 := I1.fr1 hD (ds := []) (DpAll.nil)
  have nt : ∀ p ∈ b.T, p.1 ≠ D' := f0.nt
  -- the state between two turns
  refine ⟨fun i m H' => ∃ F2 σ2 acc accV, Iv K { b with T := (D', .lst accV) :: b.T } F2 H' (wipe σ vs) σ2 ∧ Grow F1 F2 ∧ DpAll K F2 accV acc ∧ (∀ v ∈ vs, ∀ s, σ2[v]? = some s → s = .un) ∧ m = items.length - i ∧ i ≤ items.length ∧
    lcD noX vs g t w (fun acc σ => Qd (.f (.list acc)) (restD σ1 vs σ)) (items.drop i) acc σ2, ⟨items.length, F1, wipeD σ1 vs, [], [], ?_, Grow.refl F1, .nil, fun v hv s e => wipeD_un σ1 hv e, rfl, Nat.zero_le _, h1⟩, ?_⟩
  · exact ((I1.laid _ hD).addT upd_same f0.fz f0.h0 f0.no).wipes nps
  · rintro i m H' ⟨F2, σ2, acc, accV, I2, g2, dp, hu, rfl, hi, h2⟩
    by_cases hlt : i < items.length
    · rw [List.drop_eq_getElem_cons hlt] at h2
      refine .inr ⟨ok.go i F2 H' g2 I2.sub hlt, fun H' => ∃ F2 σ2 acc accV, Iv K { b with T := (D', .lst accV) :: b.T } F2 H' (wipe σ vs) σ2 ∧ Grow F1 F2 ∧ DpAll K F2 accV acc ∧ (∀ v ∈ vs, ∀ s, σ2[v]? = some s → s = .un) ∧
        lcD noX vs g t w (fun acc σ => Qd (.f (.list acc)) (restD σ1 vs σ)) (items.drop (i + 1)) acc σ2, fun H'' ⟨F3, σ3, acc3, accV3, I3, g3, dp3, hu3, h3⟩ => ⟨items.length - (i + 1), by omega, F3, σ3, acc3, accV3, I3, g3, dp3, hu3, rfl, hlt, h3⟩, fun v H3 y => ?_⟩
      have fin : ∀ F3, Iv K { b with T := (D', .lst accV) :: b.T } F3 H3 (wipe σ vs) σ2 → Grow F2 F3 → Dp K F3 v items[i] → tDG K vs g v (wipe σ vs) H3 fun σ4 H4 => wipe σ4 vs = wipe σ vs ∧ tDT K mg EF t σ4 H4 fun k H5 =>
          if k = true then tD K mg EF w σ4 H5 fun y H6 => ∃ acc, H6 D' = some (.lst acc) ∧ acc.length < sizeLine ∧ (∃ F2 σ2 acc1 accV, Iv K { b with T := (D', .lst accV) :: b.T } F2 (upd H6 D' (.lst (acc ++ [y]))) (wipe σ vs) σ2 ∧ Grow F1 F2 ∧ DpAll K F2 accV acc1 ∧ (∀ v ∈ vs, ∀ s, σ2[v]? = some s → s = .un) ∧
            lcD noX vs g t w (fun acc σ => Qd (.f (.list acc)) (restD σ1 vs σ)) (items.drop (i + 1)) acc1 σ2)
          else (∃ F2 σ2 acc1 accV, Iv K { b with T := (D', .lst accV) :: b.T } F2 H5 (wipe σ vs) σ2 ∧ Grow F1 F2 ∧ DpAll K F2 accV acc1 ∧ (∀ v ∈ vs, ∀ s, σ2[v]? = some s → s = .un) ∧
            lcD noX vs g t w (fun acc σ => Qd (.f (.list acc)) (restD σ1 vs σ)) (items.drop (i + 1)) acc1 σ2) := by
        intro F3 I3 g3 r3
        refine ⟨_, F3, σ2, _, _, I3, r3, h2, fun σ4 σd4 I4 hw4 h4 => ?_⟩
        have ww : wipe (wipe σ vs) vs = wipe σ vs := by
          apply List.ext_getElem?
          intro j
          by_cases hj : j ∈ vs
          · have z : ∀ (τ : St) (ws : List Nat), j ∈ ws → (wipe τ ws)[j]? = if j < τ.length then some none else none := by
              intro τ ws
              induction ws with
              | nil => intro h; cases h
              | cons a ws ih =>
                intro h
                show ((wipe τ ws).set a none)[j]? = _
                by_cases q : a = j
                · subst q
                  by_cases hl : a < τ.length
                  · rw [List.getElem?_set_self (by rw [wipe_length]; exact hl), if_pos hl]
                  · rw [List.getElem?_eq_none (by rw [List.length_set, wipe_length]; omega), if_neg hl]
                · rw [List.getElem?_set_ne q]
                  rcases List.mem_cons.mp h with h | h
                  · exact absurd h.symm q
                  · exact ih h
            rw [z _ _ hj, z _ _ hj, wipe_length]
          · rw [wipe_out hj]
        refine ⟨hw4.trans ww, _, F3, σd4, noX, _, I4, xok_no, h4, fun k H5 F5 σd5 I5 g5 h5 => ?_⟩
        cases k with
        | false =>
          rw [if_neg Bool.false_ne_true] at h5 ⊢
          refine ⟨F5, wipeD σd5 vs, acc, accV, ?_, (g2.trans g3).trans g5, dpa_mono (g3.trans g5) dp, fun v hv s e => wipeD_un σd5 hv e, h5⟩
          rw [← hw4.trans ww]
          exact I5.wipes nps
        | true =>
          rw [if_pos rfl] at h5 ⊢
          refine tD_dz I5 xok_no h5 fun y H6 F6 d σd6 I6 g6 r6 ⟨hz, h6⟩ => ?_
          refine ⟨accV, (I6.tmp (D', .lst accV) List.mem_cons_self).1, by rw [dpa_len dp]; exact hz, F6, wipeD σd6 vs, acc ++ [d], accV ++ [y], ?_, ((g2.trans g3).trans g5).trans g6, dpa_app (dpa_mono ((g3.trans g5).trans g6) dp) (.cons r6 .nil), fun v hv s e => wipeD_un σd6 hv e, h6⟩
          rw [← hw4.trans ww]
          exact (I6.setT nt).wipes nps
      rcases ok.yld i F2 H' v H3 items[i] g2 I2.sub (List.getElem?_eq_getElem hlt) y with ⟨rfl, r⟩ | ⟨T, xs, ds, hT, rfl, rfl, ed, r⟩
      · exact fin F2 I2 (Grow.refl F2) r
      · refine fin _ (I2.alloc _ hT) (I2.growq _ hT) ?_
        rw [ed]
        exact .tup (.inl (.inl upd_same)) (dpa_mono (I2.growq _ hT) r)
    · have e : i = items.length := by omega
      subst e
      rw [List.drop_length] at h2
      refine .inl ⟨ok.stop F2 H' g2 I2.sub, ?_⟩
      have J2 : Iv K { b with T := (D', .lst accV) :: b.T } F2 H' σ σ2 := I2.unwipe nps hu
      have J1 : Iv K { b with T := (D', .lst accV) :: b.T } F1 (upd H1 D' (.lst accV)) σ σ1 := (I1.laid _ hD).addT upd_same f0.fz f0.h0 f0.no
      obtain ⟨J3, _⟩ := Iv.rest J1 g2 (vs := vs) J2 hu
      obtain ⟨t1, t2, t3, t4⟩ := J3.tmp (D', .lst accV) List.mem_cons_self
      exact q _ H' F2 (.f (.list acc)) _ J3.dropT (g1.trans g2) ⟨D', rfl, t2, t3, ⟨accV, t1, dp⟩, fun j z => t4 j D' z rfl, nt⟩ h2
end
end DL
end L2
set_option Elab.async false
set_option maxRecDepth 100000
set_option maxHeartbeats 1000000
/-! The data layer, part 6: calls of the program's own defs; a def's body. -/
namespace L2
open PySem PySem.Spec PyProof.Rows
namespace DL

/-- what a def does, told from data: the arguments; what is wanted of the result and of what the changed parameter holds then; the classes of errors that may leave -/
abbrev DSp := List D → (Rv → D → Prop) → XW → Prop
/-- a def: which parameter is changed, if any; what it does -/
structure FI where
  n : Nat
  ix : Option Nat
  sp : DSp

mutual
/-- no list within -/
def noL : D → Bool
  | .none => true
  | .bool _ => true
  | .int _ => true
  | .str _ => true
  | .tuple l => noLs l
  | .list _ => false
  | .dict _ => false
def noLs : List D → Bool
  | [] => true
  | d :: r => noL d && noLs r
end
/-- no list within but at the top -/
def noLc : D → Bool
  | .list l => noLs l
  | .dict kvs => kvs.all fun p => noL p.2
  | _ => true
def noLR : Rv → Bool
  | .d x => noL x
  | .f x => noLc x

noncomputable def bw (P : Addr → Prop) (F H : Hp) : Hp := fun a => @ite _ (P a) (Classical.propDecidable _) (H a) (F a)
noncomputable def ub (P : Addr → Prop) (F : Hp) : Hp := fun a => @ite _ (P a) (Classical.propDecidable _) none (F a)
theorem bw_yes {P : Addr → Prop} {F H : Hp} {a : Addr} (h : P a) : bw P F H a = H a := if_pos h
theorem bw_no {P : Addr → Prop} {F H : Hp} {a : Addr} (h : ¬ P a) : bw P F H a = F a := if_neg h
theorem ub_yes {P : Addr → Prop} {F : Hp} {a : Addr} (h : P a) : ub P F a = none := if_pos h
theorem ub_no {P : Addr → Prop} {F : Hp} {a : Addr} (h : ¬ P a) : ub P F a = F a := if_neg h

section
variable {K : PySem.W.Frag} {mg : Str → Option Value} {E : XK} {b : Bs} {F F' H H' : Hp} {σ σ' : St} {σd σd' : SD} {X : XW} {P : Addr → Prop}
theorem ub_sqt (hp : ∀ a, P a → ∃ xs, F a = some (.lst xs)) {a : Addr} {xs : List V} (h : SqT K F a xs) : SqT K (ub P F) a xs := by
  have no : ∀ o, F a = some o → (∀ ys, o ≠ .lst ys) → ub P F a = some o := fun o e z => by
    by_cases q : P a
    · obtain ⟨ys, ey⟩ := hp a q
      rw [ey] at e
      exact absurd (Option.some.inj e).symm (z ys)
    · rw [ub_no q]; exact e
  rcases h with (h | ⟨o, h⟩) | h
  · exact .inl (.inl (no _ h fun ys z => by cases z))
  · exact .inl (.inr ⟨o, no _ h fun ys z => by cases z⟩)
  · exact .inr h
mutual
theorem ub_dp (hp : ∀ a, P a → ∃ xs, F a = some (.lst xs)) : ∀ {v : V} {d : D}, noL d = true → Dp K F v d → Dp K (ub P F) v d
  | _, _, _, .non => .non
  | _, _, _, .bl b => .bl b
  | _, _, _, .int i => .int i
  | _, _, _, .str x => .str x
  | _, _, h, .lst _ _ => by cases h
  | _, _, h, .tup q r => .tup (ub_sqt hp q) (ub_dpa hp (by simpa [noL] using h) r)
theorem ub_dpa (hp : ∀ a, P a → ∃ xs, F a = some (.lst xs)) : ∀ {vs : List V} {ds : List D}, noLs ds = true → DpAll K F vs ds → DpAll K (ub P F) vs ds
  | _, _, _, .nil => .nil
  | _ :: _, d :: ds, h, .cons q r => by
    have h : (noL d && noLs ds) = true := by simpa [noLs] using h
    rw [Bool.and_eq_true] at h
    exact .cons (ub_dp hp h.1 q) (ub_dpa hp h.2 r)
end
theorem ub_pairT (hp : ∀ a, P a → ∃ xs, F a = some (.lst xs)) : ∀ {es : List (List Key × V)} {r : List (D × D)}, (r.all fun p => noL p.2) = true → Paired (fun (p : List Key × V) (q : D × D) => q.1 = keyT p.1 ∧ Dp K F p.2 q.2) es r → Paired (fun (p : List Key × V) (q : D × D) => q.1 = keyT p.1 ∧ Dp K (ub P F) p.2 q.2) es r
  | _, _, _, .nil => .nil
  | _ :: _, d :: ds, h, .cons q r => by
    rw [List.all_cons, Bool.and_eq_true] at h
    exact .cons ⟨q.1, ub_dp hp h.1 q.2⟩ (ub_pairT hp h.2 r)
theorem ub_own (hp : ∀ a, P a → ∃ xs, F a = some (.lst xs)) {a : Addr} : ∀ {c : D}, noLc c = true → OwnAt K F H a c → OwnAt K (ub P F) H a c
  | .list ds, h, ⟨vs, h1, h2⟩ => ⟨vs, h1, ub_dpa hp h h2⟩
  | .dict kvs, h, q => by
    have h : (kvs.all fun p => noL p.2) = true := h
    rcases q with ⟨es, h1, h2⟩ | ⟨es, r0, h0, h1, h2⟩
    · refine .inl ⟨es, h1, ?_⟩
      clear h1
      induction h2 with
      | nil => exact .nil
      | cons r t ih =>
        rw [List.all_cons, Bool.and_eq_true] at h
        exact .cons ⟨r.1, ub_dp hp h.1 r.2⟩ (ih h.2 h.2)
    · subst h0
      rw [List.all_cons, Bool.and_eq_true] at h
      have h := h.2
      exact .inr ⟨es, r0, rfl, h1, ub_pairT hp h h2⟩

def putS (σd : SD) (i : Nat) (c : D) : SD := match σd[i]? with
  | some (.own _) => σd.set i (.own c)
  | some (.io _) => σd.set i (.io c)
  | _ => σd

def ioS (σd : SD) : Option (Nat × Addr × D) → SD
  | some (i, _, c) => putS σd i c
  | none => σd
/-- behind a call: bor: the places that were lent; io: the slot whose object may have changed -/
theorem Iv.called (I : Iv K b F H σ σd) (hP : ∀ a, P a → (∃ i, OA σ σd i a) ∧ ∃ xs, H a = some (.lst xs)) {ps : List (Nat × Addr)}
    (io : Option (Nat × Addr × D)) (eps : ∀ p ∈ ps, ∃ i c, io = some (i, p.2, c))
    (hio : ∀ i a c, io = some (i, a, c) → OA σ σd i a ∧ ¬ P a ∧ F' a = none ∧ OwnAt K F' H' a c ∧ (noLc c = true ∨ ∀ a, ¬ P a))
    (x : Ext ⟨H, bw P F H, ps, []⟩ F' H') :
    Iv K b (ub P F') H' σ (ioS σd io) ∧ Grow F (ub P F') ∧ (∀ a, P a → ∃ xs, F' a = some (.lst xs)) := by
  have fp : ∀ a, P a → F a = none := fun a h => by
    obtain ⟨⟨i, h1, d, h2⟩, _⟩ := hP a h
    rcases h2 with h2 | h2
    · obtain ⟨c, e, f, _⟩ := I.sl i _ _ h1 h2
      cases e
      exact f
    · obtain ⟨c, e, f, _⟩ := I.sl i _ _ h1 h2
      cases e
      exact f
  have old : ∀ a, H a ≠ none → F' a = bw P F H a := x.old
  have hp : ∀ a, P a → ∃ xs, F' a = some (.lst xs) := fun a h => by
    obtain ⟨_, xs, e⟩ := hP a h
    exact ⟨xs, by rw [old a (by rw [e]; exact fun z => by cases z), bw_yes h]; exact e⟩
  have oldF : ∀ a, H a ≠ none → ub P F' a = F a := fun a h => by
    by_cases q : P a
    · rw [ub_yes q, fp a q]
    · rw [ub_no q, old a h, bw_no q]
  have g : Grow F (ub P F') := fun a o e => by rw [oldF a (by rw [I.sub _ _ e]; exact fun z => by cases z)]; exact e
  have inps : ∀ {a o}, H a = some o → (∀ i c, io ≠ some (i, a, c)) → H' a = some o := fun {a o} e z => x.keep a o e fun hm => by
    obtain ⟨p, hp1, hp2⟩ := List.mem_map.mp hm
    obtain ⟨i, c, e2⟩ := eps p hp1
    rw [hp2] at e2
    exact z i c e2
  have ext : Ext b (ub P F') H' := by
    refine ⟨fun a o e => ?_, fun a h => ?_, fun a o e hi => ?_, fun a h => x.trk a (I.trk a h)⟩
    · by_cases q : P a
      · rw [ub_yes q] at e; cases e
      · rw [ub_no q] at e; exact x.sub _ _ e
    · rw [oldF a (I.trk a h)]
      exact I.old a h
    · refine inps (I.keep a o e hi) fun i c z => ?_
      obtain ⟨⟨h1, d, h2⟩, _⟩ := hio i a c z
      rcases h2 with h2 | h2
      · obtain ⟨a', e', _, h0, _⟩ := I.sl i _ _ h1 h2
        cases e'
        rw [h0] at e; cases e
      · obtain ⟨a', e', _, h0, _⟩ := I.sl i _ _ h1 h2
        cases e'
        exact hi h0
  -- the slots that are not the changed one
  have other : ∀ {i : Nat} {o : Option V} {s : Sl}, σ[i]? = some o → σd[i]? = some s → (∀ a c, io ≠ some (i, a, c)) → SlR K b (ub P F') H' o s := fun {i o s} h1 h2 z => by
    have r := I.sl i o s h1 h2
    have far : ∀ a, OA σ σd i a → ∀ j c, io ≠ some (j, a, c) := fun a oa j c e => by
      obtain ⟨oa2, _⟩ := hio j a c e
      have := I.apart i j a oa oa2
      subst this
      exact z a c e
    cases s with
    | un => trivial
    | val d =>
      obtain ⟨v, e, r⟩ := r
      exact ⟨v, e, dp_mono g r⟩
    | own d =>
      obtain ⟨a, e, f, h0, r⟩ := r
      subst e
      obtain ⟨u, hu, _⟩ := r.some
      have hn : H a ≠ none := by rw [hu]; exact fun z => by cases z
      exact ⟨a, rfl, by rw [oldF a hn]; exact f, h0, r.mono g ((inps hu (far a ⟨h1, d, .inl h2⟩)).trans hu.symm)⟩
    | io d =>
      obtain ⟨a, e, f, h0, r⟩ := r
      subst e
      obtain ⟨u, hu, _⟩ := r.some
      have hn : H a ≠ none := by rw [hu]; exact fun z => by cases z
      exact ⟨a, rfl, by rw [oldF a hn]; exact f, h0, r.mono g ((inps hu (far a ⟨h1, d, .inr h2⟩)).trans hu.symm)⟩
  have tmp : ∀ p ∈ b.T, H' p.1 = some p.2 ∧ ub P F' p.1 = none ∧ b.H0 p.1 = none := fun p hp => by
    obtain ⟨t1, t2, t3, t4⟩ := I.tmp p hp
    refine ⟨inps t1 fun i c e => ?_, by rw [oldF _ (by rw [t1]; exact fun z => by cases z)]; exact t2, t3⟩
    exact t4 i _ (hio i _ c e).1 rfl
  refine ⟨?_, g, hp⟩
  cases io with
  | none => exact ⟨ext, I.len, fun i o s h1 h2 => other h1 h2 (fun a c z => by cases z), I.apart, I.par, fun p hp => ⟨(tmp p hp).1, (tmp p hp).2.1, (tmp p hp).2.2, (I.tmp p hp).2.2.2⟩⟩
  | some q =>
    obtain ⟨i, a, c⟩ := q
    obtain ⟨⟨h1, d, h2⟩, hnP, hf, hown, hc⟩ := hio i a c rfl
    have hown2 : OwnAt K (ub P F') H' a c := by
      rcases hc with hc | hc
      · exact ub_own hp hc hown
      · have : ub P F' = F' := funext fun a => ub_no (hc a)
        rw [this]
        exact hown
    have hf2 : ub P F' a = none := by rw [ub_no hnP]; exact hf
    have hi : i < σd.length := by
      rcases h2 with h2 | h2
      · exact (List.getElem?_eq_some_iff.mp h2).1
      · exact (List.getElem?_eq_some_iff.mp h2).1
    show Iv K b (ub P F') H' σ (putS σd i c)
    have hset : ∃ s, putS σd i c = σd.set i s ∧ ((s = .own c ∧ σd[i]? = some (.own d)) ∨ (s = .io c ∧ σd[i]? = some (.io d))) := by
      unfold putS
      rcases h2 with h2 | h2
      · rw [h2]; exact ⟨_, rfl, .inl ⟨rfl, rfl⟩⟩
      · rw [h2]; exact ⟨_, rfl, .inr ⟨rfl, rfl⟩⟩
    obtain ⟨s, es, hs⟩ := hset
    rw [es]
    have oaE : ∀ {j k}, OA σ (σd.set i s) j k → OA σ σd j k := fun {j k} ⟨z1, d', z2⟩ => by
      by_cases q : i = j
      · subst q
        exact ⟨z1, d, h2⟩
      · rw [List.getElem?_set_ne q] at z2
        exact ⟨z1, d', z2⟩
    refine ⟨ext, by rw [List.length_set]; exact I.len, fun j o t e1 e2 => ?_, fun j k e z1 z2 => I.apart j k e (oaE z1) (oaE z2), fun p hp => ?_, fun p hp => ⟨(tmp p hp).1, (tmp p hp).2.1, (tmp p hp).2.2, fun j k z => (I.tmp p hp).2.2.2 j k (oaE z)⟩⟩
    · by_cases q : i = j
      · subst q
        rw [List.getElem?_set_self hi] at e2
        cases e2
        rw [h1] at e1
        cases e1
        rcases hs with ⟨rfl, h3⟩ | ⟨rfl, h3⟩
        · obtain ⟨a', e', _, h0, _⟩ := I.sl i _ _ h1 h3
          cases e'
          exact ⟨a, rfl, hf2, h0, hown2⟩
        · obtain ⟨a', e', _, h0, _⟩ := I.sl i _ _ h1 h3
          cases e'
          exact ⟨a, rfl, hf2, h0, hown2⟩
      · rw [List.getElem?_set_ne q] at e2
        exact other e1 e2 fun a' c' z => by cases z; exact q rfl
    · obtain ⟨p1, d', p2⟩ := I.par p hp
      by_cases q : i = p.1
      · rw [← q] at p1 p2 ⊢
        rcases hs with ⟨_, h3⟩ | ⟨rfl, h3⟩
        · rw [h3] at p2; cases p2
        · exact ⟨p1, c, List.getElem?_set_self hi⟩
      · rw [List.getElem?_set_ne q]
        exact ⟨p1, d', p2⟩

/-! ### a def's promise -/
def psOf (ix : Option Nat) (vs : List V) : List (Nat × Addr) := match ix with
  | some j => match vs[j]? with
    | some (.ref a) => [(j, a)]
    | _ => []
  | none => []
def ArgR (K : PySem.W.Frag) (F H : Hp) (ix : Option Nat) (j : Nat) (v : V) (d : D) : Prop := if ix = some j then ∃ a, v = .ref a ∧ F a = none ∧ OwnAt K F H a d else Dp K F v d
/-- a result: data, or a new object -/
def RetR (K : PySem.W.Frag) (H F' H' : Hp) (v : V) : Rv → Prop
  | .d x => Dp K F' v x
  | .f x => ∃ a, v = .ref a ∧ F' a = none ∧ H a = none ∧ OwnAt K F' H' a x
def spD (K : PySem.W.Frag) (mg : Str → Option Value) (fi : FI) : Sp := fun vs H Q E => ∃ F ds X Qd, Grow F H ∧ vs.length = fi.n ∧ ds.length = fi.n ∧ (∀ j v d, vs[j]? = some v → ds[j]? = some d → ArgR K F H fi.ix j v d) ∧ fi.sp ds Qd X ∧
  (∀ v r c F' H', Ext ⟨H, F, psOf fi.ix vs, []⟩ F' H' → RetR K H F' H' v r → (∀ p ∈ psOf fi.ix vs, F' p.2 = none ∧ OwnAt K F' H' p.2 c) → Qd r c → Q v H') ∧ XOk mg ⟨H, F, psOf fi.ix vs, []⟩ X E

/-! ### calls -/
/-- how an operand may go to a parameter -/
def argB (ix : Option Nat) (σd : SD) (j i : Nat) : Prop := match σd[i]? with
  | some (.val _) => ix ≠ some j
  | some (.own d) => if ix = some j then True else fzD d = true
  | some (.io d) => if ix = some j then True else fzD d = true
  | _ => False
def argOk (ix : Option Nat) (σd : SD) (j : Nat) : AV → Prop
  | .d _ => ix ≠ some j
  | .b i => argB ix σd j i
def argsOkD (ix : Option Nat) (σd : SD) : Nat → List AV → Prop
  | _, [] => True
  | j, a :: r => argOk ix σd j a ∧ argsOkD ix σd (j + 1) r
/-- the slot of the changed parameter -/
def ioSlot (ix : Option Nat) (avs : List AV) : Option Nat := match ix with
  | some j => match avs[j]? with
    | some (.b i) => some i
    | _ => none
  | none => none
def isMut (σd : SD) (i : Nat) : Bool := match σd[i]? with
  | some (.own _) => true
  | some (.io _) => true
  | _ => false
/-- an own list is lent -/
def lends (ix : Option Nat) (σd : SD) : Nat → List AV → Bool
  | _, [] => false
  | j, .b i :: r => (isMut σd i && !decide (ix = some j)) || lends ix σd (j + 1) r
  | j, .d _ :: r => lends ix σd (j + 1) r
/-- the lent ones are others than the changed one -/
def lendsNot (ix : Option Nat) (i0 : Option Nat) : Nat → List AV → Prop
  | _, [] => True
  | j, .b i :: r => (ix ≠ some j → i0 ≠ some i) ∧ lendsNot ix i0 (j + 1) r
  | j, .d _ :: r => lendsNot ix i0 (j + 1) r
def putIo (σd : SD) (i0 : Option Nat) (c : D) : SD := match i0 with
  | some i => putS σd i c
  | none => σd
def wCall (fi : FI) (os : List Opd) : WE := fun X σd Q => wOs os X σd fun avs σ1 => ∃ ds, rsL σ1 avs = some ds ∧ avs.length = fi.n ∧ argsOkD fi.ix σ1 0 avs ∧ lendsNot fi.ix (ioSlot fi.ix avs) 0 avs ∧
  fi.sp ds (fun r c => (lends fi.ix σ1 0 avs = true → noLR r = true ∧ noLc c = true) ∧ Q r (putIo σ1 (ioSlot fi.ix avs) c)) X

theorem avs_at : ∀ {vs : List V} {xs : List AV} {j : Nat} {v : V}, AVs K F σ vs xs → vs[j]? = some v → ∃ x, xs[j]? = some x ∧ AVr K F σ v x
  | _, _, _, _, .nil, h => by simp at h
  | _, _, 0, v, .cons h t, e => by
    simp at e
    subst e
    exact ⟨_, rfl, h⟩
  | _, _, j + 1, v, .cons h t, e => by
    obtain ⟨x, h1, h2⟩ := avs_at (j := j) t (by simpa using e)
    exact ⟨x, by simpa using h1, h2⟩
theorem avs_len : ∀ {vs : List V} {xs : List AV}, AVs K F σ vs xs → vs.length = xs.length
  | _, _, .nil => rfl
  | _, _, .cons _ t => by rw [List.length_cons, List.length_cons, avs_len t]
theorem rsL_at : ∀ {xs : List AV} {ds : List D} {j : Nat} {x : AV}, rsL σd xs = some ds → xs[j]? = some x → ∃ d, ds[j]? = some d ∧ rs σd x = some d
  | [], _, _, _, _, h => by simp at h
  | x :: xs, ds, j, y, e, h => by
    unfold rsL at e
    cases h1 : rs σd x with
    | none => rw [h1] at e; cases e
    | some d =>
      cases h2 : rsL σd xs with
      | none => rw [h1, h2] at e; cases e
      | some es =>
        rw [h1, h2] at e
        cases e
        cases j with
        | zero =>
          simp at h
          subst h
          exact ⟨d, rfl, h1⟩
        | succ j => 
          obtain ⟨d', q1, q2⟩ := rsL_at (j := j) h2 (by simpa using h)
          exact ⟨d', by simpa using q1, q2⟩
theorem rsL_len : ∀ {xs : List AV} {ds : List D}, rsL σd xs = some ds → ds.length = xs.length
  | [], _, e => by cases e; rfl
  | x :: xs, ds, e => by
    unfold rsL at e
    cases h1 : rs σd x with
    | none => rw [h1] at e; cases e
    | some d =>
      cases h2 : rsL σd xs with
      | none => rw [h1, h2] at e; cases e
      | some es =>
        rw [h1, h2] at e
        cases e
        rw [List.length_cons, List.length_cons, rsL_len h2]
theorem argsOk_at : ∀ {avs : List AV} {k j : Nat} {x : AV} {ix : Option Nat}, argsOkD ix σd k avs → avs[j]? = some x → argOk ix σd (k + j) x
  | [], _, _, _, _, _, h => by simp at h
  | a :: r, k, 0, x, ix, q, h => by
    simp at h
    subst h
    exact q.1
  | a :: r, k, j + 1, x, ix, q, h => by
    have := argsOk_at (k := k + 1) (j := j) q.2 (by simpa using h)
    rwa [show k + (j + 1) = k + 1 + j by omega]
theorem lendsNot_at : ∀ {avs : List AV} {k j i : Nat} {ix i0 : Option Nat}, lendsNot ix i0 k avs → avs[j]? = some (.b i) → ix ≠ some (k + j) → i0 ≠ some i
  | [], _, _, _, _, _, _, h, _ => by simp at h
  | .b a :: r, k, 0, i, ix, i0, q, h, n => by
    simp at h
    subst h
    exact q.1 n
  | .d a :: r, k, 0, i, ix, i0, q, h, n => by simp at h
  | .b a :: r, k, j + 1, i, ix, i0, q, h, n => lendsNot_at (k := k + 1) (j := j) q.2 (by simpa using h) (by rwa [show k + 1 + j = k + (j + 1) by omega])
  | .d a :: r, k, j + 1, i, ix, i0, q, h, n => lendsNot_at (k := k + 1) (j := j) (show lendsNot ix i0 (k + 1) r from q) (by simpa using h) (by rwa [show k + 1 + j = k + (j + 1) by omega])
theorem lends_at : ∀ {avs : List AV} {k j i : Nat} {ix : Option Nat}, avs[j]? = some (.b i) → ix ≠ some (k + j) → isMut σd i = true → lends ix σd k avs = true
  | [], _, _, _, _, h, _, _ => by simp at h
  | .b a :: r, k, 0, i, ix, h, n, m => by
    simp at h
    subst h
    unfold lends
    rw [m, decide_eq_false (by simpa using n)]
    rfl
  | .d a :: r, k, 0, i, ix, h, n, m => by simp at h
  | .b a :: r, k, j + 1, i, ix, h, n, m => by
    unfold lends
    rw [lends_at (k := k + 1) (j := j) (by simpa using h) (by rwa [show k + 1 + j = k + (j + 1) by omega]) m, Bool.or_true]
  | .d a :: r, k, j + 1, i, ix, h, n, m => by
    unfold lends
    exact lends_at (k := k + 1) (j := j) (by simpa using h) (by rwa [show k + 1 + j = k + (j + 1) by omega]) m
theorem isMut_of {i : Nat} (h : ∃ d, σd[i]? = some (.own d) ∨ σd[i]? = some (.io d)) : isMut σd i = true := by
  obtain ⟨d, h | h⟩ := h <;> (unfold isMut; rw [h])

theorem call_ok {fi : FI} {os : List Opd} {Q : VK} (h : tD K mg E (wCall fi os) σ H Q) : tCall (spD K mg fi) [] E (tOs K mg E os) σ H Q := by
  obtain ⟨b, F, σd, X, Qd, I, x, h, q⟩ := h
  refine tOs_run I x h fun vs H1 F1 avs σ1 I1 g1 r1 ⟨ds, e1, hn, ha, hl, h1⟩ => ?_
  rw [List.append_nil]
  have lv := avs_len r1
  -- the lent places
  let P : Addr → Prop := fun a => ∃ j i, avs[j]? = some (.b i) ∧ fi.ix ≠ some j ∧ OA σ σ1 i a
  have own_dp : ∀ {a d}, fzD d = true → OwnAt K F1 H1 a d → ∃ xs ds, H1 a = some (.lst xs) ∧ d = .list ds ∧ DpAll K F1 xs ds := fun {a d} z o => by
    cases d with
    | list ds => obtain ⟨xs, o1, o2⟩ := o; exact ⟨xs, ds, o1, rfl, o2⟩
    | _ => cases z
  have hP : ∀ a, P a → (∃ i, OA σ σ1 i a) ∧ ∃ xs, H1 a = some (.lst xs) := fun a ⟨j, i, z1, z2, z3⟩ => by
    refine ⟨⟨i, z3⟩, ?_⟩
    have ok := argsOk_at ha z1
    obtain ⟨s1, d, s2⟩ := z3
    rw [Nat.zero_add] at ok
    replace ok : argB fi.ix σ1 j i := ok
    unfold argB at ok
    rcases s2 with s2 | s2
    · rw [s2] at ok
      simp only at ok
      rw [if_neg z2] at ok
      obtain ⟨a', e', _, _, o⟩ := I1.sl i _ _ s1 s2
      cases e'
      obtain ⟨xs, _, o1, _⟩ := own_dp ok o
      exact ⟨xs, o1⟩
    · rw [s2] at ok
      simp only at ok
      rw [if_neg z2] at ok
      obtain ⟨a', e', _, _, o⟩ := I1.sl i _ _ s1 s2
      cases e'
      obtain ⟨xs, _, o1, _⟩ := own_dp ok o
      exact ⟨xs, o1⟩
  have fP : ∀ a, P a → F1 a = none := fun a ⟨j, i, z1, z2, s1, d, s2⟩ => by
    rcases s2 with s2 | s2
    · obtain ⟨a', e', f, _⟩ := I1.sl i _ _ s1 s2
      cases e'
      exact f
    · obtain ⟨a', e', f, _⟩ := I1.sl i _ _ s1 s2
      cases e'
      exact f
  have gF : Grow F1 (bw P F1 H1) := fun a o e => by
    by_cases z : P a
    · rw [fP a z] at e; cases e
    · rw [bw_no z]; exact e
  have gH : Grow (bw P F1 H1) H1 := fun a o e => by
    by_cases z : P a
    · rw [bw_yes z] at e; exact e
    · rw [bw_no z] at e; exact I1.sub _ _ e
  -- the changed parameter
  have hio : ∀ j a, fi.ix = some j → vs[j]? = some (.ref a) → ∃ i, avs[j]? = some (.b i) ∧ OA σ σ1 i a := fun j a e1 e2 => by
    obtain ⟨y, y1, y2⟩ := avs_at r1 e2
    have ok := argsOk_at ha y1
    rw [Nat.zero_add] at ok
    cases y with
    | d w => exact absurd e1 ok
    | b i =>
      refine ⟨i, y1, y2, ?_⟩
      replace ok : argB fi.ix σ1 j i := ok
      unfold argB at ok
      cases z : σ1[i]? with
      | none => rw [z] at ok; exact ok.elim
      | some s =>
        rw [z] at ok
        cases s with
        | val d => exact absurd e1 ok
        | own d => exact ⟨d, .inl rfl⟩
        | io d => exact ⟨d, .inr rfl⟩
        | un => exact ok.elim
  have ioNP : ∀ j i a, fi.ix = some j → avs[j]? = some (.b i) → OA σ σ1 i a → ¬ P a := fun j i a e1 e2 oa ⟨j', i', z1, z2, z3⟩ => by
    have := I1.apart i i' a oa z3
    subst this
    refine lendsNot_at hl z1 (by rw [Nat.zero_add]; exact z2) ?_
    unfold ioSlot
    rw [e1]
    simp only [e2]
  refine ⟨bw P F1 H1, ds, X, _, gH, by rw [lv]; exact hn, by rw [rsL_len e1]; exact hn, fun j v d hv hd => ?_, h1, fun v r c F' H' ex rr hc hq => ?_, fun nm C F' H' hx hm ex => x nm C (ub P F') H' hx hm ?_⟩
  · -- the arguments
    obtain ⟨y, y1, y2⟩ := avs_at r1 hv
    obtain ⟨d', e3, e4⟩ := rsL_at e1 y1
    rw [hd] at e3
    cases e3
    have ok := argsOk_at ha y1
    rw [Nat.zero_add] at ok
    unfold ArgR
    cases y with
    | d w =>
      cases e4
      rw [if_neg ok]
      exact dp_mono gF y2
    | b i =>
      have y2 : σ[i]? = some (some v) := y2
      have e4 : (σ1[i]?).bind slD = some d := e4
      replace ok : argB fi.ix σ1 j i := ok
      unfold argB at ok
      cases z : σ1[i]? with
      | none => rw [z] at ok; exact ok.elim
      | some s =>
        rw [z] at ok e4
        have r := I1.sl i _ s y2 z
        cases s with
        | un => exact ok.elim
        | val d2 =>
          cases e4
          rw [if_neg ok]
          obtain ⟨v', e5, r⟩ := r
          cases e5
          exact dp_mono gF r
        | own d2 =>
          cases e4
          obtain ⟨a, e5, f, h0, o⟩ := r
          cases e5
          have oa : OA σ σ1 i a := ⟨y2, d, .inl z⟩
          by_cases hj : fi.ix = some j
          · rw [if_pos hj]
            exact ⟨a, rfl, by rw [bw_no (ioNP j i a hj y1 oa)]; exact f, o.mono gF rfl⟩
          · rw [if_neg hj]
            simp only at ok
            rw [if_neg hj] at ok
            obtain ⟨xs, es, o1, rfl, o2⟩ := own_dp ok o
            exact .lst (.inl (.inl (by rw [bw_yes (show P a from ⟨j, i, y1, hj, oa⟩)]; exact o1))) (dpa_mono gF o2)
        | io d2 =>
          cases e4
          obtain ⟨a, e5, f, h0, o⟩ := r
          cases e5
          have oa : OA σ σ1 i a := ⟨y2, d, .inr z⟩
          by_cases hj : fi.ix = some j
          · rw [if_pos hj]
            exact ⟨a, rfl, by rw [bw_no (ioNP j i a hj y1 oa)]; exact f, o.mono gF rfl⟩
          · rw [if_neg hj]
            simp only at ok
            rw [if_neg hj] at ok
            obtain ⟨xs, es, o1, rfl, o2⟩ := own_dp ok o
            exact .lst (.inl (.inl (by rw [bw_yes (show P a from ⟨j, i, y1, hj, oa⟩)]; exact o1))) (dpa_mono gF o2)
  · -- behind the call
    obtain ⟨hlend, hq⟩ := hq
    -- the changed object
    have lendP : ∀ a, P a → lends fi.ix σ1 0 avs = true := fun a ⟨j, i, z1, z2, z3⟩ => lends_at z1 (by rw [Nat.zero_add]; exact z2) (isMut_of z3.2)
    have main : ∃ io : Option (Nat × Addr × D), (∀ p ∈ psOf fi.ix vs, ∃ i c, io = some (i, p.2, c)) ∧ (∀ i a c, io = some (i, a, c) → OA σ σ1 i a ∧ ¬ P a ∧ F' a = none ∧ OwnAt K F' H' a c ∧ (noLc c = true ∨ ∀ a, ¬ P a)) ∧
        ioS σ1 io = putIo σ1 (ioSlot fi.ix avs) c := by
      cases hix : fi.ix with
      | none => exact ⟨none, fun p hp => (by unfold psOf at hp; cases hp), fun i a c z => (by cases z), rfl⟩
      | some j =>
        cases hv : vs[j]? with
        | none =>
          refine ⟨none, fun p hp => ?_, fun i a c z => (by cases z), ?_⟩
          · unfold psOf at hp
            simp only [hv] at hp
            cases hp
          · have : avs[j]? = none := List.getElem?_eq_none (by rw [← lv]; exact List.getElem?_eq_none_iff.mp hv)
            unfold putIo ioSlot
            simp only [this]
            rfl
        | some v' =>
          obtain ⟨y, y1, y2⟩ := avs_at r1 hv
          have ok := argsOk_at ha y1
          rw [Nat.zero_add] at ok
          have hoa : ∃ i a, y = .b i ∧ v' = .ref a ∧ OA σ σ1 i a := by
            cases y with
            | d w => exact absurd hix ok
            | b i =>
              replace ok : argB fi.ix σ1 j i := ok
              unfold argB at ok
              have y2 : σ[i]? = some (some v') := y2
              cases z : σ1[i]? with
              | none => rw [z] at ok; exact ok.elim
              | some s =>
                rw [z] at ok
                have r := I1.sl i _ s y2 z
                cases s with
                | un => exact ok.elim
                | val d => exact absurd hix ok
                | own d =>
                  obtain ⟨a, e, _⟩ := r
                  cases e
                  exact ⟨i, a, rfl, rfl, y2, d, .inl z⟩
                | io d =>
                  obtain ⟨a, e, _⟩ := r
                  cases e
                  exact ⟨i, a, rfl, rfl, y2, d, .inr z⟩
          obtain ⟨i, a, rfl, rfl, oa⟩ := hoa
          have ep : psOf fi.ix vs = [(j, a)] := by
            unfold psOf
            rw [hix]
            simp only [hv]
          refine ⟨some (i, a, c), fun p hp => ?_, fun i' a' c' z => ?_, ?_⟩
          · rw [← hix, ep] at hp
            rw [List.mem_singleton.mp hp]
            exact ⟨i, c, rfl⟩
          · cases z
            obtain ⟨q1, q2⟩ := hc (j, a) (by rw [ep]; exact List.mem_cons_self)
            refine ⟨oa, ioNP j i a hix y1 oa, q1, q2, ?_⟩
            by_cases hp : ∃ a, P a
            · obtain ⟨a2, hp⟩ := hp
              exact .inl (hlend (lendP a2 hp)).2
            · exact .inr fun a2 z => hp ⟨a2, z⟩
          · unfold putIo ioSlot
            simp only [y1]
            rfl
    obtain ⟨io, m1, m2, m3⟩ := main
    obtain ⟨I2, g2, hp2⟩ := I1.called hP io m1 m2 ex
    rw [m3] at I2
    refine q v H' (ub P F') r _ I2 (g1.trans g2) ?_ hq
    by_cases hp : ∃ a, P a
    · obtain ⟨a2, hp⟩ := hp
      have nl := (hlend (lendP a2 hp)).1
      cases r with
      | d y => exact ub_dp hp2 nl rr
      | f y =>
        obtain ⟨a, rfl, f1, f2, f3⟩ := rr
        have na : ¬ P a := fun z => by
          obtain ⟨_, xs, e⟩ := hP a z
          rw [f2] at e; cases e
        refine ⟨a, rfl, by rw [ub_no na]; exact f1, ?_, ub_own hp2 nl f3, fun j z => ?_, fun t ht z => ?_⟩
        · cases e : b.H0 a with
          | none => rfl
          | some o => exact absurd f2 (I1.trk a (by rw [e]; exact fun z => by cases z))
        · obtain ⟨z1, d, z2⟩ := z
          have oa : OA σ σ1 j a := by
            refine ⟨z1, ?_⟩
            rw [← m3] at z2
            cases io with
            | none => exact ⟨d, z2⟩
            | some q =>
              obtain ⟨i, a', c'⟩ := q
              change (putS σ1 i c')[j]? = _ ∨ (putS σ1 i c')[j]? = _ at z2
              by_cases q : i = j
              · subst q; exact (m2 i a' c' rfl).1.2
              · unfold putS at z2
                split at z2
                · rw [List.getElem?_set_ne q] at z2; exact ⟨d, z2⟩
                · rw [List.getElem?_set_ne q] at z2; exact ⟨d, z2⟩
                · exact ⟨d, z2⟩
          obtain ⟨s1, d2, s2⟩ := oa
          rcases s2 with s2 | s2
          · obtain ⟨a', e', _, _, o⟩ := I1.sl j _ _ s1 s2
            cases e'
            obtain ⟨u, hu, _⟩ := o.some
            rw [f2] at hu; cases hu
          · obtain ⟨a', e', _, _, o⟩ := I1.sl j _ _ s1 s2
            cases e'
            obtain ⟨u, hu, _⟩ := o.some
            rw [f2] at hu; cases hu
        · have := (I1.tmp t ht).1
          rw [z, f2] at this; cases this
    · have same : ub P F' = F' := funext fun a => ub_no fun z => hp ⟨a, z⟩
      rw [same]
      cases r with
      | d y => exact rr
      | f y =>
        obtain ⟨a, rfl, f1, f2, f3⟩ := rr
        refine ⟨a, rfl, f1, ?_, f3, fun j z => ?_, fun t ht z => ?_⟩
        · cases e : b.H0 a with
          | none => rfl
          | some o => exact absurd f2 (I1.trk a (by rw [e]; exact fun z => by cases z))
        · obtain ⟨z1, d, z2⟩ := z
          have oa : OA σ σ1 j a := by
            refine ⟨z1, ?_⟩
            rw [← m3] at z2
            cases io with
            | none => exact ⟨d, z2⟩
            | some q =>
              obtain ⟨i, a', c'⟩ := q
              change (putS σ1 i c')[j]? = _ ∨ (putS σ1 i c')[j]? = _ at z2
              by_cases q : i = j
              · subst q; exact (m2 i a' c' rfl).1.2
              · unfold putS at z2
                split at z2
                · rw [List.getElem?_set_ne q] at z2; exact ⟨d, z2⟩
                · rw [List.getElem?_set_ne q] at z2; exact ⟨d, z2⟩
                · exact ⟨d, z2⟩
          obtain ⟨s1, d2, s2⟩ := oa
          rcases s2 with s2 | s2
          · obtain ⟨a', e', _, _, o⟩ := I1.sl j _ _ s1 s2
            cases e'
            obtain ⟨u, hu, _⟩ := o.some
            rw [f2] at hu; cases hu
          · obtain ⟨a', e', _, _, o⟩ := I1.sl j _ _ s1 s2
            cases e'
            obtain ⟨u, hu, _⟩ := o.some
            rw [f2] at hu; cases hu
        · have := (I1.tmp t ht).1
          rw [z, f2] at this; cases this
  · -- an error that leaves
    have main : ∃ io : Option (Nat × Addr × D), True := ⟨none, trivial⟩
    refine (Ext.mk (b := b) (F := ub P F') (H := H') (fun a o e => ?_) (fun a h => ?_) (fun a o e hi => ?_) fun a h => ex.trk a (I1.trk a h))
    · by_cases z : P a
      · rw [ub_yes z] at e; cases e
      · rw [ub_no z] at e; exact ex.sub _ _ e
    · have hn := I1.trk a h
      have o1 : F' a = bw P F1 H1 a := ex.old a hn
      by_cases z : P a
      · rw [ub_yes z, ← I1.old a h, fP a z]
      · rw [ub_no z, o1, bw_no z]; exact I1.old a h
    · refine ex.keep a o (I1.keep a o e hi) fun hm => ?_
      obtain ⟨p, hp1, hp2⟩ := List.mem_map.mp hm
      have hp1 : p ∈ psOf fi.ix vs := hp1
      unfold psOf at hp1
      cases hix : fi.ix with
      | none => rw [hix] at hp1; cases hp1
      | some j =>
        rw [hix] at hp1
        simp only at hp1
        split at hp1
        · rename_i a' hv
          rw [List.mem_singleton.mp hp1] at hp2
          obtain ⟨i, _, s1, d, s2⟩ := hio j a' hix hv
          have hp2 : a' = a := hp2
          subst hp2
          rcases s2 with s2 | s2
          · obtain ⟨a2, e', _, h0, _⟩ := I1.sl i _ _ s1 s2
            cases e'
            rw [h0] at e; cases e
          · obtain ⟨a2, e', _, h0, _⟩ := I1.sl i _ _ s1 s2
            cases e'
            exact hi h0
        · cases hp1
end

section
variable {X : Cx} {E : XK} {e : Expr} {es : List Expr} {pos p : Pos} {x : Str} {k : Nat} {f : Addr} {fd : FuncData} {ps : List Str}
theorem de_call {fi : FI} {os : List Opd} (F : FnOk X.prog X.w X.K X.mg X.base (L2.CX X.prog X.w) k f fd ps (spD X.K X.mg fi)) (hr : Room k X.A) (hg : Gl X x) (hm : X.mg x = some (.ref f)) (hk : PySem.W.keepIn X.K (.ref f) = true) (hb : Binds X.K fd ps []) (hx : Passes (L2.CX X.prog X.w) X E)
    (ha : DA X E (e :: es) os) (hdb : (x == ("__debug__" : Str)) = false) (he : starEach (e :: es) X.env = (false, eval e X.env) :: starEach es X.env) (hpl : (backTo pos (starEach es X.env)).any (·.1) = false) : DE X E (.Call (.Name x p) (e :: es) [] pos) (wCall fi os) :=
  (pe_call F hr hg hm hk hb .nil hx ha hdb he hpl).imp fun _ _ _ h => call_ok h
end

/-! ### a def's body -/
def ioC (ix : Option Nat) (σ : SD) : D := match ix with
  | some j => match σ[j]? with
    | some (.io c) => c
    | _ => .none
  | none => .none
def startD (ix : Option Nat) (m : Nat) : Nat → List D → SD
  | _, [] => List.replicate m .un
  | j, d :: r => (if ix = some j then .io d else .val d) :: startD ix m (j + 1) r
theorem startD_len (ix : Option Nat) (m : Nat) : ∀ (j : Nat) (ds : List D), (startD ix m j ds).length = ds.length + m
  | _, [] => by simp [startD]
  | j, d :: r => by
    show (startD ix m (j + 1) r).length + 1 = r.length + 1 + m
    rw [startD_len]
    omega
theorem startD_get (ix : Option Nat) (m : Nat) : ∀ (j : Nat) (ds : List D) (i : Nat) (s : Sl), (startD ix m j ds)[i]? = some s → (∃ d, ds[i]? = some d ∧ s = if ix = some (j + i) then .io d else .val d) ∨ s = .un
  | j, [], i, s, h => by
    unfold startD at h
    rw [List.getElem?_replicate] at h
    split at h
    · exact .inr (Option.some.inj h).symm
    · cases h
  | j, d :: r, 0, s, h => by
    simp [startD] at h
    exact .inl ⟨d, rfl, by rw [Nat.add_zero]; exact h.symm⟩
  | j, d :: r, i + 1, s, h => by
    have := startD_get ix m (j + 1) r i s (by simpa [startD] using h)
    rcases this with ⟨d', h1, h2⟩ | h
    · exact .inl ⟨d', by simpa using h1, by rw [show j + (i + 1) = j + 1 + i by omega]; exact h2⟩
    · exact .inr h
theorem startD_io (ix : Option Nat) (m : Nat) : ∀ (j : Nat) (ds : List D) (i : Nat) (d : D), ds[i]? = some d → ix = some (j + i) → (startD ix m j ds)[i]? = some (.io d)
  | j, [], i, d, h, _ => by simp at h
  | j, d :: r, 0, d', h, e => by
    simp at h
    subst h
    simp [startD]
    rw [Nat.add_zero] at e
    rw [e]
  | j, d :: r, i + 1, d', h, e => by
    have := startD_io ix m (j + 1) r i d' (by simpa using h) (by rw [e, show j + (i + 1) = j + 1 + i by omega])
    simpa [startD] using this
/-- a body's reading -/
def Reads (fi : FI) (m : Nat) (w : WS) : Prop := ∀ ds Qd X, ds.length = fi.n → fi.sp ds Qd X → w X ⟨fun σ => Qd (.d .none) (ioC fi.ix σ), fun r σ => Qd r (ioC fi.ix σ), fun _ => False, fun _ => False⟩ (startD fi.ix m 0 ds)
def ReadsN (fi : FI) (m : Nat) (w : WS) : Prop := ∀ ds Qd X, ds.length = fi.n → fi.sp ds Qd X → w noX ⟨fun σ => Qd (.d .none) (ioC fi.ix σ), fun r σ => Qd r (ioC fi.ix σ), fun _ => False, fun _ => False⟩ (startD fi.ix m 0 ds)

section
variable {K : PySem.W.Frag} {mg : Str → Option Value} {E E' : XK} {H : Hp} {w : WS} {fi : FI} {vs : List V} {Q : VK} {N : List Str} {m : Nat}
theorem start_get {i : Nat} {o : Option V} (h : (start N vs)[i]? = some o) : (∃ v, vs[i]? = some v ∧ o = some v) ∨ o = none := by
  unfold start at h
  by_cases hi : i < vs.length
  · rw [List.getElem?_append_left (by simpa using hi), List.getElem?_map, List.getElem?_eq_getElem hi] at h
    exact .inl ⟨vs[i], List.getElem?_eq_getElem hi, (Option.some.inj h).symm⟩
  · rw [List.getElem?_append_right (by simpa using hi), List.getElem?_replicate] at h
    split at h
    · exact .inr (Option.some.inj h).symm
    · cases h
theorem start_at {i : Nat} {v : V} (h : vs[i]? = some v) : (start N vs)[i]? = some (some v) := by
  unfold start
  have hi := (List.getElem?_eq_some_iff.mp h).1
  rw [List.getElem?_append_left (by simpa using hi), List.getElem?_map, h]
  rfl
theorem start_iv (hN : N.length = fi.n + m) {F : Hp} {ds : List D} (g : Grow F H) (hv : vs.length = fi.n) (hd : ds.length = fi.n) (args : ∀ j v d, vs[j]? = some v → ds[j]? = some d → ArgR K F H fi.ix j v d) :
    Iv K ⟨H, F, psOf fi.ix vs, []⟩ F H (start N vs) (startD fi.ix m 0 ds) := by
  have hps : ∀ p ∈ psOf fi.ix vs, ∃ j, fi.ix = some j ∧ p.1 = j ∧ vs[j]? = some (.ref p.2) := fun p hp => by
    unfold psOf at hp
    cases hix : fi.ix with
    | none => rw [hix] at hp; cases hp
    | some j =>
      rw [hix] at hp
      simp only at hp
      split at hp
      · rename_i a e
        rw [List.mem_singleton.mp hp]
        exact ⟨j, rfl, rfl, e⟩
      · cases hp
  have hoa : ∀ i a, OA (start N vs) (startD fi.ix m 0 ds) i a → fi.ix = some i ∧ vs[i]? = some (.ref a) := fun i a ⟨z1, d, z2⟩ => by
    rcases start_get z1 with ⟨v, h1, h2⟩ | h1
    · cases h2
      rcases z2 with z2 | z2
      · rcases startD_get _ _ _ _ _ _ z2 with ⟨d', _, e⟩ | e
        · split at e <;> cases e
        · cases e
      · rcases startD_get _ _ _ _ _ _ z2 with ⟨d', _, e⟩ | e
        · rw [Nat.zero_add] at e
          split at e
          · rename_i hix
            exact ⟨hix, h1⟩
          · cases e
        · cases e
    · cases h1
  refine ⟨⟨g, fun _ _ => rfl, fun _ _ e _ => e, fun _ e => e⟩, ?_, fun i o s h1 h2 => ?_, fun i j a z1 z2 => ?_, fun p hp => ?_, fun p hp => by cases hp⟩
  · rw [startD_len]
    unfold start
    rw [List.length_append, List.length_map, List.length_replicate]
    omega
  · rcases startD_get _ _ _ _ _ _ h2 with ⟨d, e1, e2⟩ | e
    · rw [Nat.zero_add] at e2
      rcases start_get h1 with ⟨v, e3, e4⟩ | e3
      · subst e4
        have r := args i v d e3 e1
        unfold ArgR at r
        split at e2
        · rename_i hix
          rw [if_pos hix] at r
          subst e2
          obtain ⟨a, rfl, f, o⟩ := r
          refine ⟨a, rfl, f, ?_, o⟩
          show a ∈ (psOf fi.ix vs).map (·.2)
          unfold psOf
          rw [hix]
          simp only [e3]
          exact List.mem_cons_self
        · rename_i hix
          rw [if_neg hix] at r
          subst e2
          exact ⟨v, rfl, r⟩
      · exfalso
        have hi := (List.getElem?_eq_some_iff.mp e1).1
        rw [hd, ← hv] at hi
        rw [start_at (List.getElem?_eq_getElem hi)] at h1
        rw [e3] at h1
        cases h1
    · subst e
      trivial
  · have := (hoa i a z1).1.symm.trans (hoa j a z2).1
    exact Option.some.inj this
  · obtain ⟨j, h1, h2, h3⟩ := hps p hp
    subst h2
    have hj : p.1 < ds.length := by rw [hd, ← hv]; exact (List.getElem?_eq_some_iff.mp h3).1
    exact ⟨start_at h3, ds[p.1], startD_io _ _ _ _ _ _ (List.getElem?_eq_getElem hj) (by rw [Nat.zero_add]; exact h1)⟩
theorem body_run (hN : N.length = fi.n + m) {F : Hp} {ds : List D} {Wx : XW} {Qd : Rv → D → Prop} (g : Grow F H) (hv : vs.length = fi.n) (hd : ds.length = fi.n) (args : ∀ j v d, vs[j]? = some v → ds[j]? = some d → ArgR K F H fi.ix j v d)
    (q : ∀ v r c F' H', Ext ⟨H, F, psOf fi.ix vs, []⟩ F' H' → RetR K H F' H' v r → (∀ p ∈ psOf fi.ix vs, F' p.2 = none ∧ OwnAt K F' H' p.2 c) → Qd r c → Q v H') (x : XOk mg ⟨H, F, psOf fi.ix vs, []⟩ Wx E)
    (h : w Wx ⟨fun σ => Qd (.d .none) (ioC fi.ix σ), fun r σ => Qd r (ioC fi.ix σ), fun _ => False, fun _ => False⟩ (startD fi.ix m 0 ds)) :
    tDS K mg E w { nx := fun _ H' => Q .non H', rt := Q } (start N vs) H := by
  have hps : ∀ p ∈ psOf fi.ix vs, ∃ j, fi.ix = some j ∧ p.1 = j ∧ vs[j]? = some (.ref p.2) := fun p hp => by
    unfold psOf at hp
    cases hix : fi.ix with
    | none => rw [hix] at hp; cases hp
    | some j =>
      rw [hix] at hp
      simp only at hp
      split at hp
      · rename_i a e
        rw [List.mem_singleton.mp hp]
        exact ⟨j, rfl, rfl, e⟩
      · cases hp
  have I := start_iv (K := K) (m := m) hN g hv hd args
  have fin : ∀ {v r σ' F' H' σd'}, Iv K ⟨H, F, psOf fi.ix vs, []⟩ F' H' σ' σd' → RvR K ⟨H, F, psOf fi.ix vs, []⟩ F' H' σ' σd' v r → Qd r (ioC fi.ix σd') → Q v H' := fun {v r σ' F' H' σd'} I' rr hq => by
    refine q v r _ F' H' I'.toExt ?_ (fun p hp => ?_) hq
    · cases r with
      | d y => exact rr
      | f y =>
        obtain ⟨a, e, f⟩ := rr
        exact ⟨a, e, f.fz, f.h0, f.at_⟩
    · obtain ⟨j, h1, h2, h3⟩ := hps p hp
      obtain ⟨p1, c, p2⟩ := I'.par p hp
      obtain ⟨a, e, f, _, o⟩ := I'.sl _ _ _ p1 p2
      cases e
      have : ioC fi.ix σd' = c := by
        unfold ioC
        rw [h1]
        simp only [← h2, p2]
      rw [this]
      exact ⟨f, o⟩
  exact ⟨_, F, _, Wx, _, I, x, h, ⟨fun σ' F' H' σd' I' _ hq => fin (r := .d .none) I' (Dp.non) hq, fun v r σ' F' H' σd' I' rr _ hq => fin I' rr hq, fun _ _ _ _ _ _ z => z.elim, fun _ _ _ _ _ _ z => z.elim⟩⟩
end

section
variable {P : Program} {w : World} {K : PySem.W.Frag} {mg : Str → Option Value} {base : Heap} {x qual : Str} {params : Arguments} {body : List Stmt} {scope : Scope} {dvs : List V} {kws : List (Str × V)} {f : Addr} {fd : FuncData} {N ps : List Str} {k m : Nat} {fi : FI} {ws : WS}
theorem def_n (F : FunD K x qual params body scope dvs kws f fd) (S : FnScope N ps scope) (hp : ps.length = fi.n) (hN : N.length = fi.n + m) (rd : ReadsN fi m ws)
    (hb : ∀ (cdv : Value) (A : Around) (outer : List Env) (s : Shared) (H : Hp) (E : XK), Room k (A.deeper (envOfC qual scope s.heap.objs.size f cdv)) → DSs (cxOf (L2.CX P w) P w K mg base N qual scope f cdv A outer s H E).nox EF body ws) :
    FnOk P w K mg base (L2.CX P w) (k + 1) f fd ps (spD K mg fi) := by
  refine F.ok S (fun vs H Q E h => ?_) (fun cdv A outer s H vs Q E hr h => ?_)
  · obtain ⟨_, _, _, _, _, hv, _⟩ := h
    rw [hv, hp]
  · obtain ⟨Fz, ds, Wx, Qd, g, hv, hd, args, hs, q, xo⟩ := h
    exact ⟨_, (hb cdv A outer s H E hr).nox, body_run hN g hv hd args q xok_no (rd ds Qd Wx hd hs)⟩
theorem def_x (F : FunD K x qual params body scope dvs kws f fd) (S : FnScope N ps scope) (hp : ps.length = fi.n) (hN : N.length = fi.n + m) (rd : Reads fi m ws)
    (hb : ∀ (cdv : Value) (A : Around) (outer : List Env) (s : Shared) (H : Hp) (E : XK), Room k (A.deeper (envOfC qual scope s.heap.objs.size f cdv)) → DSs (cxOf (L2.CX P w) P w K mg base N qual scope f cdv A outer s H E) E body ws) :
    FnOk P w K mg base (L2.CX P w) (k + 1) f fd ps (spD K mg fi) := by
  refine F.ok S (fun vs H Q E h => ?_) (fun cdv A outer s H vs Q E hr h => ?_)
  · obtain ⟨_, _, _, _, _, hv, _⟩ := h
    rw [hv, hp]
  · obtain ⟨Fz, ds, Wx, Qd, g, hv, hd, args, hs, q, xo⟩ := h
    exact ⟨_, hb cdv A outer s H E hr, body_run hN g hv hd args q xo (rd ds Qd Wx hd hs)⟩
end
end DL
end L2
set_option Elab.async false
set_option maxRecDepth 100000
set_option maxHeartbeats 1000000
/-! The data layer, part 7: list comprehensions as expressions, several targets, changes of own lists, further calls. -/
namespace L2
open PySem PySem.Spec PyProof.Rows
namespace DL

def wtYes : WT := fun _ σd Q => Q true σd
section
variable {X : Cx} {E : XK} {e a c : Expr} {pos : Pos} {vs : List Nat}
abbrev DTs (X : Cx) (ifs : List Expr) (w : WT) : Prop := PTs X ifs (tDT X.K X.mg EF w)
theorem dts_nil : DTs X [] wtYes := ⟨fun pins s σ H Q I h => by
  obtain ⟨b, F, σd, W, Qd, I2, x, h, q⟩ := h
  exact pts_nil.run pins s σ H Q I (q true H F σd I2 (Grow.refl F) h)⟩
theorem dts_one {w : WT} (h : DT X EF c w) : DTs X [c] w := pts_one h
theorem de_lc {elt tg iter : Expr} {ifs : List Expr} {scope : Scope} {own : List (Str × Nat)} {wi : WI} {g : WG} {t : WT} {w : WE} (hc : X.calm = true) (hN : X.N.Nodup) (hi : DI X E tg iter wi) (ok : BlkOk X.N X.env.scope scope own) (hv : own.map (·.2) = vs)
    (hg : ∀ (s : Shared) (H : Hp) (C : Addr) (cl : List (Str × Addr)) (fp : List Addr), DG (X.blk s H scope (compEnvC scope cl C X.env) fp) vs tg g) (ht : ∀ (s : Shared) (H : Hp) (C : Addr) (cl : List (Str × Addr)) (fp : List Addr), DTs (X.blk s H scope (compEnvC scope cl C X.env) fp) ifs t)
    (he : ∀ (s : Shared) (H : Hp) (C : Addr) (cl : List (Str × Addr)) (fp : List Addr), DE (X.blk s H scope (compEnvC scope cl C X.env) fp) EF elt w) (hs : ∀ x, foldedSetIterable iter X.env x = pure x) :
    DE X E (.ListComp elt [⟨tg, iter, ifs, 0⟩] scope pos) (wLc wi vs g t w) := by
  subst hv
  exact (pe_lc hc hN hi ok hg ht he hs).imp fun _ _ _ h => lc_ok h
theorem ds_setLc {i : Nat} {y : Str} {py spos : Pos} {elt tg iter : Expr} {ifs : List Expr} {scope : Scope} {own : List (Str × Nat)} {wi : WI} {g : WG} {t : WT} {w : WE} (hc : X.calm = true) (hN : X.N.Nodup) (hy : X.N[i]? = some y) (hyl : X.env.scope.names.lookup y = some .local)
    (hsw : swapsWith (.ListComp elt [⟨tg, iter, ifs, 0⟩] scope pos) (some (.Name y py)) spos.line X.env = pure true) (hi : DI X E tg iter wi) (ok : BlkOk X.N X.env.scope scope own) (hv : own.map (·.2) = vs)
    (hg : ∀ (s : Shared) (H : Hp) (C : Addr) (cl : List (Str × Addr)) (fp : List Addr), DG (X.blk s H scope (compEnvC scope cl C X.env) fp) vs tg g) (ht : ∀ (s : Shared) (H : Hp) (C : Addr) (cl : List (Str × Addr)) (fp : List Addr), DTs (X.blk s H scope (compEnvC scope cl C X.env) fp) ifs t)
    (he : ∀ (s : Shared) (H : Hp) (C : Addr) (cl : List (Str × Addr)) (fp : List Addr), DE (X.blk s H scope (compEnvC scope cl C X.env) fp) EF elt w) (hs : ∀ x, foldedSetIterable iter X.env x = pure x) :
    DS X E (.Assign [.Name y py] (.ListComp elt [⟨tg, iter, ifs, 0⟩] scope pos) spos) (wSet i (wLc wi vs g t w)) := by
  subst hv
  refine (ps_setLc (wi := tDI X.K X.mg E wi) (g := tDG X.K (own.map (·.2)) g) (tt := tDT X.K X.mg EF t) (te := tD X.K X.mg EF w) hc hN hy hyl hsw hi ok hg ht he hs).imp fun D σ H ⟨b, F, σd, W, Dd, I, x, h, q⟩ => ?_
  exact lc_ok (K := X.K) (mg := X.mg) (E := E) ⟨b, F, σd, W, _, I, x, h, fun v H' F' r σd' I' g rr hr => q.nx _ F' H' _ (I'.asg rr hr.1) g hr.2⟩

/-! ### several targets -/
def wSets2 (i j : Nat) (w u : WE) : WS := fun X D' σd => wRs [w, u] X σd fun rs σ1 => match rs with
  | [r1, r2] => noIo σ1 i ∧ noIo σ1 j ∧ D'.nx ((σ1.set i (slOf r1)).set j (slOf r2))
  | _ => False
def wSets3 (i j l : Nat) (w u z : WE) : WS := fun X D' σd => wRs [w, u, z] X σd fun rs σ1 => match rs with
  | [r1, r2, r3] => noIo σ1 i ∧ noIo σ1 j ∧ noIo σ1 l ∧ D'.nx (((σ1.set i (slOf r1)).set j (slOf r2)).set l (slOf r3))
  | _ => False
end
section
variable {K : PySem.W.Frag} {mg : Str → Option Value} {E : XK} {b : Bs} {F F' H H' : Hp} {σ σ' : St} {σd σd' : SD} {X : XW}
theorem noIo_set {i j : Nat} {r : Rv} (h : noIo σd j) (hi : noIo σd i) : noIo (σd.set i (slOf r)) j := by
  unfold noIo at h hi ⊢
  by_cases z : i = j
  · subst z
    have hl : i < σd.length := by
      cases e : σd[i]? with
      | none => rw [e] at h; exact h.elim
      | some s => exact (List.getElem?_eq_some_iff.mp e).1
    rw [List.getElem?_set_self hl]
    cases r <;> exact trivial
  · rw [List.getElem?_set_ne z]
    exact h
theorem noIo_lt {i : Nat} (h : noIo σd i) : i < σd.length := by
  unfold noIo at h
  cases e : σd[i]? with
  | none => rw [e] at h; exact h.elim
  | some s => exact (List.getElem?_eq_some_iff.mp e).1
/-- the rest of several values, behind a store of the first one -/
theorem RvsR.asg {i : Nat} {v : V} {r : Rv} (hi : i < σ.length) (hd : i < σd.length) : ∀ {vs : List V} {rs : List Rv} {b : Bs}, (∀ y c, r = .f y → v = .ref c → ∃ p ∈ b.T, p.1 = c) → RvsR K F H σ σd b vs rs → RvsR K F H (σ.set i (some v)) (σd.set i (slOf r)) b vs rs
  | [], [], _, _, _ => trivial
  | u :: vs, .d x :: rs, b, n, h => ⟨h.1, RvsR.asg hi hd n h.2⟩
  | u :: vs, .f x :: rs, b, n, ⟨a, o, e, f, ho, h⟩ => ⟨a, o, e, f.asg (fun y c e1 e2 z => by
      obtain ⟨p, hp, e3⟩ := n y c e1 e2
      exact f.nt p hp (e3.trans z)) hi hd, ho, RvsR.asg hi hd (fun y c e1 e2 => let ⟨p, hp, e3⟩ := n y c e1 e2; ⟨p, List.mem_cons_of_mem _ hp, e3⟩) h⟩
theorem RvsR.dropT {t : Addr × HO} : ∀ {vs : List V} {rs : List Rv} {b : Bs} {T : List (Addr × HO)}, RvsR K F H σ σd { b with T := T ++ t :: b.T } vs rs → RvsR K F H σ σd { b with T := T ++ b.T } vs rs
  | [], [], _, _, _ => trivial
  | u :: vs, .d x :: rs, b, T, h => ⟨h.1, RvsR.dropT h.2⟩
  | u :: vs, .f x :: rs, b, T, ⟨a, o, e, f, ho, h⟩ => ⟨a, o, e, ⟨f.fz, f.h0, f.at_, f.no, fun p hp => f.nt p (by
      rcases List.mem_append.mp hp with hp | hp
      · exact List.mem_append_left _ hp
      · exact List.mem_append_right _ (List.mem_cons_of_mem _ hp))⟩, ho, RvsR.dropT (b := b) (T := (a, o) :: T) h⟩
theorem RvsR.step {v : V} {vs : List V} {r : Rv} {rs : List Rv} {i : Nat} (I : Iv K b F H σ σd) (h : RvsR K F H σ σd b (v :: vs) (r :: rs)) (n : noIo σd i) : Iv K b F H (σ.set i (some v)) (σd.set i (slOf r)) ∧ RvsR K F H (σ.set i (some v)) (σd.set i (slOf r)) b vs rs := by
  have hd := noIo_lt n
  have hi : i < σ.length := by rw [← I.len]; exact hd
  cases r with
  | d x => exact ⟨I.asg (r := .d x) h.1 n, RvsR.asg hi hd (fun y c e _ => by cases e) h.2⟩
  | f x =>
    obtain ⟨a, o, rfl, f, ho, h⟩ := h
    refine ⟨I.asg (r := .f x) ⟨a, rfl, f⟩ n, RvsR.dropT (T := []) (t := (a, o)) (RvsR.asg hi hd (fun y c e1 e2 => ?_) h)⟩
    cases e2
    exact ⟨(a, o), List.mem_cons_self, rfl⟩
theorem RvsR.two {vs : List V} {r1 r2 : Rv} (h : RvsR K F H σ σd b vs [r1, r2]) : ∃ v w, vs = [v, w] := by
  cases vs with
  | nil => cases r1 <;> exact h.elim
  | cons v t =>
    have h2 : ∃ b', RvsR K F H σ σd b' t [r2] := by
      cases r1 with
      | d x => exact ⟨_, h.2⟩
      | f x => obtain ⟨_, _, _, _, _, h⟩ := h; exact ⟨_, h⟩
    obtain ⟨b', h2⟩ := h2
    cases t with
    | nil => cases r2 <;> exact h2.elim
    | cons w t =>
      have h3 : ∃ b', RvsR K F H σ σd b' t [] := by
        cases r2 with
        | d x => exact ⟨_, h2.2⟩
        | f x => obtain ⟨_, _, _, _, _, h⟩ := h2; exact ⟨_, h⟩
      obtain ⟨b'', h3⟩ := h3
      cases t with
      | nil => exact ⟨v, w, rfl⟩
      | cons _ _ => exact h3.elim
theorem RvsR.three {vs : List V} {r1 r2 r3 : Rv} (h : RvsR K F H σ σd b vs [r1, r2, r3]) : ∃ v w z, vs = [v, w, z] := by
  cases vs with
  | nil => cases r1 <;> exact h.elim
  | cons v t =>
    have h2 : ∃ b', RvsR K F H σ σd b' t [r2, r3] := by
      cases r1 with
      | d x => exact ⟨_, h.2⟩
      | f x => obtain ⟨_, _, _, _, _, h⟩ := h; exact ⟨_, h⟩
    obtain ⟨b', h2⟩ := h2
    obtain ⟨w, z, rfl⟩ := h2.two
    exact ⟨v, w, z, rfl⟩
end
section
variable {X : Cx} {E : XK} {e a c d : Expr} {pos : Pos} {vs : List Nat}
theorem ds_par {i j : Nat} {x y : Str} {w u : WE} {px py pt : Pos} {kt k2 pt2} (hc : X.calm = true) (hN : X.N.Nodup) (hi : X.N[i]? = some x) (hj : X.N[j]? = some y) (hij : i ≠ j)
    (hx : X.env.scope.names.lookup x = some .local) (hy : X.env.scope.names.lookup y = some .local) (ha : DE X E a w) (hb : DE X E c u) (hs1 : starEach [a, c] X.env = (false, eval a X.env) :: starEach [c] X.env) (hs2 : starEach [c] X.env = (false, eval c X.env) :: starEach [] X.env)
    (hw : swappedStores [.Tuple [.Name x px, .Name y py] kt pt] (.Tuple [a, c] k2 pt2) X.env = pure (some [x, y]))
    (hs : swapsWithSole [.Tuple [.Name x px, .Name y py] kt pt] (.Tuple [a, c] k2 pt2) pos.line X.env = pure false) :
    DS X E (.Assign [.Tuple [.Name x px, .Name y py] kt pt] (.Tuple [a, c] k2 pt2) pos) (wSets2 i j w u) :=
  (ps_par hc hN hi hj hij hx hy (ta := tRs X.K X.mg E [w, u]) (pa_cons ha (pa_cons hb pa_nil hs2) hs1) hw hs).imp fun D' σ H ⟨b, F, σd, W, Dd, I, xo, h, q⟩ => by
    refine tRs_run I xo h fun vs H1 F1 rs σ1 I1 g1 rr h1 => ?_
    split at h1
    · obtain ⟨n1, n2, h1⟩ := h1
      obtain ⟨v, w', rfl⟩ := rr.two
      obtain ⟨I2, r2⟩ := RvsR.step I1 rr n1
      obtain ⟨I3, _⟩ := RvsR.step I2 r2 (noIo_set n2 n1)
      exact ⟨v, w', rfl, q.nx _ F1 H1 _ I3 g1 h1⟩
    · exact h1.elim
theorem ds_par3 {i j l : Nat} {x y z : Str} {w u t : WE} {px py pz pt : Pos} {kt k2 pt2} (hc : X.calm = true) (hN : X.N.Nodup) (hi : X.N[i]? = some x) (hj : X.N[j]? = some y) (hl : X.N[l]? = some z) (hij : i ≠ j) (hil : i ≠ l) (hjl : j ≠ l)
    (hx : X.env.scope.names.lookup x = some .local) (hy : X.env.scope.names.lookup y = some .local) (hz : X.env.scope.names.lookup z = some .local) (ha : DE X E a w) (hb : DE X E c u) (hd : DE X E d t)
    (hs1 : starEach [a, c, d] X.env = (false, eval a X.env) :: starEach [c, d] X.env) (hs2 : starEach [c, d] X.env = (false, eval c X.env) :: starEach [d] X.env) (hs3 : starEach [d] X.env = (false, eval d X.env) :: starEach [] X.env)
    (hw : swappedStores [.Tuple [.Name x px, .Name y py, .Name z pz] kt pt] (.Tuple [a, c, d] k2 pt2) X.env = pure (some [x, y, z]))
    (hs : swapsWithSole [.Tuple [.Name x px, .Name y py, .Name z pz] kt pt] (.Tuple [a, c, d] k2 pt2) pos.line X.env = pure false) :
    DS X E (.Assign [.Tuple [.Name x px, .Name y py, .Name z pz] kt pt] (.Tuple [a, c, d] k2 pt2) pos) (wSets3 i j l w u t) :=
  (ps_par3 hc hN hi hj hl hij hil hjl hx hy hz (ta := tRs X.K X.mg E [w, u, t]) (pa_cons ha (pa_cons hb (pa_cons hd pa_nil hs3) hs2) hs1) hw hs).imp fun D' σ H ⟨b, F, σd, W, Dd, I, xo, h, q⟩ => by
    refine tRs_run I xo h fun vs H1 F1 rs σ1 I1 g1 rr h1 => ?_
    split at h1
    · obtain ⟨n1, n2, n3, h1⟩ := h1
      obtain ⟨v, w', z', rfl⟩ := rr.three
      obtain ⟨I2, r2⟩ := RvsR.step I1 rr n1
      obtain ⟨I3, r3⟩ := RvsR.step I2 r2 (noIo_set n2 n1)
      obtain ⟨I4, _⟩ := RvsR.step I3 r3 (noIo_set (noIo_set n3 n1) (noIo_set n2 n1))
      exact ⟨v, w', z', rfl, q.nx _ F1 H1 _ I4 g1 h1⟩
    · exact h1.elim
/-- a target of several names gets data -/
def wAsg (w : WE) (g : WG) : WS := fun X D' σd => w X σd (dz fun d σ1 => g d σ1 D'.nx)
theorem ds_asg {tg : Expr} {w : WE} {g : WG} (he : DE X E e w) (hg : DG X vs tg g) (hs : swapsWithSole [tg] e pos.line X.env = pure false) (hw : swappedStores [tg] e X.env = pure none) (h1 : (assignEach [tg] X.env).map (·.2) = [assign tg X.env]) :
    DS X E (.Assign [tg] e pos) (wAsg w g) :=
  (ps_asg he hg hs hw h1).imp fun D' σ H ⟨b, F, σd, W, Dd, I, x, h, q⟩ => by
    refine tD_dz I x h fun v H1 F1 d σ1 I1 g1 r1 h1 => ⟨b, F1, σ1, d, _, I1, r1, h1, fun σ' σd' I2 _ h2 => q.nx σ' F1 H1 σd' I2 g1 h2⟩
end

/-! ### own lists changed in place -/
def mutL (σd : SD) (i : Nat) : Option (List D) := match σd[i]? with
  | some (.own (.list l)) => some l
  | some (.io (.list l)) => some l
  | _ => none
section
variable {K : PySem.W.Frag} {mg : Str → Option Value} {E : XK} {b : Bs} {F F' H H' : Hp} {σ σ' : St} {σd σd' : SD} {X : XW}
theorem Iv.mutL (I : Iv K b F H σ σd) {i : Nat} {l : List D} (e : mutL σd i = some l) : ∃ a xs, OA σ σd i a ∧ σ[i]? = some (some (.ref a)) ∧ H a = some (.lst xs) ∧ DpAll K F xs l ∧ F a = none := by
  unfold DL.mutL at e
  split at e
  · rename_i l' q
    cases e
    obtain ⟨o, h1, a, rfl, f, _, xs, h2, h3⟩ := I.get q
    exact ⟨a, xs, ⟨h1, _, .inl q⟩, h1, h2, h3, f⟩
  · rename_i l' q
    cases e
    obtain ⟨o, h1, a, rfl, f, _, xs, h2, h3⟩ := I.get q
    exact ⟨a, xs, ⟨h1, _, .inr q⟩, h1, h2, h3, f⟩
  · cases e
/-- the object of a slot is changed -/
theorem Iv.mut (I : Iv K b F H σ σd) {i : Nat} {a : Addr} {o : HO} {c : D} (oa : OA σ σd i a) (hc : OwnAt K F (upd H a o) a c) : Iv K b F (upd H a o) σ (putS σd i c) := by
  obtain ⟨h1, d, h2⟩ := oa
  have far : ∀ j k, OA σ σd j k → j ≠ i → k ≠ a := fun j k z n e => n (I.apart j i a (e ▸ z) ⟨h1, d, h2⟩)
  have fa : F a = none ∧ (b.H0 a = none ∨ a ∈ b.io) := by
    rcases h2 with h2 | h2
    · obtain ⟨a', e, f, h0, _⟩ := I.sl i _ _ h1 h2
      cases e
      exact ⟨f, .inl h0⟩
    · obtain ⟨a', e, f, h0, _⟩ := I.sl i _ _ h1 h2
      cases e
      exact ⟨f, .inr h0⟩
  have ext : Ext b F (upd H a o) := by
    refine ⟨fun x u e => ?_, I.old, fun x u e hx => ?_, fun x hx => ?_⟩
    · rw [upd_ne (ne_of_none e fa.1)]
      exact I.sub _ _ e
    · have : x ≠ a := fun z => by
        subst z
        rcases fa.2 with f | f
        · rw [f] at e; cases e
        · exact hx f
      rw [upd_ne this]
      exact I.keep x u e hx
    · by_cases z : x = a
      · rw [z, upd_same]; exact fun z => by cases z
      · rw [upd_ne z]; exact I.trk x hx
  have hi : i < σd.length := by
    rcases h2 with h2 | h2
    · exact (List.getElem?_eq_some_iff.mp h2).1
    · exact (List.getElem?_eq_some_iff.mp h2).1
  have hset : ∃ s, putS σd i c = σd.set i s ∧ ((s = .own c ∧ σd[i]? = some (.own d)) ∨ (s = .io c ∧ σd[i]? = some (.io d))) := by
    unfold putS
    rcases h2 with h2 | h2
    · rw [h2]; exact ⟨_, rfl, .inl ⟨rfl, rfl⟩⟩
    · rw [h2]; exact ⟨_, rfl, .inr ⟨rfl, rfl⟩⟩
  obtain ⟨s, es, hs⟩ := hset
  rw [es]
  have oaE : ∀ {j k}, OA σ (σd.set i s) j k → OA σ σd j k := fun {j k} ⟨z1, d', z2⟩ => by
    by_cases q : i = j
    · subst q
      exact ⟨z1, d, h2⟩
    · rw [List.getElem?_set_ne q] at z2
      exact ⟨z1, d', z2⟩
  refine ⟨ext, by rw [List.length_set]; exact I.len, fun j v t e1 e2 => ?_, fun j k e z1 z2 => I.apart j k e (oaE z1) (oaE z2), fun p hp => ?_, fun p hp => ?_⟩
  · by_cases q : i = j
    · subst q
      rw [List.getElem?_set_self hi] at e2
      cases e2
      rw [h1] at e1
      cases e1
      rcases hs with ⟨rfl, h3⟩ | ⟨rfl, h3⟩
      · obtain ⟨a', e', f, h0, _⟩ := I.sl i _ _ h1 h3
        cases e'
        exact ⟨a, rfl, f, h0, hc⟩
      · obtain ⟨a', e', f, h0, _⟩ := I.sl i _ _ h1 h3
        cases e'
        exact ⟨a, rfl, f, h0, hc⟩
    · rw [List.getElem?_set_ne q] at e2
      have r := I.sl j v t e1 e2
      cases t with
      | un => trivial
      | val d => exact r
      | own d2 =>
        obtain ⟨k, e, f, h0, r⟩ := r
        subst e
        exact ⟨k, rfl, f, h0, r.mono (Grow.refl F) (upd_ne (far j k ⟨e1, d2, .inl e2⟩ (Ne.symm q)))⟩
      | io d2 =>
        obtain ⟨k, e, f, h0, r⟩ := r
        subst e
        exact ⟨k, rfl, f, h0, r.mono (Grow.refl F) (upd_ne (far j k ⟨e1, d2, .inr e2⟩ (Ne.symm q)))⟩
  · obtain ⟨p1, d', p2⟩ := I.par p hp
    by_cases q : i = p.1
    · rw [← q] at p1 p2 ⊢
      rcases hs with ⟨_, h3⟩ | ⟨rfl, h3⟩
      · rw [h3] at p2; cases p2
      · exact ⟨p1, c, List.getElem?_set_self hi⟩
    · rw [List.getElem?_set_ne q]
      exact ⟨p1, d', p2⟩
  · obtain ⟨t1, t2, t3, t4⟩ := I.tmp p hp
    exact ⟨by rw [upd_ne (Ne.symm (t4 i a ⟨h1, d, h2⟩))]; exact t1, t2, t3, fun j k z => t4 j k (oaE z)⟩
end

/-- xs.append(e) -/
def wApp (i : Nat) (w : WE) : WE := fun X σd Q => (∃ l, mutL σd i = some l) ∧ w X σd (dz fun d σ1 => ∃ l, mutL σ1 i = some l ∧ l.length < sizeLine ∧ Q (.d .none) (putS σ1 i (.list (l ++ [d]))))
/-- xs.pop() -/
def wPop (i : Nat) : WE := fun _ σd Q => ∃ l d, mutL σd i = some l ∧ l[l.length - 1]? = some d ∧ Q (.d d) (putS σd i (.list l.dropLast))
/-- xs.pop(k) -/
def wPopAt (i : Nat) (o : Opd) : WE := fun X σd Q => (∃ l, mutL σd i = some l) ∧ wO o X σd fun a σ1 => ∃ l j k d, rs σ1 a = some (.int j) ∧ mutL σ1 i = some l ∧ -(2 ^ 63) ≤ j ∧ j < 2 ^ 63 ∧ seqIndex? j l.length = some k ∧ l[k]? = some d ∧ Q (.d d) (putS σ1 i (.list (l.eraseIdx k)))
/-- xs[j] = e -/
def wSub (i : Nat) (o : Opd) (w : WE) : WS := fun X D' σd => w X σd (dz fun d σ1 => (∃ l, mutL σ1 i = some l) ∧ wO o X σ1 fun a σ2 => ∃ l j k, rs σ2 a = some (.int j) ∧ mutL σ2 i = some l ∧ ixN l.length j = some k ∧ D'.nx (putS σ2 i (.list (l.set k d))))
/-- xs.index(e) -/
def pIndex : P2
  | .list l, d, Q => ∃ j, flatD d = true ∧ l.all flatD = true ∧ l.findIdx? (fun y => eqF y d) = some j ∧ Q (.d (.int (j : Nat)))
  | _, _, _ => False

section
variable {X : Cx} {E : XK} {e a c : Expr} {pos : Pos}
theorem mutL_get {K : PySem.W.Frag} {b : Bs} {F H : Hp} {σ : St} {σd : SD} (I : Iv K b F H σ σd) {i : Nat} {l : List D} (h : mutL σd i = some l) : ∃ v, σ[i]? = some (some v) := by
  obtain ⟨a, _, _, h, _⟩ := I.mutL h
  exact ⟨_, h⟩
theorem de_append {i : Nat} {x : Str} {w : WE} {p apos cpos : Pos} (hN : X.N[i]? = some x) (hv : Vis X.env.scope x) (hd : (x == ("__debug__" : Str)) = false) (hcd : (x == ("__classdict__" : Str)) = false) (he : DE X E e w)
    (hbase : attributeBase (.Name x p) "append" X.env (eval (.Name x p) X.env) = eval (.Name x p) X.env)
    (hfew : ((backTo cpos (starEach (e :: []) X.env)).all (fun x => !x.1) && (backToKw cpos (keywordEach [] X.env)).all (fun x => x.1.isSome)
      && decide ((e :: []).length + ([] : List Keyword).length + (if ([] : List Keyword).isEmpty then 0 else 1) < 30)) = true)
    (hline : (apos.endLine == cpos.line) = true) (hs : starEach (e :: []) X.env = (false, eval e X.env) :: starEach [] X.env) (hpl : (backTo cpos (starEach [] X.env)).any (·.1) = false) :
    DE X E (.Call (.Attribute (.Name x p) "append" apos) [e] [] cpos) (wApp i w) :=
  (pe_bm (o := .Name x p) PySem.F.plainAttrs_list PySem.F.slot_list_append PySem.F.type_list_append mt_append (pe_var hN hv hd hcd) (pa_cons he pa_nil hs) hbase hfew hline hs hpl).imp fun σ H Q ⟨b, F, σd, W, Qd, I, xo, ⟨⟨l0, e0⟩, h⟩, q⟩ => by
    obtain ⟨a0, xs0, oa0, h0, h0', _⟩ := I.mutL e0
    refine ⟨.ref a0, h0, .inl ⟨rfl, xs0, SqL.of h0'⟩, tD_dz I xo h fun v H1 F1 d σ1 I1 g1 r1 ⟨l, e1, hz, h1⟩ => ?_⟩
    obtain ⟨a1, xs, oa1, hσ, hH, dp, _⟩ := I1.mutL e1
    rw [h0] at hσ
    cases hσ
    refine ⟨a0, xs, v, rfl, rfl, hH, by rw [dpa_len dp]; exact hz, ?_⟩
    exact q _ _ F1 (.d .none) _ (I1.mut oa1 (c := .list (l ++ [d])) ⟨xs ++ [v], upd_same, dpa_app dp (.cons r1 .nil)⟩) g1 Dp.non h1
theorem de_pop {i : Nat} {x : Str} {p apos cpos : Pos} (hN : X.N[i]? = some x) (hv : Vis X.env.scope x) (hd : (x == ("__debug__" : Str)) = false) (hcd : (x == ("__classdict__" : Str)) = false)
    (hbase : attributeBase (.Name x p) "pop" X.env (eval (.Name x p) X.env) = eval (.Name x p) X.env) (hline : (apos.endLine == cpos.line) = true) :
    DE X E (.Call (.Attribute (.Name x p) "pop" apos) [] [] cpos) (wPop i) :=
  (pe_bm0 (o := .Name x p) PySem.F.plainAttrs_list PySem.F.slot_list_pop PySem.F.type_list_pop mt_pop (pe_var hN hv hd hcd) hbase hline).imp fun σ H Q ⟨b, F, σd, W, Qd, I, xo, ⟨l, d, e0, hl, h⟩, q⟩ => by
    obtain ⟨a0, xs0, oa0, h0, h0', dp, _⟩ := I.mutL e0
    obtain ⟨v, hv, r⟩ := dpa_get dp hl
    refine ⟨.ref a0, h0, .inl ⟨rfl, xs0, SqL.of h0'⟩, a0, xs0, v, rfl, rfl, h0', by rw [dpa_len dp]; exact hv, ?_⟩
    exact q _ _ F (.d d) _ (I.mut oa0 (c := .list l.dropLast) ⟨xs0.dropLast, upd_same, dpa_dropLast dp⟩) (Grow.refl F) r h
theorem de_popAt {i : Nat} {x : Str} {o : Opd} {p apos cpos : Pos} (hN : X.N[i]? = some x) (hv : Vis X.env.scope x) (hd : (x == ("__debug__" : Str)) = false) (hcd : (x == ("__classdict__" : Str)) = false) (he : DO X E e o)
    (hbase : attributeBase (.Name x p) "pop" X.env (eval (.Name x p) X.env) = eval (.Name x p) X.env)
    (hfew : ((backTo cpos (starEach (e :: []) X.env)).all (fun x => !x.1) && (backToKw cpos (keywordEach [] X.env)).all (fun x => x.1.isSome)
      && decide ((e :: []).length + ([] : List Keyword).length + (if ([] : List Keyword).isEmpty then 0 else 1) < 30)) = true)
    (hline : (apos.endLine == cpos.line) = true) (hs : starEach (e :: []) X.env = (false, eval e X.env) :: starEach [] X.env) (hpl : (backTo cpos (starEach [] X.env)).any (·.1) = false) :
    DE X E (.Call (.Attribute (.Name x p) "pop" apos) [e] [] cpos) (wPopAt i o) :=
  (pe_bm (o := .Name x p) PySem.F.plainAttrs_list PySem.F.slot_list_pop PySem.F.type_list_pop mt_popAt (pe_var hN hv hd hcd) (pa_cons he pa_nil hs) hbase hfew hline hs hpl).imp fun σ H Q ⟨b, F, σd, W, Qd, I, xo, ⟨⟨l0, e0⟩, h⟩, q⟩ => by
    obtain ⟨a0, xs0, oa0, h0, h0', _⟩ := I.mutL e0
    refine ⟨.ref a0, h0, .inl ⟨rfl, xs0, SqL.of h0'⟩, tO_run I xo h fun v H1 F1 av σ1 I1 g1 r1 ⟨l, j, k, d, e1, e2, b1, b2, hk, hl, h1⟩ => ?_⟩
    obtain ⟨a1, xs, oa1, hσ, hH, dp, _⟩ := I1.mutL e2
    rw [h0] at hσ
    cases hσ
    obtain ⟨y, hy, r⟩ := dpa_get dp hl
    rw [(I1.bv r1 e1).int]
    refine ⟨a0, xs, j, k, y, rfl, rfl, hH, b1, b2, by rw [dpa_len dp]; exact hk, hy, ?_⟩
    exact q _ _ F1 (.d d) _ (I1.mut oa1 (c := .list (l.eraseIdx k)) ⟨xs.eraseIdx k, upd_same, dpa_erase k dp⟩) g1 r h1
theorem ds_sub {i : Nat} {x : Str} {o : Opd} {w : WE} {ix : Expr} {p tpos : Pos} (hN : X.N[i]? = some x) (hv : Vis X.env.scope x) (hd : (x == ("__debug__" : Str)) = false) (hcd : (x == ("__classdict__" : Str)) = false) (he : DE X E e w) (hi : DO X E ix o)
    (ha : ∀ v, assign (.Subscript (.Name x p) ix tpos) X.env v = (do
      let ov ← holding [v] (eval (.Name x p) X.env)
      let iv ← holding [v, ov] (eval ix X.env)
      standAt tpos
      holding [v, ov, iv] (setItem ov iv v)
      release [v, ov, iv] []))
    (hs : swapsWithSole [.Subscript (.Name x p) ix tpos] e pos.line X.env = pure false) (hw : swappedStores [.Subscript (.Name x p) ix tpos] e X.env = pure none) (h1 : (assignEach [.Subscript (.Name x p) ix tpos] X.env).map (·.2) = [assign (.Subscript (.Name x p) ix tpos) X.env]) :
    DS X E (.Assign [.Subscript (.Name x p) ix tpos] e pos) (wSub i o w) :=
  (ps_asg he (pg_sub (pe_var hN hv hd hcd) hi set_list ha) hs hw h1).imp fun D' σ H ⟨b, F, σd, W, Dd, I, xo, h, q⟩ => by
    refine tD_dz I xo h fun v H1 F1 d σ1 I1 g1 r1 ⟨⟨l0, e0⟩, h1⟩ => ?_
    obtain ⟨a0, xs0, oa0, h0, h0', _⟩ := I1.mutL e0
    refine ⟨.ref a0, h0, tO_run I1 xo h1 fun u H2 F2 av σ2 I2 g2 r2 ⟨l, j, k, e1, e2, hk, h2⟩ => ?_⟩
    obtain ⟨a1, xs, oa1, hσ, hH, dp, _⟩ := I2.mutL e2
    rw [h0] at hσ
    cases hσ
    rw [(I2.bv r2 e1).int]
    refine ⟨a0, xs, j, k, rfl, rfl, hH, by rw [dpa_len dp]; exact hk, ?_⟩
    exact q.nx _ F2 _ _ (I2.mut oa1 (c := .list (l.set k d)) ⟨xs.set k v, upd_same, dpa_set k dp (dp_mono g2 r1)⟩) (g1.trans g2) h2
/-- x += e -/
def wAug (i : Nat) (o : Opd) : WS := fun X D' σd => (∃ d, rs σd (.b i) = some d ∧ match d with
    | .int j => wO o X σd fun a σ1 => ∃ k, rs σ1 a = some (.int k) ∧ noIo σ1 i ∧ D'.nx (σ1.set i (.val (.int (j + k))))
    | .list _ => wO o X σd fun a σ1 => ∃ l m, mutL σ1 i = some l ∧ rs σ1 a = some (.list m) ∧ l.length + m.length ≤ sizeLine ∧ D'.nx (putS σ1 i (.list (l ++ m)))
    | _ => False)
def wAugSub (i : Nat) (o : Opd) : WS := fun X D' σd => (∃ j, rs σd (.b i) = some (.int j) ∧ wO o X σd fun a σ1 => ∃ k, rs σ1 a = some (.int k) ∧ noIo σ1 i ∧ D'.nx (σ1.set i (.val (.int (j - k)))))
/-- xs += ys, ys any list that is read -/
def rExtA (K : PySem.W.Frag) : R2 := fun x y H Q => ∃ l b xs zs, x = .ref l ∧ y = .ref b ∧ H l = some (.lst xs) ∧ SqL K H b zs ∧ xs.length + zs.length ≤ sizeLine ∧ Q (.ref l) (upd H l (.lst (xs ++ zs)))
end
end DL
end L2
set_option Elab.async false
set_option maxRecDepth 100000
set_option maxHeartbeats 1000000
/-! The data layer, part 8: dicts, +=, sorted, ranges as lists, isinstance, constants of the module, raise. -/
namespace L2
open PySem PySem.Spec PyProof.Rows
namespace DL

/-! ### keys -/
mutual
def beqK : D → D → Bool
  | .int a, .int b => a == b
  | .str a, .str b => a == b
  | .tuple a, .tuple b => beqKs a b
  | _, _ => false
def beqKs : List D → List D → Bool
  | [], [] => true
  | a :: r, b :: t => beqK a b && beqKs r t
  | _, _ => false
end
theorem beqK_key (a b : Key) : beqK (keyD a) (keyD b) = decide (a = b) := by
  cases a <;> cases b <;> simp [keyD, beqK] <;> rfl
theorem beqKs_key : ∀ a b : List Key, beqKs (a.map keyD) (b.map keyD) = decide (a = b)
  | [], [] => by simp [beqKs]
  | [], _ :: _ => by simp [beqKs]
  | _ :: _, [] => by simp [beqKs]
  | a :: r, b :: t => by
    rw [List.map_cons, List.map_cons, beqKs, beqK_key, beqKs_key r t]
    by_cases h : a = b <;> by_cases h2 : r = t <;> simp [h, h2]
theorem beqK_keyT (a b : List Key) : beqK (keyT a) (keyT b) = decide (a = b) := by
  unfold keyT
  rw [beqK, beqKs_key]
def valD (kvs : List (D × D)) (k : D) : Option D := (kvs.find? fun p => beqK p.1 k).map (·.2)
def putD (kvs : List (D × D)) (k v : D) : List (D × D) := if (kvs.any fun p => beqK p.1 k) = true then kvs.map (fun p => if beqK p.1 k = true then (p.1, v) else p) else kvs ++ [(k, v)]
section
variable {K : PySem.W.Frag} {F : Hp} {κ : Type} [DecidableEq κ] {f : κ → D} (hf : ∀ a b, beqK (f a) (f b) = decide (a = b))
include hf
theorem pair_val {es : List (κ × V)} {kvs : List (D × D)} (h : Paired (fun p q => q.1 = f p.1 ∧ Dp K F p.2 q.2) es kvs) (k : κ) :
    (valV es k = none ∧ valD kvs (f k) = none) ∨ ∃ v d, valV es k = some v ∧ valD kvs (f k) = some d ∧ Dp K F v d := by
  induction h with
  | nil => exact .inl ⟨rfl, rfl⟩
  | @cons p q ps qs r t ih =>
    obtain ⟨q1, q2⟩ := q
    obtain ⟨rfl, r2⟩ := r
    by_cases e : p.1 = k
    · refine .inr ⟨p.2, q2, valV_pos e, ?_, r2⟩
      simp [valD, List.find?_cons, hf, e]
    · rw [valV_neg e]
      have : valD ((f p.1, q2) :: qs) (f k) = valD qs (f k) := by simp [valD, List.find?_cons, hf, e]
      rw [this]
      exact ih
theorem pair_any {es : List (κ × V)} {kvs : List (D × D)} (h : Paired (fun p q => q.1 = f p.1 ∧ Dp K F p.2 q.2) es kvs) (k : κ) : (kvs.any fun q => beqK q.1 (f k)) = es.any fun p => decide (p.1 = k) := by
  induction h with
  | nil => rfl
  | @cons p q ps qs r t ih => rw [List.any_cons, List.any_cons, ih, r.1, hf]
theorem pair_put {es : List (κ × V)} {kvs : List (D × D)} (h : Paired (fun p q => q.1 = f p.1 ∧ Dp K F p.2 q.2) es kvs) (k : κ) {v : V} {d : D} (r : Dp K F v d) :
    Paired (fun p q => q.1 = f p.1 ∧ Dp K F p.2 q.2) (putK es k v) (putD kvs (f k) d) := by
  unfold putK putD
  rw [pair_any hf h k]
  split
  · rename_i hh
    clear hh
    induction h with
    | nil => exact .nil
    | @cons p q ps qs r1 t ih =>
      rw [List.map_cons, List.map_cons]
      refine .cons ?_ ih
      rw [r1.1, hf]
      by_cases e : p.1 = k
      · rw [if_pos e, if_pos (decide_eq_true e)]
        exact ⟨rfl, r⟩
      · rw [if_neg e, if_neg (by simpa using e)]
        exact r1
  · rename_i hh
    clear hh
    induction h with
    | nil => exact .cons ⟨rfl, r⟩ .nil
    | cons r1 t ih => exact .cons r1 ih
end
theorem paired_len {α β : Type} {R : α → β → Prop} : ∀ {l : List α} {m : List β}, Paired R l m → l.length = m.length
  | _, _, .nil => rfl
  | _, _, .cons _ t => by rw [List.length_cons, List.length_cons, paired_len t]
def keyOf : D → Option Key
  | .int i => some (.inl i)
  | .str s => some (.inr s)
  | _ => none
theorem keyOf_eq {d : D} {k : Key} (h : keyOf d = some k) : d = keyD k := by
  cases d <;> simp [keyOf] at h <;> subst h <;> rfl
theorem key_bv {K : PySem.W.Frag} {F H : Hp} {v : V} {k : Key} (r : BV K F H v (keyD k)) : v = kV k := by
  cases k with
  | inl i => exact r.int
  | inr s => exact r.str

/-- {}, of keys that are ints and texts, or of tuples -/
def wDnew : WE := fun _ σd Q => Q (.f (.dict [])) σd ∨ Q (.f (.dict [(.none, .none)])) σd
section
variable {K : PySem.W.Frag} {mg : Str → Option Value} {E : XK} {b : Bs} {F F' H H' : Hp} {σ σ' : St} {σd σd' : SD} {W : XW}
theorem Iv.frO (I : Iv K b F H σ σd) {p : Addr} (hp : H p = none) {o : HO} {x : D} (r : OwnAt K F (upd H p o) p x) : Fr1 K b F (upd H p o) σ σd p x := by
  refine ⟨?_, ?_, r, fun i z => ?_, fun t ht z => ?_⟩
  · cases e : F p with
    | none => rfl
    | some o => rw [I.sub _ _ e] at hp; cases hp
  · cases e : b.H0 p with
    | none => rfl
    | some o => exact absurd hp (I.trk p (by rw [e]; exact fun z => by cases z))
  · obtain ⟨z1, d, z2⟩ := z
    rcases z2 with z2 | z2
    · obtain ⟨a, e, _, _, q⟩ := I.sl i _ _ z1 z2
      cases e
      obtain ⟨o, ho, _⟩ := q.some
      rw [hp] at ho; cases ho
    · obtain ⟨a, e, _, _, q⟩ := I.sl i _ _ z1 z2
      cases e
      obtain ⟨o, ho, _⟩ := q.some
      rw [hp] at ho; cases ho
  · have := (I.tmp t ht).1
    rw [z, hp] at this; cases this
/-- a new object -/
theorem Ends1.own {Qd : Rv → Prop} {Q : VK} (e : Ends1 K b F σ σd Qd Q) (I : Iv K b F H σ σd) {p : Addr} (hp : H p = none) {o : HO} {x : D} (r : OwnAt K F (upd H p o) p x) (q : Qd (.f x)) : Q (.ref p) (upd H p o) :=
  e _ _ F (.f x) (I.laid _ hp) (Grow.refl F) ⟨p, rfl, I.frO hp r⟩ q
theorem _root_.L2.PE.or {X : Cx} {e : Expr} {t t' : TE} (h : PE X e t) (h' : PE X e t') : PE X e (fun σ H Q => t σ H Q ∨ t' σ H Q) := ⟨fun pins s σ H Q I q => by
  rcases q with q | q
  · exact h.run pins s σ H Q I q
  · exact h'.run pins s σ H Q I q⟩
end
section
variable {X : Cx} {E : XK} {e a c : Expr} {pos : Pos}
theorem de_dnew : DE X E (.Dict [] [] pos) wDnew :=
  (PE.or pe_dnewK pe_dnewT).imp fun σ H Q ⟨b, F, σd, W, Qd, I, x, h, q⟩ => by
    rcases h with h | h
    · exact .inl fun p hp => q _ _ F (.f (.dict [])) σd (I.laid _ hp) (Grow.refl F) ⟨p, rfl, I.frO hp (.inl ⟨[], upd_same, .nil⟩)⟩ h
    · exact .inr fun p hp => q _ _ F (.f (.dict [(.none, .none)])) σd (I.laid _ hp) (Grow.refl F) ⟨p, rfl, I.frO hp (.inr ⟨[], [], rfl, upd_same, .nil⟩)⟩ h
end

/-! ### x[k] = v, of a list or a dict -/
def mutK (σd : SD) (i : Nat) : Option (List (D × D)) := match σd[i]? with
  | some (.own (.dict l)) => some l
  | some (.io (.dict l)) => some l
  | _ => none
/-- the keys are ints or texts -/
def isKD : List (D × D) → Prop
  | [] => True
  | p :: _ => p.1 ≠ .none
section
variable {K : PySem.W.Frag} {mg : Str → Option Value} {E : XK} {b : Bs} {F F' H H' : Hp} {σ σ' : St} {σd σd' : SD} {X : XW}
theorem Iv.mutK (I : Iv K b F H σ σd) {i : Nat} {l : List (D × D)} (e : mutK σd i = some l) (hl : isKD l) : ∃ a es, OA σ σd i a ∧ σ[i]? = some (some (.ref a)) ∧ H a = some (.dK es) ∧ Paired (fun (p : Key × V) (q : D × D) => q.1 = keyD p.1 ∧ Dp K F p.2 q.2) es l ∧ F a = none := by
  have fin : ∀ {a : Addr}, OwnAt K F H a (.dict l) → ∃ es, H a = some (.dK es) ∧ Paired (fun (p : Key × V) (q : D × D) => q.1 = keyD p.1 ∧ Dp K F p.2 q.2) es l := fun {a} r => by
    rcases r with ⟨es, h1, h2⟩ | ⟨es, r, rfl, h1, h2⟩
    · exact ⟨es, h1, h2⟩
    · exact absurd rfl hl
  unfold DL.mutK at e
  split at e
  · rename_i l' q
    cases e
    obtain ⟨o, h1, a, rfl, f, _, r⟩ := I.get q
    obtain ⟨es, h2, h3⟩ := fin r
    exact ⟨a, es, ⟨h1, _, .inl q⟩, h1, h2, h3, f⟩
  · rename_i l' q
    cases e
    obtain ⟨o, h1, a, rfl, f, _, r⟩ := I.get q
    obtain ⟨es, h2, h3⟩ := fin r
    exact ⟨a, es, ⟨h1, _, .inr q⟩, h1, h2, h3, f⟩
  · cases e
end
def wSubD (i : Nat) (o : Opd) (w : WE) : WS := fun X D' σd => w X σd (dz fun d σ1 => (∃ l, mutK σ1 i = some l ∧ isKD l) ∧ wO o X σ1 fun a σ2 => ∃ l k, rs σ2 a = some (keyD k) ∧ mutK σ2 i = some l ∧ isKD l ∧ l.length < sizeLine ∧ D'.nx (putS σ2 i (.dict (putD l (keyD k) d))))
section
variable {X : Cx} {E : XK} {e : Expr} {pos : Pos}
theorem ds_subD {i : Nat} {x : Str} {o : Opd} {w : WE} {ix : Expr} {p tpos : Pos} (hu : X.A.units + 1 < cLine) (hN : X.N[i]? = some x) (hv : Vis X.env.scope x) (hd : (x == ("__debug__" : Str)) = false) (hcd : (x == ("__classdict__" : Str)) = false) (he : DE X E e w) (hi : DO X E ix o)
    (ha : ∀ v, assign (.Subscript (.Name x p) ix tpos) X.env v = (do
      let ov ← holding [v] (eval (.Name x p) X.env)
      let iv ← holding [v, ov] (eval ix X.env)
      standAt tpos
      holding [v, ov, iv] (setItem ov iv v)
      release [v, ov, iv] []))
    (hs : swapsWithSole [.Subscript (.Name x p) ix tpos] e pos.line X.env = pure false) (hw : swappedStores [.Subscript (.Name x p) ix tpos] e X.env = pure none) (h1 : (assignEach [.Subscript (.Name x p) ix tpos] X.env).map (·.2) = [assign (.Subscript (.Name x p) ix tpos) X.env]) :
    DS X E (.Assign [.Subscript (.Name x p) ix tpos] e pos) (wSubD i o w) :=
  (ps_asg he (pg_sub (pe_var hN hv hd hcd) hi (set_dict hu) ha) hs hw h1).imp fun D' σ H ⟨b, F, σd, W, Dd, I, xo, h, q⟩ => by
    refine tD_dz I xo h fun v H1 F1 d σ1 I1 g1 r1 ⟨⟨l0, e0, k0⟩, h1⟩ => ?_
    obtain ⟨a0, es0, oa0, h0, h0', _⟩ := I1.mutK e0 k0
    refine ⟨.ref a0, h0, tO_run I1 xo h1 fun u H2 F2 av σ2 I2 g2 r2 ⟨l, k, e1, e2, k2, hl, h2⟩ => ?_⟩
    obtain ⟨a1, es, oa1, hσ, hH, dp, _⟩ := I2.mutK e2 k2
    rw [h0] at hσ
    cases hσ
    rw [key_bv (I2.bv r2 e1)]
    refine ⟨a0, _, rfl, .inl ⟨es, k, hH, rfl, by rw [paired_len dp]; exact hl, rfl⟩, ?_⟩
    exact q.nx _ F2 _ _ (I2.mut oa1 (c := .dict (putD l (keyD k) d)) (.inl ⟨putK es k v, upd_same, pair_put beqK_key dp k (dp_mono g2 r1)⟩)) (g1.trans g2) h2
end
end DL
end L2
set_option Elab.async false
set_option maxRecDepth 100000
set_option maxHeartbeats 1000000
/-! The data layer, part 9: +=, sorted, ranges as lists, isinstance, constants of the module, raise. -/
namespace L2
open PySem PySem.Spec PyProof.Rows
namespace DL

/-! ### x += e -/
theorem list_iaddW (l b : Addr) (items items2 : Array Value) (n n2 : Nat) (sl2 : Array (Option Value)) (hs0 : ¬(!items.isEmpty && Builtin.List.listTooLong (items.size + items2.size)) = true) (hs1 : items.size ≤ sizeLine) (hs2 : items.size + items2.size ≤ sizeLine + 1) :
    Meets (Builtin.«list.__iadd__» ⟨[.ref l, .ref b], []⟩) (fun _ R s => s.heap.get? l = some { cls := .type "list", dict := none, data := .seq items n, slots := #[] } ∧
      s.heap.get? b = some { cls := .type "list", dict := none, data := .seq items2 n2, slots := sl2 } ∧
      R (.ok (.ret (Value.ref l))) { s with heap := s.heap.update l (Obj.mapSeq fun x => x ++ items2), toks := s.toks }) :=
  .of_wp fun prog w A R s h => by
    obtain ⟨hp, g, d, tk, os⟩ := s
    obtain ⟨hl, hb, h⟩ := h
    have f1 := AutoSeq1.idx_int
    have f2 := AutoSeq1.sub_tuple_tuple
    have f3 := AutoSeq1.sub_list_list
    have f4 := AutoSeq1.sub_tuple_list
    have f5 := AutoSeq1.sub_list_tuple
    have hz' : (items ++ items2).size ≤ sizeLine + 1 := by
      rw [Array.size_append]
      exact hs2
    wp_walk using (wpAny_updateSeq hl rfl (hz := hs1) (_hz' := hz')), wpAny_loadPart' hl, wpAny_loadPart' hb
    exact ⟨_, rfl, h⟩
theorem ip_extA {X : Cx} : PIp X .Add (rExtA X.K) := by
  intro pins s σ H x y v u Q I rx ry h
  obtain ⟨l, b, xs, zs, rfl, rfl, hH, hB, hz, q⟩ := h
  cases rx
  cases ry
  obtain ⟨z, its, n, r, hl, e⟩ := I.lstM hH
  obtain ⟨its2, r2, ⟨⟨cls2, dd2, data2, sl2⟩, n2, e2, d1, d2, d3⟩, z2⟩ := I.list hB
  have hl2 := r2.length
  simp only at d1 d2 d3
  subst d1 d2 d3
  have hsz : its.toArray.size + its2.toArray.size ≤ sizeLine := by
    rw [List.size_toArray, List.size_toArray]
    omega
  have hlong : ¬ (!its.toArray.isEmpty && Builtin.List.listTooLong (its.toArray.size + its2.toArray.size)) = true := by
    rw [notLongL hsz, Bool.and_false]
    exact Bool.false_ne_true
  refine iadd_road ⟨_, e, rfl⟩ ⟨_, e2, rfl⟩ (call_meets PySem.F.slot_list_iadd ⟨_, e, rfl⟩ PySem.F.entry_list_iadd (PySem.F.args_list_iadd_2 _ _)
    (list_iaddW l b its.toArray its2.toArray n n2 sl2 hlong (by omega) (by omega)) ⟨e, e2, ?_⟩)
  refine ⟨.ref l, _, I.lset (its' := its ++ its2) (t' := s.toks) hH e (by simp) (r.append r2) ?_, rfl, q⟩
  rw [List.length_append]
  omega
theorem PIp.or {X : Cx} {op : Operator} {r r' : TIp} (h : PIp X op r) (h' : PIp X op r') : PIp X op (fun x y H Q => r x y H Q ∨ r' x y H Q) := by
  intro pins s σ H x y v u Q I rx ry q
  rcases q with q | q
  · exact h pins s σ H x y v u Q I rx ry q
  · exact h' pins s σ H x y v u Q I rx ry q
section
variable {K : PySem.W.Frag} {mg : Str → Option Value} {E : XK} {b : Bs} {F F' H H' : Hp} {σ σ' : St} {σd σd' : SD} {W : XW}
theorem set_self {i : Nat} {v : V} (h : σ[i]? = some (some v)) : σ.set i (some v) = σ := by
  apply List.ext_getElem?
  intro j
  by_cases e : i = j
  · subst e
    rw [List.getElem?_set_self (List.getElem?_eq_some_iff.mp h).1, h]
  · rw [List.getElem?_set_ne e]
end
section
variable {X : Cx} {E : XK} {e a c : Expr} {pos : Pos}
theorem ds_aug {i : Nat} {x : Str} {o : Opd} {pos' : Pos} (hN : X.N.Nodup) (hi : X.N[i]? = some x) (hx : Loc X.env.scope x) (he : DO X E e o) (hf : X.fn x = true ∨ X.env.scope.names.lookup x = some .local) :
    DS X E (.AugAssign (.Name x pos') .Add e pos) (wAug i o) :=
  (ps_aug hN hi hx he (PIp.or ip_add ip_extA) hf).imp fun D' σ H ⟨b, F, σd, W, Dd, I, xo, ⟨d, e0, h⟩, q⟩ => by
    obtain ⟨v, hv⟩ := I.slot e0
    refine ⟨v, hv, ?_⟩
    cases d with
    | int j =>
      have hj : v = .int j := (I.bv (v := v) (x := .b i) hv e0).int
      subst hj
      refine tO_run I xo h fun u H1 F1 av σ1 I1 g1 r1 ⟨k, e1, n1, h1⟩ => ?_
      rw [(I1.bv r1 e1).int]
      exact .inl ⟨j, k, rfl, rfl, q.nx _ F1 H1 _ (I1.asg (r := .d (.int (j + k))) (Dp.int _) n1) g1 h1⟩
    | list l0 =>
      refine tO_run I xo h fun u H1 F1 av σ1 I1 g1 r1 ⟨l, m, e1, e2, hz, h1⟩ => ?_
      obtain ⟨a1, xs, oa1, hσ, hH, dp, _⟩ := I1.mutL e1
      rw [hv] at hσ
      cases hσ
      obtain ⟨c1, ys, rfl, s1, s2⟩ := (I1.bv r1 e2).lst I1.toExt
      refine .inr ⟨a1, c1, xs, ys, rfl, rfl, hH, s1, by rw [dpa_len dp, dpa_len s2]; exact hz, ?_⟩
      show D'.nx (σ.set i (some (.ref a1))) _
      rw [set_self hv]
      exact q.nx _ F1 _ _ (I1.mut oa1 (c := .list (l ++ m)) ⟨xs ++ ys, upd_same, dpa_app dp s2⟩) g1 h1
    | _ => exact h.elim
theorem ds_augSub {i : Nat} {x : Str} {o : Opd} {pos' : Pos} (hN : X.N.Nodup) (hi : X.N[i]? = some x) (hx : Loc X.env.scope x) (he : DO X E e o) (hf : X.fn x = true ∨ X.env.scope.names.lookup x = some .local) :
    DS X E (.AugAssign (.Name x pos') .Sub e pos) (wAugSub i o) :=
  (ps_aug hN hi hx he ip_sub hf).imp fun D' σ H ⟨b, F, σd, W, Dd, I, xo, ⟨j, e0, h⟩, q⟩ => by
    obtain ⟨v, hv⟩ := I.slot e0
    refine ⟨v, hv, ?_⟩
    have hj : v = .int j := (I.bv (v := v) (x := .b i) hv e0).int
    subst hj
    refine tO_run I xo h fun u H1 F1 av σ1 I1 g1 r1 ⟨k, e1, n1, h1⟩ => ?_
    rw [(I1.bv r1 e1).int]
    exact ⟨j, k, rfl, rfl, q.nx _ F1 H1 _ (I1.asg (r := .d (.int (j - k))) (Dp.int _) n1) g1 h1⟩
end

/-! ### sorted -/
def insI (x : Int) : List Int → List Int
  | [] => [x]
  | y :: r => if x ≤ y then x :: y :: r else y :: insI x r
def sortI : List Int → List Int
  | [] => []
  | x :: r => insI x (sortI r)
theorem insI_perm (x : Int) : ∀ l, (insI x l).Perm (x :: l)
  | [] => .refl _
  | y :: r => by
    unfold insI
    split
    · exact .refl _
    · exact ((insI_perm x r).cons y).trans (.swap x y r)
theorem sortI_perm : ∀ l, (sortI l).Perm l
  | [] => .refl _
  | x :: r => (insI_perm x (sortI r)).trans ((sortI_perm r).cons x)
theorem insI_sorted (x : Int) : ∀ l, l.Pairwise (· ≤ ·) → (insI x l).Pairwise (· ≤ ·)
  | [], _ => List.pairwise_singleton _ _
  | y :: r, h => by
    obtain ⟨h1, h2⟩ := List.pairwise_cons.mp h
    unfold insI
    split
    · rename_i hxy
      refine List.pairwise_cons.mpr ⟨fun z hz => ?_, h⟩
      rcases List.mem_cons.mp hz with rfl | hz
      · exact hxy
      · have := h1 z hz
        omega
    · rename_i hxy
      refine List.pairwise_cons.mpr ⟨fun z hz => ?_, insI_sorted x r h2⟩
      rcases List.mem_cons.mp ((insI_perm x r).mem_iff.mp hz) with rfl | hz
      · omega
      · exact h1 z hz
theorem sortI_sorted : ∀ l, (sortI l).Pairwise (· ≤ ·)
  | [] => List.Pairwise.nil
  | x :: r => insI_sorted x _ (sortI_sorted r)
theorem sorted_uniq : ∀ {l m : List Int}, l.Perm m → l.Pairwise (· ≤ ·) → m.Pairwise (· ≤ ·) → l = m
  | [], m, p, _, _ => (List.nil_perm.mp p).symm
  | x :: r, [], p, _, _ => absurd p.length_eq (by simp)
  | x :: r, y :: t, p, h1, h2 => by
    obtain ⟨a1, a2⟩ := List.pairwise_cons.mp h1
    obtain ⟨b1, b2⟩ := List.pairwise_cons.mp h2
    have e : x = y := by
      have m1 : x ∈ y :: t := p.mem_iff.mp List.mem_cons_self
      have m2 : y ∈ x :: r := p.mem_iff.mpr List.mem_cons_self
      rcases List.mem_cons.mp m1 with e | m1
      · exact e
      · rcases List.mem_cons.mp m2 with e | m2
        · exact e.symm
        · have := a1 y m2
          have := b1 x m1
          omega
    subst e
    rw [sorted_uniq (List.Perm.cons_inv p) a2 b2]
theorem sortI_uniq {l m : List Int} (p : m.Perm l) (h : m.Pairwise (· ≤ ·)) : m = sortI l := sorted_uniq (p.trans (sortI_perm l).symm) h (sortI_sorted l)
/-- sorted of ints, or of a dict with fewer than 64 keys that are ints -/
def pSorted : PL
  | [.list l], Q => ∃ ns, intsD l = some ns ∧ Q (.f (.list ((sortI ns).map .int)))
  | [.dict kvs], Q => ∃ ns, intsD (kvs.map (·.1)) = some ns ∧ ns.length < 64 ∧ Q (.f (.list ((sortI ns).map .int)))
  | _, _ => False
abbrev rSrt (K : PySem.W.Frag) : List V → Hp → VK → Prop := fun xs H Q => rSortedI K xs H Q ∨ ∃ (a : Addr) (kvs : List (Key × V)) (ks : List Int), xs = [.ref a] ∧ Rd H a (.dK kvs) ∧ kvs.map (·.1) = ks.map Sum.inl ∧ ks.length < 64 ∧
    ∀ (ys : List Int) (p : Addr), ys.Perm ks → ys.Pairwise (· ≤ ·) → H p = none → Q (.ref p) (upd H p (.lst (ys.map V.int)))
theorem _root_.L2.CallR.or2 {X : Cx} {f : Value} {r r' : List V → Hp → VK → Prop} (h : CallR X f r) (h' : CallR X f r') : CallR X f (fun xs H Q => r xs H Q ∨ r' xs H Q) := h.or h'
theorem cr_srt {X : Cx} (hc : X.calm = true) : CallR X (.builtin "sorted") (rSrt X.K) := cr_sortedI.or (call_sortedDI hc)
theorem pair_ints {K : PySem.W.Frag} {F : Hp} : ∀ {es : List (Key × V)} {kvs : List (D × D)} {ns : List Int}, Paired (fun (p : Key × V) (q : D × D) => q.1 = keyD p.1 ∧ Dp K F p.2 q.2) es kvs → intsD (kvs.map (·.1)) = some ns → es.map (·.1) = ns.map Sum.inl
  | _, _, ns, .nil, h => by cases h; rfl
  | p :: es, q :: kvs, ns, .cons r t, h => by
    rw [List.map_cons, r.1] at h
    obtain ⟨k, v⟩ := p
    cases k with
    | inl i =>
      simp only [keyD, intsD] at h
      cases e : intsD (kvs.map (·.1)) with
      | none => rw [e] at h; cases h
      | some ms =>
        rw [e] at h
        cases h
        rw [List.map_cons, List.map_cons, pair_ints t e]
    | inr s => simp [keyD, intsD] at h
theorem ok_sorted {K : PySem.W.Frag} : PLOk K (rSrt K) pSorted := by
  intro b F H σ σd xs ds Q Qd I rx h q
  unfold pSorted at h
  split at h
  · obtain ⟨ns, e, h⟩ := h
    obtain ⟨x, hxs, rz⟩ := bvs_one rx
    subst hxs
    replace rx := rz
    obtain ⟨a, xs, rfl, s1, s2⟩ := rx.lst I.toExt
    rw [intsD_eq e] at s2
    rw [dpa_ints s2] at s1
    refine .inl ⟨a, ns, rfl, s1, fun ns' p p1 p2 hp => ?_⟩
    rw [sortI_uniq p1 p2]
    exact q.list I hp (ints_dpa _) h
  · rename_i kvs
    obtain ⟨ns, e, hl, h⟩ := h
    obtain ⟨x, hxs, rz⟩ := bvs_one rx
    subst hxs
    rcases rz with r | ⟨a, rfl, r⟩
    · cases r
    · rcases r with ⟨es, h1, h2⟩ | ⟨es, r, rfl, h1, h2⟩
      · refine .inr ⟨a, es, ns, rfl, .inl h1, pair_ints h2 e, hl, fun ys p p1 p2 hp => ?_⟩
        rw [sortI_uniq p1 p2]
        exact q.list I hp (ints_dpa _) h
      · simp [intsD] at e
  · exact h.elim

/-! ### list(range(..)) -/
def wLstRg1 (o : Opd) : WE := fun X σd Q => wO o X σd fun a σ1 => ∃ n, rs σ1 a = some (.int n) ∧ RgOk 0 n ∧ Q (.f (.list (rangeD 0 n.toNat))) σ1
def wLstRg2 (o u : Opd) : WE := fun X σd Q => wO o X σd fun a σ1 => wO u X σ1 fun c σ2 => ∃ m n, rs σ2 a = some (.int m) ∧ rs σ2 c = some (.int n) ∧ RgOk m n ∧ Q (.f (.list (rangeD m (n - m).toNat))) σ2
section
variable {K : PySem.W.Frag} {mg : Str → Option Value} {b : Bs} {F F' H H' : Hp} {σ σ' : St} {σd σd' : SD} {W : XW}
theorem rg_dpa {m n : Int} : DpAll K F (rgV m n) (rangeD m (n - m).toNat) := by
  unfold rgV rangeD
  generalize (n - m).toNat = k
  induction k with
  | zero => exact .nil
  | succ k ih =>
    rw [List.range_succ, List.map_append, List.map_append]
    exact dpa_app ih (.cons (.int _) .nil)
end
section
variable {X : Cx} {E : XK} {e a c : Expr} {pos p p2 pos2 : Pos}
theorem de_lstRg1 {o : Opd} (hc : X.calm = true) (hl : Gl X "list") (ml : X.mg "list" = none) (hg : Gl X "range") (hm : X.mg "range" = none) (ha : DO X E a o) (na : starEach [a] X.env = (false, eval a X.env) :: starEach [] X.env)
    (nb : starEach [Expr.Call (.Name "range" p2) [a] [] pos2] X.env = (false, eval (.Call (.Name "range" p2) [a] [] pos2) X.env) :: starEach [] X.env) :
    DE X E (.Call (.Name "list" p) [.Call (.Name "range" p2) [a] [] pos2] [] pos) (wLstRg1 o) :=
  (pe_listRg hc hl ml (prg_1 hg hm ha na) nb).imp fun σ H Q ⟨b, F, σd, W, Qd, I, x, h, q⟩ => by
    refine tO_run I x h fun v H1 F1 av σ1 I1 g1 r1 ⟨n, e1, hr, h1⟩ => ?_
    refine ⟨n, (I1.bv r1 e1).int, hr, fun p hp => ?_⟩
    have := @rg_dpa X.K F1 0 n
    rw [Int.sub_zero] at this
    exact q _ _ F1 (.f (.list _)) σ1 (I1.laid _ hp) g1 ⟨p, rfl, I1.fr1 hp this⟩ h1
theorem de_lstRg2 {o u : Opd} (hc : X.calm = true) (hl : Gl X "list") (ml : X.mg "list" = none) (hg : Gl X "range") (hm : X.mg "range" = none) (ha : DO X E a o) (hb : DO X E c u) (na : starEach [a, c] X.env = (false, eval a X.env) :: starEach [c] X.env)
    (nc : starEach [c] X.env = (false, eval c X.env) :: starEach [] X.env) (np : (backTo pos2 (starEach [c] X.env)).any (·.1) = false)
    (nb : starEach [Expr.Call (.Name "range" p2) [a, c] [] pos2] X.env = (false, eval (.Call (.Name "range" p2) [a, c] [] pos2) X.env) :: starEach [] X.env) :
    DE X E (.Call (.Name "list" p) [.Call (.Name "range" p2) [a, c] [] pos2] [] pos) (wLstRg2 o u) :=
  (pe_listRg hc hl ml (prg_2 hg hm ha hb na nc np) nb).imp fun σ H Q ⟨b, F, σd, W, Qd, I, x, h, q⟩ => by
    refine tO_run I x h fun v H1 F1 av σ1 I1 g1 r1 h1 => tO_run I1 x h1 fun w H2 F2 aw σ2 I2 g2 r2 ⟨m, n, e1, e2, hr, h2⟩ => ?_
    refine ⟨m, n, (I2.bv (r1.mono g2) e1).int, (I2.bv r2 e2).int, hr, fun p hp => ?_⟩
    exact q _ _ F2 (.f (.list _)) σ2 (I2.laid _ hp) (g1.trans g2) ⟨p, rfl, I2.fr1 hp rg_dpa⟩ h2
end

/-! ### isinstance(x, T) -/
def wIsi (T : String) (o : Opd) : WE := fun X σd Q => wO o X σd fun a σ1 => ∃ d, rs σ1 a = some d ∧ Q (.d (.bool (isiB (tyD d) T))) σ1
section
variable {X : Cx} {E : XK} {e a c : Expr} {pos p p2 pos2 : Pos}
theorem de_isi {o : Opd} {T : String} {y : Str} (hT : T = "int" ∨ T = "bool" ∨ T = "str" ∨ T = "tuple" ∨ T = "list") (hg : Gl X "isinstance") (hm : X.mg "isinstance" = none) (gy : Gl X y) (my : X.mg y = none) (by_ : bootBuiltins y = some (.type T)) (hy : y ≠ "__name__") (hyd : (y == ("__debug__" : Str)) = false)
    (ha : DO X E a o) (na : starEach [a, .Name y p2] X.env = (false, eval a X.env) :: starEach [.Name y p2] X.env) (hpl : (backTo pos (starEach [.Name y p2] X.env)).any (·.1) = false) :
    DE X E (.Call (.Name "isinstance" p) [a, .Name y p2] [] pos) (wIsi T o) :=
  (pe_callB call_isi hg hm boot_isinstance (pa_cons ha (pa_cons (pe_bltn gy my by_ (v := .ty T) rfl hy hyd) pa_nil rfl) na) (by decide) (by decide) na hpl).imp fun σ H Q ⟨b, F, σd, W, Qd, I, x, h, q⟩ => by
    refine tO_run I x h fun v H1 F1 av σ1 I1 g1 r1 ⟨d, e1, h1⟩ => ?_
    exact ⟨v, .ty T, _, _, _, rfl, .ty T, tyD_of I1.sub (I1.bv r1 e1), isi_kit d hT, q _ H1 F1 (.d (.bool _)) σ1 I1 g1 (Dp.bl _) h1⟩
end

/-! ### raise X('..') -/
def wRaise (nm : Str) : WS := fun X _ _ => X nm
section
variable {X : Cx} {E : XK} {C : Addr}
theorem ds_raise {x m : Str} {j : Nat} {p p2 pos pos2 : Pos} (hc : X.calm = true) (tk : Takes X (fun cls d _ H => E cls d H)) (q : PySem.W.excIn X.K C He.veBase "ValueError.__new__" = true) (gC : X.mg x = some (.ref C)) (kC : PySem.W.keepIn X.K (.ref C) = true) (r : Raises X (.ref C)) (hg : Gl X x) (hdb : (x == ("__debug__" : Str)) = false) :
    DS X E (.Raise (some (.Call (.Name x p) [.Constant (.str m) j p2] [] pos)) none pos2) (wRaise x) :=
  (ps_raise hc tk (pmk_own PySem.F.excBase_ValueError q gC kC r hg hdb)).imp fun D' σ H ⟨b, F, σd, W, Dd, I, xo, h, _⟩ => xo x C F H h gC I.toExt
end
end DL
end L2
set_option Elab.async false
set_option maxRecDepth 100000
set_option maxHeartbeats 4000000
/-! The data layer, part 14: sorted(set(xs)), ints. -/
namespace L2
open PySem PySem.Spec PyProof.Rows
namespace DL

/-- the empty set's object -/
abbrev so0 (w : World) : Obj := { cls := .type "set", dict := none, data := .set #[] 0 (.fresh 0 0 (!w.params.followText "set-order")) }
section
variable {P : Program} {w : World} {A : Around} {E : Value → Shared → Prop} {s : Shared}
theorem set_lstI {l : Addr} {items : Array Value} (ns : List Int) {Q : Value → Shared → Prop} (hh : A.handled = none) (hl : s.heap.IsList l items) (hit : IntsAre items.toList ns) (hb : ns.length + 1 < scanBound)
    (fin : ∀ (h' : Heap) (tk c : Nat), SetR w h' s.heap.objs.size (fun j => decide (j ∈ ns)) c → c ≤ ns.length → (∀ b o, s.heap.get? b = some o → h'.get? b = some o) → Q (.ref s.heap.objs.size) { s with heap := h', toks := tk }) :
    wpAny (model P w) A (call (.type "set") [.ref l]) Q E s := by
  have size : items.size = ns.length := by
    rw [← Array.length_toList]
    exact IntsAre.length hit
  have at_ : ∀ (i : Nat) (v : Value), items[i]? = some v → ∃ k t, ns[i]? = some k ∧ v = .int k t := fun i v hv => by
    have lt : i < ns.length := by
      rw [← size]
      exact (Array.getElem?_eq_some_iff.mp hv).1
    obtain ⟨t, e⟩ := PyProof.Rows.IntsAre.int_at hit i v (by
      rw [Array.getElem?_toList]
      exact hv)
    refine ⟨ns[i], t, List.getElem?_eq_getElem lt, ?_⟩
    rw [e, List.getD_eq_getElem?_getD, List.getElem?_eq_getElem lt]
    rfl
  obtain ⟨c, tl, hmro⟩ := F.called_set.mro
  have t1 := F.called_set.made
  have t2 := F.called_set.sub
  refine wpAny_call (codeAny_of_tree ?_)
  show wpAny _ _ (callAny (.type "set") ⟨[.ref l], []⟩) _ _ _
  refine wpAny_pure ⟨Code.quiet_builtin _ (by decide +kernel), codeAny_builtin F.entry_type_call ?_⟩
  rw [Around.under_plain (weight_type_call_type "set" [.ref l] []) rfl]
  have t3 := F.called_set.notType
  have t4 := F.called_set.canCreate
  have t5 := F.typeCall_set_1 (.ref l)
  repeat (any_goals (first | assumption | wp_step))
  have made := code_set_led1 (P := P) (w := w) (A := A.in1) (s := s) (.ref l) (E := E) (Q₁ := fun obj s1 => obj = .ref s.heap.objs.size ∧ s1 = { s with heap := s.heap.push (so0 w) }) ⟨rfl, rfl⟩
  refine codeAny_mono made fun r s1 hr => ?_
  rcases r with e | fl
  · exact hr
  cases fl with
  | ret obj =>
    obtain ⟨rfl, rfl⟩ := hr
    have new : (s.heap.push (so0 w)).get? s.heap.objs.size = some (so0 w) := Heap.get?_push_size _ rfl
    have ty : Shared.TypeIs { s with heap := s.heap.push (so0 w) } (.ref s.heap.objs.size) "set" := ⟨_, new, rfl⟩
    have u1 := F.called_set.init.lookup
    have u2 := F.called_set.init.bind (.ref s.heap.objs.size)
    repeat (any_goals (first | assumption | wp_step))
    let W : Value → Shared → Prop := fun r s2 => r = .none ∧ ∃ h' tk c, s2 = { s with heap := h', toks := tk } ∧ SetR w h' s.heap.objs.size (fun j => decide (j ∈ ns)) c ∧ c ≤ ns.length ∧
        ∀ b o, s.heap.get? b = some o → h'.get? b = some o
    refine codeAny_mono (codeAny_call_builtin (R := wants W E) F.called_set.init.plain F.entry_set_init (check_set_init_1 ty ?_)) fun r2 s2 hr2 => ?_
    · obtain ⟨ol, hol, hcl, nl, hdl⟩ := hl
      obtain ⟨ocls, odict, odata, oslots⟩ := ol
      simp only at hcl hdl
      subst hcl
      subst hdl
      have ol1 : (s.heap.push (so0 w)).get? l = some { cls := .type "list", dict := odict, data := .seq items nl, slots := oslots } := Heap.get?_push_of_some _ hol
      have f1 := PySem.F.sub_list_set
      have f2 := PySem.F.sub_list_frozenset
      have f3 : (Value.type "list" == Value.type "dict") = false := by decide
      have il : (s.heap.push (so0 w)).IsList l items := ⟨_, ol1, rfl, nl, rfl⟩
      unfold Builtin.«set.__init__» noKeywords Builtin.Frozenset.updateFrom
      generalize hPI : pyIter = PI
      wp_walk
      subst hPI
      refine wpAny_pyIter_list il (wpAny_bind (wpAny_runValue ?_))
      have lt0 : l < s.heap.objs.size := Heap.lt_size hol
      have hn3 : A.in1.in1.in1.handled = none := by simp [hh]
      have z1 : (s.heap.push (so0 w)).objs.size = s.heap.objs.size + 1 := Heap.size_push ..
      have ne1 : l ≠ (s.heap.push (so0 w)).objs.size := by
        rw [z1]
        exact Nat.ne_of_lt (Nat.lt_succ_of_lt lt0)
      have nin : s.heap.objs.size ∉ [(s.heap.push (so0 w)).objs.size, l] := by
        rw [z1]
        intro z
        rcases List.mem_cons.mp z with z | z
        · exact Nat.ne_of_lt (Nat.lt_succ_self _) z
        · exact Nat.ne_of_gt lt0 (List.mem_singleton.mp z)
      have walk := (Walks.list (prog := P) (w := w) hn3 (s.heap.push (so0 w)).objs.size l ne1 items).toS
      refine set_update_ints walk s.heap.objs.size nin ns size hb at_ items.size 0 _ (by omega) (Nat.zero_le _) ⟨⟨_, Heap.get?_push_size _ rfl, rfl, rfl⟩, il.push _⟩ ⟨0, Nat.le_refl 0, setR_new_at (Heap.get?_push_of_some _ new)⟩ fun s3 c3 hm hc hS => ?_
      obtain ⟨h', g2, d', tk', os'⟩ := s3
      have e1 : g2 = s.gens := hm.gens
      have e2 : d' = s.drawn := hm.drawn
      have e3 : os' = s.os := hm.os
      subst e1 e2 e3
      rw [size] at hc
      refine wpAny_pure (wpAny_pure ⟨rfl, h', tk', c3, rfl, hS, hc, fun b o e => ?_⟩)
      have b0 : b < s.heap.objs.size := Heap.lt_size e
      refine hm.heap b o (fun z => ?_) (Heap.get?_push_of_some _ (Heap.get?_push_of_some _ e))
      rcases List.mem_cons.mp z with z | z
      · exact Nat.ne_of_lt b0 z
      · have z2 := List.mem_singleton.mp z
        rw [z1] at z2
        exact Nat.ne_of_lt (Nat.lt_succ_of_lt b0) z2
    · rcases r2 with e | fl2
      · exact hr2
      cases fl2 with
      | ret r =>
        obtain ⟨rfl, h', tk, c', rfl, g1, g2, g3⟩ := hr2
        repeat (any_goals (first | assumption | wp_step))
        exact fin _ _ _ g1 g2 g3
      | _ => exact hr2.elim
  | _ => exact hr.elim
end
end DL
end L2
set_option Elab.async false
set_option maxRecDepth 100000
set_option maxHeartbeats 4000000
/-! The data layer, part 15: sorted(set(xs)), ints. -/
namespace L2
open PySem PySem.Spec PyProof.Rows
namespace DL
section
variable {P : Program} {w : World} {A : Around} {E : Value → Shared → Prop} {s : Shared}

theorem raw_ints : ∀ (l : List Value), (∀ v ∈ l, ∃ k tk, v = Value.int k tk) → IntsAre l (l.map SrtO.iv)
  | [], _ => .nil
  | v :: l, h => by
    obtain ⟨k, tk, rfl⟩ := h v List.mem_cons_self
    exact .cons k tk (raw_ints l fun u hu => h u (List.mem_cons_of_mem _ hu))
/-- sorted(set), any number of ints below 4096 -/
theorem srt_set {S : Int → Bool} {n : Nat} {a : Addr} {Q : Value → Shared → Prop} (R : SetR w s.heap a S n) (hh : A.handled = none)
    (fin : ∀ s' p (out : List Value) (c : Nat), (∀ b o, s.heap.get? b = some o → s'.heap.get? b = some o) → s'.gens = s.gens → s'.os = s.os → s.heap.objs.size ≤ p → s'.heap.get? p = some (seqObj "list" out.toArray c) →
      IntsAre out (out.map SrtO.iv) → (out.map SrtO.iv).Pairwise (· ≤ ·) → (out.map SrtO.iv).Nodup → (∀ k, k ∈ out.map SrtO.iv ↔ S k = true) → out.length = n → Q (.ref p) s') :
    wpAny (model P w) A (call (.builtin "sorted") [.ref a]) Q E s := by
  obtain ⟨o, es, ep, t, ho, hex, hd, good, nd, mem, hb, hf, hn, ris, led⟩ := R
  have n16 : n ≤ sizeLine := by
    rw [← hn, sizeLine_eq]
    unfold scanBound at hb
    omega
  refine Calls.call_function_entry kind_sorted plain_sorted entry_sorted (args_sorted1 _) ?_
  unfold Builtin.«sorted»
  refine wpAny_bind (m := checkCount "sorted" 1 1 _) (wpAny_pure (wpAny_bind (collect_set (A := A.in1) hh ⟨o, ho, hex.1, hd⟩ hf hb ris led fun s1 vs k1 hz g1 o1 pm => ?_)))
  have len : vs.length = n := by
    rw [pm.length_eq, List.length_map, Array.length_toList]
    exact hn
  have allI : IntsAre vs (vs.map SrtO.iv) := raw_ints vs fun v hv => by
    obtain ⟨e, he, q⟩ := List.mem_map.mp (pm.mem_iff.mp hv)
    obtain ⟨k, tk, h1, _⟩ := good e he
    exact ⟨k, tk, q.symm.trans h1⟩
  have keys : (vs.map SrtO.iv).Perm (es.toList.map L2.keyOf) := by
    have q := pm.map SrtO.iv
    rw [List.map_map] at q
    exact q
  refine wpAny_bind (wpAny_newList ?_ (by rw [len]; exact n16))
  have L0 : (s1.heap.push (seqObj "list" vs.toArray 0)).get? s1.heap.objs.size = some (seqObj "list" vs.toArray 0) := Heap.get?_push_size _ rfl
  refine wpAny_bind (wpAny_holding (wpAny_call_entry slot_list_sort ⟨_, L0, rfl⟩ entry_list_sort (SrtO.list_sort_ord SrtO.swo_int L0 (by rw [len]; exact n16) (fun h2 => SrtO.ints_sortable allI h2) fun out h1 h2 => ⟨_, rfl, ?_⟩) (args_list_sort _)))
  obtain ⟨b1, b2, b3⟩ := SrtO.ints_out allI h1 h2
  obtain ⟨c, hc⟩ := sortedHeap_at (vs := vs) (out := out.toArray) L0
  have pn := b2.trans keys
  refine wpAny_pure ⟨_, rfl, fin _ s1.heap.objs.size out c (fun b u e => ?_) g1 o1 hz hc b1 b3 (pn.nodup_iff.mpr nd) (fun k => by rw [pn.mem_iff, ← mem k]) ?_⟩
  · have q := k1 b u e
    have lt := Heap.lt_size q
    exact (sortedHeap_old (Nat.ne_of_lt lt) (by rw [size_push']; exact Nat.lt_succ_of_lt lt)).trans (Heap.get?_push_of_some _ q)
  · rw [h2.perm.length_eq]
    exact len
end

/-! ### sorted(set(xs)) as an expression -/
def dedI : List Int → List Int
  | [] => []
  | x :: r => if x ∈ r then dedI r else x :: dedI r
theorem ded_mem (k : Int) : ∀ l, k ∈ dedI l ↔ k ∈ l
  | [] => Iff.rfl
  | x :: r => by
    unfold dedI
    split
    · rename_i h
      rw [ded_mem k r]
      constructor
      · exact fun z => List.mem_cons_of_mem _ z
      · intro z
        rcases List.mem_cons.mp z with rfl | z
        · exact h
        · exact z
    · rw [List.mem_cons, List.mem_cons, ded_mem k r]
theorem ded_nodup : ∀ l, (dedI l).Nodup
  | [] => List.nodup_nil
  | x :: r => by
    unfold dedI
    split
    · exact ded_nodup r
    · rename_i h
      exact List.nodup_cons.mpr ⟨fun z => h ((ded_mem x r).mp z), ded_nodup r⟩
theorem ded_len : ∀ l, (dedI l).length ≤ l.length
  | [] => Nat.le_refl _
  | x :: r => by
    unfold dedI
    split
    · exact Nat.le_succ_of_le (ded_len r)
    · exact Nat.succ_le_succ (ded_len r)
/-- sorted(set(xs)) -/
def srtSet (l : List Int) : List Int := sortI (dedI l)
theorem srtSet_mem (k : Int) (l : List Int) : k ∈ srtSet l ↔ k ∈ l := by
  unfold srtSet
  rw [(sortI_perm _).mem_iff, ded_mem]
theorem perm_of_mem : ∀ {l m : List Int}, l.Nodup → m.Nodup → (∀ k, k ∈ l ↔ k ∈ m) → l.Perm m
  | [], m, _, _, h => by
    cases m with
    | nil => exact .nil
    | cons y t => exact absurd ((h y).mpr List.mem_cons_self) (by simp)
  | x :: r, m, h1, h2, h => by
    obtain ⟨a1, a2⟩ := List.nodup_cons.mp h1
    have hx : x ∈ m := (h x).mp List.mem_cons_self
    have p := List.perm_cons_erase hx
    refine (List.Perm.cons x (perm_of_mem a2 (h2.erase x) fun k => ?_)).trans p.symm
    constructor
    · intro z
      have : k ≠ x := fun e => a1 (e ▸ z)
      exact (List.mem_erase_of_ne this).mpr ((h k).mp (List.mem_cons_of_mem _ z))
    · intro z
      have zz := List.mem_of_mem_erase z
      have : k ≠ x := fun e => by
        subst e
        exact absurd z (fun q => (List.Nodup.not_mem_erase h2) q)
      rcases List.mem_cons.mp ((h k).mpr zz) with e | e
      · exact absurd e this
      · exact e
theorem srtSet_uniq {l m : List Int} (p : m.Pairwise (· ≤ ·)) (nd : m.Nodup) (h : ∀ k, k ∈ m ↔ k ∈ l) : m = srtSet l :=
  sortI_uniq (perm_of_mem nd (ded_nodup l) fun k => by rw [h, ded_mem]) p
def wSrtSet (o : Opd) : WE := fun X σd Q => wO o X σd fun a σ1 => ∃ l ns, rs σ1 a = some (.list l) ∧ intsD l = some ns ∧ ns.length + 1 < 4096 ∧ Q (.f (.list ((srtSet ns).map .int))) σ1
section
variable {X : Cx} {E : XK} {a : Expr} {p p2 pos pos2 : Pos}
theorem de_srtSet {o : Opd} (hc : X.calm = true) (gs : Gl X "sorted") (ms : X.mg "sorted" = none) (gt : Gl X "set") (mt : X.mg "set" = none) (ha : DO X E a o) (na : starEach [a] X.env = (false, eval a X.env) :: starEach [] X.env)
    (nb : starEach [Expr.Call (.Name "set" p2) [a] [] pos2] X.env = (false, eval (.Call (.Name "set" p2) [a] [] pos2) X.env) :: starEach [] X.env) :
    DE X E (.Call (.Name "sorted" p) [.Call (.Name "set" p2) [a] [] pos2] [] pos) (wSrtSet o) := by
  refine ⟨fun pins s σ H Q I ⟨b, F, σd, W, Qd, I0, x, h, q⟩ => ?_⟩
  have inner : wpAny (model X.prog X.w) X.A (eval (.Call (.Name "set" p2) [a] [] pos2) X.env) (fun v s2 => ∃ (F1 H1 : Hp) (σ1 : SD) (ns : List Int) (t : Addr) (c : Nat), v = .ref t ∧ Inv X pins σ H1 s2 ∧ SetR X.w s2.heap t (fun j => decide (j ∈ ns)) c ∧ Iv X.K b F1 H1 σ σ1 ∧ Grow F F1 ∧ ns.length + 1 < 4096 ∧
      Qd (.f (.list ((srtSet ns).map .int))) σ1) X.xe s := by
    refine Call_ (ld_blt I gt mt PyProof.Rows.boot_set (PyProof.Rows.callWith_type1 (one_arg (R := fun v H1 => ∃ F1 σ1 l ns, Iv X.K b F1 H1 σ σ1 ∧ Grow F F1 ∧ BV X.K F1 H1 v (.list l) ∧ intsD l = some ns ∧ ns.length + 1 < 4096 ∧ Qd (.f (.list ((srtSet ns).map .int))) σ1)
      ha I (tO_run I0 x h fun v H1 F1 av σ1 I1 g1 r1 ⟨l, ns, e1, e2, e3, h1⟩ => ⟨F1, σ1, l, ns, I1, g1, I1.bv r1 e1, e2, e3, h1⟩) (fun v s2 y H2 I2 r2 ⟨F1, σ1, l, ns, I1, g1, bv, e2, e3, h1⟩ => ?_) na) na))
    obtain ⟨c, xs, rfl, s1, s2'⟩ := bv.lst I1.toExt
    rw [intsD_eq e2] at s2'
    rw [dpa_ints s2'] at s1
    cases r2
    obtain ⟨its, rv, pl, hz⟩ := I2.list s1
    refine set_lstI ns (I2.ok.hd hc) pl.isList (by simpa using ints_of_vals rv) e3 fun h' tk c' R _ keep => ?_
    exact ⟨F1, H2, σ1, ns, _, c', rfl, I2.kept keep, R, I1, g1, e3, h1⟩
  refine wpAny_Call_Name_kw (ld_blt I gs ms boot_sorted ?_)
  refine Calls.callWith_builtin rfl (Calls.evalArgs_plain ?_)
  refine Calls.spliced_cons (wpAny_mono inner (fun v s2 z => ?_) fun _ _ z => z)
  obtain ⟨F1, H1, σ1, ns, t, c, rfl, I2, R, I1, g1, e3, h1⟩ := z
  refine Calls.spliced_nil ?_
  refine srt_set R (I2.ok.hd hc) fun s' p out c' k g os hp hg hi hs nd hm hl => ?_
  have hlen : ((out.map SrtO.iv).map V.int).length ≤ sizeLine := by
    rw [List.length_map, List.length_map, hl, sizeLine_eq]
    obtain ⟨_, _, _, _, _, _, _, _, _, _, hb, _, hn, _⟩ := R
    unfold scanBound at hb
    omega
  have hn : H1 p = none := I2.hok.fresh hp
  have J : Inv X pins σ (upd H1 p (.lst ((out.map SrtO.iv).map V.int))) { s2 with heap := s'.heap, gens := s'.gens, drawn := s'.drawn, toks := s'.toks } :=
    I2.call (ch := []) (Un.laid k hp hn) (I2.hok.laid k hp ⟨hlen, out, c', vals_of_ints hi, hg⟩) (by rw [g]; exact I2.bare) (fun _ z => nomatch z)
  have e : s' = { s2 with heap := s'.heap, gens := s'.gens, drawn := s'.drawn, toks := s'.toks } := by
    obtain ⟨h1, h2, h3, h4, h5⟩ := s'
    have os : h5 = s2.os := os
    rw [os]
  rw [e]
  have eq : out.map SrtO.iv = srtSet ns := srtSet_uniq hs nd fun k => by
    rw [hm k]
    exact decide_eq_true_iff
  rw [eq] at J
  exact ⟨.ref p, _, J, rfl, q _ _ F1 (.f (.list _)) σ1 (I1.laid _ hn) g1 ⟨p, rfl, I1.fr1 hn (ints_dpa _)⟩ h1⟩
end
end DL
end L2
set_option Elab.async false
set_option maxRecDepth 100000
set_option maxHeartbeats 1000000
/-! The data layer, part 16: xs[::k], k 1 or -1. -/
namespace L2
open PySem PySem.Spec PyProof.Rows
namespace DL
section
variable {prog : Program} {w : World} {A : Around} {E : Value → Shared → Prop} {s : Shared}
/-- the steps that are read -/
def StepOk (k : Int) : Prop := k = 1 ∨ k = -1
def byStep {α : Type} (l : List α) (k : Int) : List α := if k = 1 then l else l.reverse
theorem applied_k {sl : Addr} {vl vu vs : Value} {k : Int} {n : Nat} {Q : Int × Int × Nat → Shared → Prop} (hs : s.heap.IsSliceOf sl vl vu vs) (pl : IsPart vl none) (pu : IsPart vu none) (ps : IsPart vs (some k)) (hk : StepOk k)
    (h : Q ((if k = 1 then 0 else (n : Int) - 1), k, n) s) : wpAny (model prog w) A (Builtin.Slice.sliceApplied (.ref sl) (pure (n : Int))) Q E s := by
  obtain ⟨os, hos, hcs, hds⟩ := id hs
  unfold Builtin.Slice.sliceApplied Builtin.Slice.sliceFields
  refine wpAny_bind (wpAny_bind (wpAny_field hos hds (x := vl) rfl (wpAny_bind (wpAny_field hos hds (x := vu) rfl (wpAny_bind (wpAny_field hos hds (x := vs) rfl (wpAny_pure ?_)))))))
  refine wpAny_bind (HT.slicePart_ ps ?_)
  have k0 : ¬ ((k == 0) = true) := fun z => by
    have := eq_of_beq z
    rcases hk with rfl | rfl <;> cases this
  show wpAny _ _ (if (k == 0) = true then _ else _) _ _ s
  rw [if_neg k0]
  refine wpAny_bind (HT.slicePart_ pl (wpAny_bind (HT.slicePart_ pu (wpAny_bind (wpAny_pure ?_)))))
  show wpAny _ _ (match Builtin.Slice.sliceAdjust none none k (n : Int) with | (lo, hi) => pure (lo, k, Builtin.Slice.slicePlaces lo hi k)) _ _ s
  rcases hk with rfl | rfl
  · have e : Builtin.Slice.slicePlaces 0 (n : Int) 1 = n := by
      have := HT.places_gen 0 n
      rw [Nat.sub_zero] at this
      exact this
    show wpAny _ _ (pure ((0 : Int), (1 : Int), Builtin.Slice.slicePlaces 0 (n : Int) 1)) _ _ s
    rw [e]
    exact wpAny_pure h
  · have e : Builtin.Slice.slicePlaces ((n : Int) - 1) (-1) (-1) = n := by
      unfold Builtin.Slice.slicePlaces
      have h1 : ¬ ((-1 : Int) > 0) := by decide
      rw [if_neg h1]
      by_cases hn : ((n : Int) - 1) > -1
      · rw [if_pos hn, show (-(-1) : Int) = 1 by decide, Int.ediv_one]
        omega
      · rw [if_neg hn]
        omega
    show wpAny _ _ (pure ((n : Int) - 1, (-1 : Int), Builtin.Slice.slicePlaces ((n : Int) - 1) (-1) (-1))) _ _ s
    rw [e]
    exact wpAny_pure h
theorem fm_congr {α β : Type} {f g : α → Option β} : ∀ {l : List α}, (∀ x ∈ l, f x = g x) → l.filterMap f = l.filterMap g
  | [], _ => rfl
  | x :: l, h => by
    rw [List.filterMap_cons, List.filterMap_cons, h x List.mem_cons_self, fm_congr fun y hy => h y (List.mem_cons_of_mem _ hy)]
theorem pick_rev (xs : Array Value) : ((List.range xs.size).filterMap fun (m : Nat) => xs[((xs.size : Int) - 1 + (m : Int) * -1).toNat]?).toArray = xs.toList.reverse.toArray := by
  have e : ((List.range xs.size).filterMap fun (m : Nat) => xs[((xs.size : Int) - 1 + (m : Int) * -1).toNat]?) = ((List.range xs.size).map fun k => xs.size - 1 - k).filterMap (xs[·]?) := by
    rw [List.filterMap_map]
    refine fm_congr fun m hm => ?_
    have hm := List.mem_range.mp hm
    have : ((xs.size : Int) - 1 + (m : Int) * -1).toNat = xs.size - 1 - m := by omega
    rw [this]
    rfl
  rw [e, PySem.W.krv_range, List.filterMap_reverse, PySem.W.krv_all]
theorem tup_step {t sl : Addr} {items : Array Value} {vl vu vs : Value} {k : Int} {Q : Value → Shared → Prop} (ht : IsTup s.heap t items) (hs : s.heap.IsSliceOf sl vl vu vs) (pl : IsPart vl none) (pu : IsPart vu none) (ps : IsPart vs (some k)) (hk : StepOk k)
    (h1 : k = 1 → Q (.ref t) s) (h2 : k = -1 → Q (.ref s.heap.objs.size) { s with heap := s.heap.push { cls := .type "tuple", data := .seq items.toList.reverse.toArray } }) (hz : items.size ≤ sizeLine) :
    wpAny (model prog w) A (getItem (.ref t) (.ref sl)) Q E s := by
  obtain ⟨os, hos, hcs, hds⟩ := id hs
  have ty : s.TypeIs (.ref sl) "slice" := ⟨os, hos, hcs⟩
  have ok : sizeOk (.seq items.toList.reverse.toArray) := by
    show items.toList.reverse.toArray.size ≤ sizeLine
    rw [List.size_toArray, List.length_reverse, Array.length_toList]
    exact hz
  unfold getItem
  try with_reducible refine wpAny_holding ?_
  first | refine wpAny_bind (wpAny_pure ?_) | skip
  refine wpAny_bind (wpAny_sequenceKey ht.typeIs (by decide) ?_)
  refine wpAny_bind (wpAny_callSpecial?_slot (name := Str.ofString "__getitem__") ht.typeIs PyProof.Rows.slot_tuple_getitem (wpAny_call_entry PyProof.Rows.slot_tuple_getitem ht.typeIs
    entry_tuple_getitem ?_ (args_tuple_getitem _ _)))
  show wpAny _ _ (Builtin.Tuple.tupleItemsOf (.ref t) >>= _) _ _ s
  refine wpAny_bind (tupleItemsOf_ ht (wpAny_bind (wpAny_typeOf ty ?_)))
  rw [if_pos (by decide)]
  refine wpAny_bind (applied_k hs pl pu ps hk ?_)
  rcases hk with rfl | rfl
  · have yes : ((0 : Int) == 0 && (1 : Int) == 1 && items.size == items.size) = true := by simp
    show wpAny _ _ (if ((0 : Int) == 0 && (1 : Int) == 1 && items.size == items.size) = true then _ else _) _ _ s
    rw [if_pos yes]
    refine wpAny_bind ?_
    show wpAny _ _ (typeOf (.ref t) >>= fun T => pure (T == .type "tuple")) _ _ s
    refine wpAny_bind (wpAny_typeOf ht.typeIs (wpAny_pure ?_))
    have q := h1 rfl
    first
      | rw [if_pos (by decide)]
      | simp only [beq_self_eq_true, if_true]
    first
      | exact wpAny_bind (wpAny_rule (wpAny_pure ⟨_, rfl, wpAny_pure q⟩))
      | exact wpAny_bind (wpAny_rule (wpAny_bind (wpAny_pure (wpAny_pure ⟨_, rfl, wpAny_pure q⟩))))
  · have no : ¬ ((((items.size : Int) - 1) == 0 && (-1 : Int) == 1 && items.size == items.size) = true) := by
      rw [show ((-1 : Int) == 1) = false by decide]
      simp
    show wpAny _ _ (if (((items.size : Int) - 1) == 0 && (-1 : Int) == 1 && items.size == items.size) = true then _ else _) _ _ s
    rw [if_neg no]
    have e : (List.filterMap (fun (m : Nat) => items[((if (-1 : Int) = 1 then 0 else (items.size : Int) - 1) + (m : Int) * -1).toNat]?) (List.range items.size)).toArray = items.toList.reverse.toArray := pick_rev items
    rw [e]
    have q := h2 rfl
    first
      | exact wpAny_bind (m := Builtin.Tuple.tupleExact _) (wpAny_newObj_type (wpAny_pure ⟨_, rfl, wpAny_pure q⟩) ok)
      | exact wpAny_bind (m := Builtin.Tuple.tupleExact _) (wpAny_newObj_type (wpAny_bind (wpAny_pure (wpAny_pure ⟨_, rfl, wpAny_pure q⟩))) ok)
      | exact wpAny_bind (wpAny_bind (m := Builtin.Tuple.tupleExact _) (wpAny_newObj_type (wpAny_pure (wpAny_pure ⟨_, rfl, wpAny_pure q⟩)) ok))
      | exact wpAny_bind (wpAny_bind (m := Builtin.Tuple.tupleExact _) (wpAny_newObj_type (wpAny_pure ⟨_, rfl, wpAny_pure q⟩) ok))
theorem pick_one (xs : Array Value) : slicePick xs none none (some 1) = xs.toList.toArray := by
  unfold slicePick
  have e : sliceBounds none none (some 1) xs.size = (0, (xs.size : Int), 1) := rfl
  rw [e]
  have r : sliceRange 0 (xs.size : Int) 1 = List.range xs.size := by
    have := sliceRange_one 0 xs.size
    rw [Nat.sub_zero] at this
    refine this.trans ?_
    rw [show ((0 + ·) : Nat → Nat) = id from funext fun k => Nat.zero_add k, List.map_id]
  show ((sliceRange 0 (xs.size : Int) 1).filterMap (xs[·]?)).toArray = _
  rw [r, PySem.W.krv_all]
end
/-- e[::k] -/
def wStep (o u : Opd) : WE := fun X σd Q => wO o X σd fun a σ1 => wO u X σ1 fun c σ2 => ∃ d k, rs σ2 a = some d ∧ rs σ2 c = some (.int k) ∧ StepOk k ∧ match d with
  | .list l => Q (.f (.list (byStep l k))) σ2
  | .tuple l => Q (.d (.tuple (byStep l k))) σ2
  | _ => False
theorem byStep_dpa {K : PySem.W.Frag} {F : Hp} {vs : List V} {ds : List D} (h : DpAll K F vs ds) (k : Int) : DpAll K F (byStep vs k) (byStep ds k) := by
  unfold byStep
  split
  · exact h
  · exact dpa_rev h
section
variable {X : Cx} {E : XK} {e st : Expr} {p3 pos : Pos}
theorem de_step {o u : Opd} (he : DO X E e o) (hk : DO X E st u) : DE X E (.Subscript e (.Slice none none (some st) p3) pos) (wStep o u) := by
  refine ⟨fun pins s σ H Q I ⟨b, F, σd, W, Qd, I0, x, h, q⟩ => ?_⟩
  refine Subscript_ (thn (he.run pins s σ H _ I (tO_run I0 x h fun v H1 F1 av σ1 I1 g1 r1 h1 => show ∃ F1 σ1 av, Iv X.K b F1 H1 σ σ1 ∧ Grow F F1 ∧ AVr X.K F1 σ v av ∧ wO u W σ1 _ from ⟨F1, σ1, av, I1, g1, r1, h1⟩))
    fun v s1 ⟨y, H1, J1, rv, F1, σ1, av, I1, g1, r1, h1⟩ => ?_)
  refine wpAny_Slice (thn (po_none.run pins s1 σ H1 (fun o H2 => o = none ∧ H2 = H1) J1 ⟨rfl, rfl⟩) fun vl s2 ⟨l, H2, J2, pl, el, e2⟩ => ?_)
  subst el e2
  refine thn (po_none.run pins s2 σ H2 (fun o H3 => o = none ∧ H3 = H2) J2 ⟨rfl, rfl⟩) fun vu s3 ⟨u', H3, J3, pu, eu, e3⟩ => ?_
  subst eu e3
  have hst : PO X (some st) (tPart (tO X.K X.mg E u)) := po_some hk
  refine thn (hst.run pins s3 σ H3 (fun o H4 => ∃ k F2 σ2 d, o = some k ∧ Iv X.K b F2 H4 σ σ2 ∧ Grow F F2 ∧ BV X.K F2 H4 y d ∧ StepOk k ∧ (match d with
    | .list l => Qd (.f (.list (byStep l k))) σ2
    | .tuple l => Qd (.d (.tuple (byStep l k))) σ2
    | _ => False)) J3 (tO_run I1 x h1 fun w H4 F2 aw σ2 I2 g2 r2 ⟨d, k, e1, e2, hk, h2⟩ => ⟨k, (I2.bv r2 e2).int, k, F2, σ2, d, rfl, I2, g1.trans g2, I2.bv (r1.mono g2) e1, hk, h2⟩)) fun vs s4 ⟨o, H4, J4, ps, k, F2, σ2, d, eo, I2, g2, bv, hk, h2⟩ => ?_
  subst eo
  have J5 : Inv X pins σ H4 { s4 with heap := s4.heap.push { cls := .type "slice", data := .fields #[vl, vu, vs] } } := J4.kept (t' := s4.toks) fun b ob q => Heap.get?_push_of_some _ q
  show wpAny (model X.prog X.w) X.A (subscriptTail e (.Slice none none (some st) p3) v (.ref s4.heap.objs.size)) (EP X pins σ Q) X.xe { s4 with heap := s4.heap.push { cls := .type "slice", data := .fields #[vl, vu, vs] } }
  have so := Heap.IsSliceOf.new s4.heap vl vu vs
  split at h2
  · rename_i l
    obtain ⟨a, xs, rfl, s1', s2'⟩ := bv.lst I2.toExt
    cases rv
    obtain ⟨its, r, pl', hz⟩ := J5.list s1'
    have hsz : its.toArray.size ≤ sizeLine := by
      rw [List.size_toArray, ← r.length]
      exact hz
    refine tail_any (ops := [.ref a, .ref s4.heap.objs.size]) pl'.isList.typeIs PySem.slot_list_getitem.lookup ?_ (by with_unfolding_all rfl)
    refine wpAny_getItem_list_slice pl'.isList so pl pu ps (fun z => by
      rcases hk with rfl | rfl <;> cases z) ?_ hsz
    have pick : slicePick its.toArray none none (some k) = (byStep its k).toArray := by
      rcases hk with rfl | rfl
      · rw [pick_one]; rfl
      · rw [PySem.W.krv_pick]; rfl
    rw [pick]
    have rr : Vals (byStep xs k) (byStep its k) := by
      unfold byStep
      split
      · exact r
      · exact r.reverse
    have hn := J5.hok.fresh (Nat.le_refl _)
    refine ⟨.ref _, _, J5.laid (t' := s4.toks) (o := .lst (byStep xs k)) (fun b ob q => Heap.get?_push_of_some _ q) (Nat.le_refl _) ⟨?_, _, 0, rr, Heap.get?_push_size _ rfl⟩, rfl, q _ _ F2 (.f (.list _)) σ2 (I2.laid _ hn) g2 ⟨_, rfl, I2.fr1 hn (byStep_dpa s2' k)⟩ h2⟩
    have : (byStep xs k).length = xs.length := by
      unfold byStep
      split
      · rfl
      · exact List.length_reverse
    rw [this]
    exact hz
  · rename_i l
    obtain ⟨a, xs, rfl, s0, s1', s2'⟩ := bv.tup I2.toExt
    cases rv
    obtain ⟨its, r, pt, hz⟩ := J5.tuple s1'
    have hsz : its.toArray.size ≤ sizeLine := by
      rw [List.size_toArray, ← r.length]
      exact hz
    refine tail_any (ops := [.ref a, .ref s4.heap.objs.size]) pt.typeIs PyProof.Rows.slot_tuple_getitem.lookup ?_ (by with_unfolding_all rfl)
    refine tup_step pt so pl pu ps hk (fun z => ?_) (fun z => ?_) hsz
    · subst z
      exact ⟨.ref a, H4, J5, rfl, q _ _ F2 (.d (.tuple _)) σ2 I2 g2 (Dp.tup s0 s2') h2⟩
    · subst z
      have hn := J5.hok.fresh (Nat.le_refl _)
      refine ⟨.ref _, _, J5.laid (t' := s4.toks) (o := .tup xs.reverse) (fun b ob q => Heap.get?_push_of_some _ q) (Nat.le_refl _) ⟨?_, _, r.reverse, IsTup.new _ _⟩, rfl,
        q _ _ (upd F2 _ (.tup xs.reverse)) (.d (.tuple _)) σ2 (I2.alloc _ hn) (g2.trans (I2.growq _ hn)) (Dp.tup (.inl (.inl upd_same)) (dpa_mono (I2.growq _ hn) (dpa_rev s2'))) h2⟩
      rw [List.length_reverse]
      exact hz
  · exact h2.elim
end
end DL
end L2
set_option Elab.async false
set_option maxRecDepth 100000
set_option maxHeartbeats 1000000
/-! The data layer, part 10: from the tree of an expression to what it does. -/
namespace L2
open PySem PySem.Spec PyProof.Rows
namespace DL

/-! ### more operations -/
def pIs (neg : Bool) : P2 := fun d e Q => match e with
  | .none => isDct d = false ∧ Q (.d (.bool (if neg then !isN d else isN d)))
  | .bool k => ∃ j, d = .bool j ∧ Q (.d (.bool (if neg then !decide (j = k) else decide (j = k))))
  | _ => False
abbrev rIs2 : R2 := fun x y H Q => (y = .non ∧ Q (.bl (decide (x = .non))) H) ∨ rIsB x y H Q
abbrev rNotIs2 : R2 := fun x y H Q => (y = .non ∧ Q (.bl (!decide (x = .non))) H) ∨ rNotB x y H Q
theorem ok_is {K : PySem.W.Frag} : P2Ok K rIs2 (pIs false) := by
  intro b F H σ σd x y d e Q Qd I rx ry h q
  unfold pIs at h
  split at h
  · exact .inl (ok_isN b F H σ σd x y d .none Q Qd I rx ry ⟨h.1, rfl, h.2⟩ q)
  · obtain ⟨j, rfl, h⟩ := h
    rw [rx.bool, ry.bool]
    exact .inr ⟨_, _, rfl, rfl, q.same I (.bl _) h⟩
  · exact h.elim
theorem ok_isnot {K : PySem.W.Frag} : P2Ok K rNotIs2 (pIs true) := by
  intro b F H σ σd x y d e Q Qd I rx ry h q
  unfold pIs at h
  split at h
  · exact .inl (ok_notN b F H σ σd x y d .none Q Qd I rx ry ⟨h.1, rfl, h.2⟩ q)
  · obtain ⟨j, rfl, h⟩ := h
    rw [rx.bool, ry.bool]
    exact .inr ⟨_, _, rfl, rfl, q.same I (.bl _) h⟩
  · exact h.elim
/-- tuple * int, any number of times that fits -/
def rRepW (K : PySem.W.Frag) : R2 := fun x y H Q => ∃ l k xs, x = .ref l ∧ y = .int k ∧ SqT K H l xs ∧ xs ≠ [] ∧ 2 ≤ k ∧ k.toNat * xs.length ≤ sizeLine ∧ ∀ p, H p = none → Q (.ref p) (upd H p (.tup (List.replicate k.toNat xs).flatten))
theorem op_repW {X : Cx} : OpR X (binaryOp .Mult) (rRepW X.K) := by
  intro pins s σ H x y v u Q I rx ry h
  obtain ⟨l, k, xs, rfl, rfl, hT, hne, h1, hz, q⟩ := h
  cases rx
  obtain ⟨t, rfl⟩ := ry
  obtain ⟨its, r, ⟨⟨cls, dd, data, sl⟩, ho, hc, n, hd⟩, hs⟩ := I.tuple hT
  simp only at hc hd
  subst hc hd
  have hle : its.length = xs.length := r.length.symm
  have hpos : 0 < xs.length := by
    cases xs with
    | nil => exact absurd rfl hne
    | cons a b => exact Nat.succ_pos _
  have hi : its.toArray.isEmpty = false := by
    cases its with
    | nil =>
      rw [← hle] at hpos
      exact absurd hpos (by simp)
    | cons a b => rfl
  have hsz0 : its.toArray.size = xs.length := by rw [List.size_toArray, hle]
  have hk : k.toNat ≤ sizeLine := Nat.le_trans (Nat.le_mul_of_pos_right _ hpos) hz
  rw [sizeLine_eq] at hz hk
  have hm : ((its.toArray.size : Nat) : Int) * k = ((k.toNat * xs.length : Nat) : Int) := by
    rw [hsz0, Int.natCast_mul, Int.toNat_of_nonneg (by omega), Int.mul_comm]
  have c0 : (decide (k < -(2 ^ 63)) || decide (k ≥ 2 ^ 63)) = false := by
    rw [decide_eq_false (by omega), decide_eq_false (by omega)] <;> rfl
  have c1 : (its.toArray.isEmpty || k == 1) = false := by
    rw [hi, Bool.false_or]
    exact beq_eq_false_iff_ne.mpr (by omega)
  have c2 : (decide (k ≤ 0) || its.toArray.isEmpty) = false := by
    rw [hi, Bool.or_false]
    exact decide_eq_false (by omega)
  have c4 : Builtin.Tuple.tupleTooMany (((its.toArray.size : Nat) : Int) * k) = false := by
    unfold Builtin.Tuple.tupleTooMany
    rw [hm, sizeLine_eq]
    exact decide_eq_false (by omega)
  have flen : (List.replicate k.toNat its).flatten.length ≤ sizeLine := by
    rw [PyProof.Rows.lm_len_rep_flat, hle, sizeLine_eq]
    exact hz
  refine wpAny_binaryOp_repeat_ref (T := "tuple") (U := "int") (by decide) ⟨_, ho, rfl⟩ (fun s' => typeIs_int s' k t) noFill_tuple_mul F.fills_int_mul F.slot_int_rmul repeat_tuple F.slot_int_index.lookup
    (call_meets F.slot_int_rmul (typeIs_int s k t) F.entry_int_rmul (F.args_int_rmul_2 _ _) (int_rmul_tuple k t l its.toArray n dd sl)
      ⟨ho, rfl, ⟨_, ho, rfl⟩, call_meets F.slot_tuple_mul ⟨_, ho, rfl⟩ F.entry_tuple_mul (F.args_tuple_mul_2 _ _)
        (tuple_mulW l its.toArray n dd sl k t c0 c1 c2 (by rw [hm]; omega) c4 (by rw [size_rep, List.size_toArray]; exact flen)) ⟨ho, ?_⟩⟩)
  rw [size_rep]
  refine ⟨.ref s.heap.objs.size, _, I.laid (t' := s.toks) (o := .tup (List.replicate k.toNat xs).flatten) (fun b ob q => Heap.get?_push_of_some _ q) (Nat.le_refl _) ?_, rfl, q _ (I.hok.fresh (Nat.le_refl _))⟩
  refine ⟨?_, _, r.rep k.toNat, IsTup.new _ _⟩
  rw [PyProof.Rows.lm_len_rep_flat, sizeLine_eq]
  exact hz
def pMulA : P2
  | .int i, .int j, Q => IntMulOk i j ∧ Q (.d (.int (i * j)))
  | .tuple l, .int k, Q => l ≠ [] ∧ 2 ≤ k ∧ k.toNat * l.length ≤ sizeLine ∧ Q (.d (.tuple (List.replicate k.toNat l).flatten))
  | _, _, _ => False
abbrev rMulA (K : PySem.W.Frag) : R2 := fun x y H Q => rI IntMulOk (fun i j => .int (i * j)) x y H Q ∨ rRepW K x y H Q
theorem rep_dpa {K : PySem.W.Frag} {F : Hp} {vs : List V} {ds : List D} (h : DpAll K F vs ds) : ∀ k : Nat, DpAll K F (List.replicate k vs).flatten (List.replicate k ds).flatten
  | 0 => .nil
  | k + 1 => by
    rw [List.replicate_succ, List.replicate_succ, List.flatten_cons, List.flatten_cons]
    exact dpa_app h (rep_dpa h k)
theorem ok_mulA {K : PySem.W.Frag} : P2Ok K (rMulA K) pMulA := by
  intro b F H σ σd x y d e Q Qd I rx ry h q
  unfold pMulA at h
  split at h
  · rw [rx.int, ry.int]
    exact .inl ⟨_, _, rfl, rfl, h.1, q.same I (.int _) h.2⟩
  · obtain ⟨h1, h2, h3, h⟩ := h
    obtain ⟨a, xs, rfl, _, s1, s2⟩ := rx.tup I.toExt
    rw [ry.int]
    refine .inr ⟨a, _, xs, rfl, rfl, s1, fun z => ?_, h2, by rw [dpa_len s2]; exact h3, fun p hp => q.tup I hp (rep_dpa s2 _) h⟩
    subst z
    cases s2
    exact h1 rfl
  · exact h.elim

/-! ### the static part -/
/-- what a global name stands for -/
inductive GE where
  | fn (fi : FI)
  | fnZ (fi : FI) (j : Nat)
  | blt
  | cst (d : D)
  | exc
structure Sx where
  sc : Scope
  N : List Str
  fnc : Str → Bool
  G : List (Str × GE)
def kindB (sc : Scope) (x : Str) (k : NameKind) : Bool := decide (sc.names.lookup x = some k)
def visB (sc : Scope) (x : Str) : Bool := (kindB sc x .local || (kindB sc x .cell || kindB sc x .free)) && (!(x == ("__debug__" : Str)) && !(x == ("__classdict__" : Str)))
def ixOf : List Str → Str → Option Nat
  | [], _ => none
  | y :: r, x => if y = x then some 0 else (ixOf r x).map (· + 1)
theorem ixOf_ok : ∀ {N : List Str} {x : Str} {i : Nat}, ixOf N x = some i → N[i]? = some x
  | [], _, _, h => by cases h
  | y :: r, x, i, h => by
    unfold ixOf at h
    split at h
    · cases h
      rename_i e
      rw [e]
      rfl
    · cases e : ixOf r x with
      | none => rw [e] at h; cases h
      | some j =>
        rw [e] at h
        cases h
        rw [List.getElem?_cons_succ]
        exact ixOf_ok e
/-- the slot of a name that may be read -/
def rdIx (S : Sx) (x : Str) : Option Nat := if visB S.sc x = true then ixOf S.N x else none
/-- the slot of a name that may be set -/
def wrIx (S : Sx) (x : Str) : Option Nat := if (kindB S.sc x .local || (kindB S.sc x .cell && S.fnc x)) = true then ixOf S.N x else none
/-- a global name -/
def glE (S : Sx) (x : Str) : Option GE := if (kindB S.sc x .globalImplicit && (!(x == ("__debug__" : Str)) && !decide (x = "__name__"))) = true then S.G.lookup x else none
def isBlt (S : Sx) (x : Str) : Bool := match glE S x with
  | some .blt => true
  | _ => false

def GOk (X : Cx) (x : Str) : GE → Prop
  | .fnZ fi _ => ∃ k f fd ps, FnOk X.prog X.w X.K X.mg X.base (L2.CX X.prog X.w) k f fd ps (spD X.K X.mg fi) ∧ Room k X.A ∧ X.mg x = some (.ref f) ∧ PySem.W.keepIn X.K (.ref f) = true ∧ Binds X.K fd ps []
  | .fn fi => ∃ k f fd ps, FnOk X.prog X.w X.K X.mg X.base (L2.CX X.prog X.w) k f fd ps (spD X.K X.mg fi) ∧ Room k X.A ∧ X.mg x = some (.ref f) ∧ PySem.W.keepIn X.K (.ref f) = true ∧ Binds X.K fd ps []
  | .blt => X.mg x = none
  | .cst d => ∃ v u, X.mg x = some u ∧ RelV v u ∧ ∀ F, Dp X.K F v d
  | .exc => ∃ C, X.mg x = some (.ref C) ∧ PySem.W.excIn X.K C He.veBase "ValueError.__new__" = true ∧ PySem.W.keepIn X.K (.ref C) = true ∧ Raises X (.ref C)
structure SOk (X : Cx) (E : XK) (S : Sx) : Prop where
  n : X.N = S.N
  sc : X.env.scope = S.sc
  nd : S.N.Nodup
  calm : X.calm = true
  fnc : ∀ x, S.fnc x = true → X.fn x = true
  g : ∀ x y, S.G.lookup x = some y → GOk X x y
  units : X.A.units + 64 < cLine
  pas : Passes (L2.CX X.prog X.w) X E

section
variable {X : Cx} {E : XK} {S : Sx} (o : SOk X E S) {x : Str}
include o
theorem SOk.rd {i : Nat} (h : rdIx S x = some i) : X.N[i]? = some x ∧ Vis X.env.scope x ∧ (x == ("__debug__" : Str)) = false ∧ (x == ("__classdict__" : Str)) = false := by
  unfold rdIx at h
  split at h
  · rename_i hv
    unfold visB kindB at hv
    simp only [Bool.and_eq_true, Bool.or_eq_true, decide_eq_true_eq, Bool.not_eq_true'] at hv
    rw [o.n, o.sc]
    exact ⟨ixOf_ok h, hv.1, hv.2.1, hv.2.2⟩
  · cases h
theorem SOk.wr {i : Nat} (h : wrIx S x = some i) : X.N[i]? = some x ∧ Loc X.env.scope x ∧ (X.fn x = true ∨ X.env.scope.names.lookup x = some .local) := by
  unfold wrIx at h
  split at h
  · rename_i hv
    unfold kindB at hv
    simp only [Bool.and_eq_true, Bool.or_eq_true, decide_eq_true_eq] at hv
    rw [o.n, o.sc]
    refine ⟨ixOf_ok h, ?_, ?_⟩
    · rcases hv with hv | hv
      · exact .inl hv
      · exact .inr hv.1
    · rcases hv with hv | hv
      · exact .inr hv
      · exact .inl (o.fnc x hv.2)
  · cases h
theorem SOk.gl {y : GE} (h : glE S x = some y) : Gl X x ∧ GOk X x y ∧ (x == ("__debug__" : Str)) = false ∧ x ≠ "__name__" := by
  unfold glE at h
  split at h
  · rename_i hv
    unfold kindB at hv
    simp only [Bool.and_eq_true, decide_eq_true_eq, Bool.not_eq_true', decide_eq_false_iff_not] at hv
    refine ⟨?_, o.g x y h, hv.2.1, hv.2.2⟩
    unfold Gl Env.kindOf
    rw [o.sc]
    exact hv.1
  · cases h
theorem SOk.blt (h : isBlt S x = true) : Gl X x ∧ X.mg x = none ∧ (x == ("__debug__" : Str)) = false ∧ x ≠ "__name__" := by
  unfold isBlt at h
  split at h
  · rename_i e
    exact o.gl e
  · cases h
end

/-! ### trees -/
def noStar : Expr → Bool
  | .Starred .. => false
  | _ => true
theorem star_of {e : Expr} (h : noStar e = true) (es : List Expr) (env : Env) : starEach (e :: es) env = (false, eval e env) :: starEach es env := by
  cases e <;> first | rfl | cases h
theorem stars_false {env : Env} {pos : Pos} : ∀ {es : List Expr}, es.all noStar = true → (backTo pos (starEach es env)).any (·.1) = false
  | [], _ => rfl
  | e :: es, h => by
    rw [List.all_cons, Bool.and_eq_true] at h
    rw [star_of h.1]
    show (false || (backTo pos (starEach es env)).any (·.1)) = false
    rw [stars_false h.2]
    rfl
def noSlice : Expr → Bool
  | .Slice .. => false
  | _ => true
theorem plain_ix {e : Expr} (h : noSlice e = true) : PlainIx e := by
  intro o i
  cases e <;> first | rfl | cases h
def noSet : Expr → Bool
  | .Set .. => false
  | _ => true
theorem marks_of {op : CmpOp} {e : Expr} (h : noSet e = true) : behindInMarks op e = false := by
  cases e <;> first | rfl | cases h
theorem marks2_of {op op' : CmpOp} {c e : Expr} (h : noSet e = true) : lastMarks [op, op'] [c, e] = false := by
  show behindInMarks op' e = false
  exact marks_of h
theorem folded_of {e : Expr} (h : noSet e = true) (env : Env) (x : Value) : foldedSetIterable e env x = pure x := by
  cases e <;> first | rfl | cases h
/-- a test that is no not, and, or, if, comparison -/
def plainT : Expr → Bool
  | .UnaryOp .Not _ _ => false
  | .BoolOp .. => false
  | .IfExp .. => false
  | .Compare .. => false
  | _ => true
theorem isTrue_of {e : Expr} (h : plainT e = true) (env : Env) (whole : Sem Value) : isTrue e env whole = (do let v ← whole; standAt e.pos; holding [v] (truthy v)) := by
  cases e with
  | UnaryOp op a p => cases op <;> first | rfl | cases h
  | _ => first | rfl | cases h

/-- what a comparison does -/
def cmpP : CmpOp → Option P2
  | .Eq => some pEq
  | .NotEq => some pNe
  | .Lt => some pLt
  | .LtE => some pLe
  | .Gt => some pGt
  | .GtE => some pGe
  | .Is => some (pIs false)
  | .IsNot => some (pIs true)
  | .In => some (pIn false)
  | .NotIn => some (pIn true)
theorem cmp_ok {X : Cx} (hu : X.A.units + 64 < cLine) {op : CmpOp} {p : P2} (h : cmpP op = some p) : ∃ r, OpR X (compareOp op) r ∧ P2Ok X.K r p := by
  cases op <;> cases h
  · exact ⟨_, op_eqM hu, ok_eq⟩
  · exact ⟨_, op_neM hu, ok_ne⟩
  · exact ⟨_, op_lt, ok_b⟩
  · exact ⟨_, op_le, ok_b⟩
  · exact ⟨_, op_gt, ok_b⟩
  · exact ⟨_, op_ge, ok_b⟩
  · exact ⟨_, op_isN.or op_isBl, ok_is⟩
  · exact ⟨_, op_notN.or op_notBl, ok_isnot⟩
  · exact ⟨_, op_in_seq, ok_in⟩
  · exact ⟨_, op_notIn_seq, ok_in⟩
def binP : Operator → Option P2
  | .Add => some pAdd
  | .Sub => some pSub
  | .Mult => some pMulA
  | .FloorDiv => some pFdiv
  | .Mod => some pMod
  | .Pow => some pPow
  | _ => none
theorem bin_ok {X : Cx} {op : Operator} {p : P2} (h : binP op = some p) : ∃ r, OpR X (binaryOp op) r ∧ P2Ok X.K r p := by
  cases op <;> cases h
  · exact ⟨_, op_addD, ok_add⟩
  · exact ⟨_, op_sub, ok_i⟩
  · exact ⟨_, op_mulA.or op_repW, ok_mulA⟩
  · exact ⟨_, op_modN, ok_ic⟩
  · exact ⟨_, op_pow, ok_ic⟩
  · exact ⟨_, op_fdivA, ok_ic⟩
/-- a built-in function of values -/
def bltP (x : Str) : Option PL :=
  if x = "len" then some pLen else if x = "abs" then some pAbs else if x = "sum" then some pSum else if x = "any" then some pAny else if x = "all" then some pAll else if x = "max" then some pMax
  else if x = "min" then some pMin else if x = "sorted" then some pSorted else if x = "int" then some pInt else if x = "list" then some pList else if x = "tuple" then some pTup else none
theorem blt_ok {X : Cx} (hc : X.calm = true) {x : Str} {p : PL} (h : bltP x = some p) :
    (∃ id r, CallR X (.builtin id) r ∧ PLOk X.K r p ∧ bootBuiltins x = some (.builtin id)) ∨ (∃ T r, CallR X (.type T) r ∧ PLOk X.K r p ∧ bootBuiltins x = some (.type T)) := by
  unfold bltP at h
  split at h
  · rename_i e; subst e; cases h; exact .inl ⟨_, _, call_len, ok_len, PySem.boot_len⟩
  split at h
  · rename_i e; subst e; cases h; exact .inl ⟨_, _, call_abs, ok_abs, boot_abs⟩
  split at h
  · rename_i e; subst e; cases h; exact .inl ⟨_, _, cr_sum hc, ok_sum, boot_sum⟩
  split at h
  · rename_i e; subst e; cases h; exact .inl ⟨_, _, cr_any hc, ok_any, boot_any⟩
  split at h
  · rename_i e; subst e; cases h; exact .inl ⟨_, _, cr_all hc, ok_all, boot_all⟩
  split at h
  · rename_i e; subst e; cases h; exact .inl ⟨_, _, cr_maxA hc, ok_max, boot_max⟩
  split at h
  · rename_i e; subst e; cases h; exact .inl ⟨_, _, cr_minA hc, ok_min, boot_min⟩
  split at h
  · rename_i e; subst e; cases h; exact .inl ⟨_, _, cr_srt hc, ok_sorted, boot_sorted⟩
  split at h
  · rename_i e; subst e; cases h; exact .inr ⟨_, _, call_int1, ok_int, PyProof.Rows.boot_int⟩
  split at h
  · rename_i e; subst e; cases h; exact .inr ⟨_, _, call_list_of, ok_list, PyProof.Rows.boot_list⟩
  split at h
  · rename_i e; subst e; cases h; exact .inr ⟨_, _, call_tuple_of, ok_tup, PyProof.Rows.boot_tuple⟩
  · cases h
/-- the name of a built-in class that isinstance asks for -/
def tyName (x : Str) : Option String := if x = "int" then some "int" else if x = "bool" then some "bool" else if x = "str" then some "str" else if x = "tuple" then some "tuple" else if x = "list" then some "list" else none
theorem tyName_ok {x : Str} {T : String} (h : tyName x = some T) : (T = "int" ∨ T = "bool" ∨ T = "str" ∨ T = "tuple" ∨ T = "list") ∧ bootBuiltins x = some (.type T) := by
  unfold tyName at h
  split at h
  · rename_i e; subst e; cases h; exact ⟨.inl rfl, PyProof.Rows.boot_int⟩
  split at h
  · rename_i e; subst e; cases h; exact ⟨.inr (.inl rfl), PyProof.Rows.boot_bool⟩
  split at h
  · rename_i e; subst e; cases h; exact ⟨.inr (.inr (.inl rfl)), PyProof.Rows.boot_str⟩
  split at h
  · rename_i e; subst e; cases h; exact ⟨.inr (.inr (.inr (.inl rfl))), PyProof.Rows.boot_tuple⟩
  split at h
  · rename_i e; subst e; cases h; exact ⟨.inr (.inr (.inr (.inr rfl))), PyProof.Rows.boot_list⟩
  · cases h
end DL
end L2
set_option Elab.async false
set_option maxRecDepth 100000
set_option maxHeartbeats 1000000
/-! The data layer, part 11: the reading of an expression's tree, and that it holds. -/
namespace L2
open PySem PySem.Spec PyProof.Rows
namespace DL

section
variable {X : Cx} {E : XK} {x : Str} {k : Nat} {f : Addr} {fd : FuncData} {ps : List Str} {p pos : Pos}
theorem de_call0 {fi : FI} (F : FnOk X.prog X.w X.K X.mg X.base (L2.CX X.prog X.w) k f fd ps (spD X.K X.mg fi)) (hr : Room k X.A) (hg : Gl X x) (hm : X.mg x = some (.ref f)) (hk : PySem.W.keepIn X.K (.ref f) = true) (hb : Binds X.K fd ps []) (hx : Passes (L2.CX X.prog X.w) X E)
    (hdb : (x == ("__debug__" : Str)) = false) : DE X E (.Call (.Name x p) [] [] pos) (wCall fi []) :=
  (pe_call0 F hr hg hm hk hb .nil hx hdb).imp fun _ _ _ h => call_ok h
end

abbrev EvR := Sx → (Expr → WE) × (Expr → WT)
def opr (S : Sx) (E : Expr → WE) (e : Expr) : Opd := match e with
  | .Name x _ => match rdIx S x with
    | some i => .br i
    | none => .ex (E e)
  | e => .ex (E e)
def constE : Const → WE
  | .int i => wC (.int i)
  | .str x => wC (.str x)
  | .bool b => wC (.bool b)
  | .none => wC .none
  | _ => wFalse
def nameE (S : Sx) (x : Str) : WE := match rdIx S x with
  | some i => wN i
  | none => match glE S x with
    | some (.cst d) => wC d
    | _ => wFalse
def boolE (op : BoolOp) : List WE → WE
  | [] => wFalse
  | [w] => w
  | w :: u :: r => match op with
    | .And => weAnd w (boolE op (u :: r))
    | .Or => weOr w (boolE op (u :: r))
def boolT (op : BoolOp) : List WT → WT
  | [] => wtFalse
  | [w] => w
  | w :: u :: r => match op with
    | .And => wtAnd w (boolT op (u :: r))
    | .Or => wtOr w (boolT op (u :: r))
def sbE (S : Sx) (E : Expr → WE) : Option Expr → SlB
  | none => .no
  | some e => .ex (opr S E e)
def wiF : WI := fun _ _ _ => False
def isTup : Expr → Bool
  | .Tuple .. => true
  | _ => false
/-- what is walked -/
def evI (S : Sx) (E : Expr → WE) (tg it : Expr) : WI := match it with
  | .Call (.Name f p) args [] pos => if (isBlt S f && args.all noStar) = true then
      (if f = "range" then (match args with
        | [a] => wiRng1 (opr S E a)
        | [a, c] => wiRng2 (opr S E a) (opr S E c)
        | _ => wiF)
      else if f = "enumerate" then (match args with
        | [a] => if isTup tg = true then wiEnum (E a) else wiF
        | _ => wiF)
      else if f = "zip" then (match args with
        | [a, c] => if isTup tg = true then wiZip (E a) (E c) else wiF
        | _ => wiF)
      else wiSeq (E (.Call (.Name f p) args [] pos)))
    else wiSeq (E (.Call (.Name f p) args [] pos))
  | e => wiSeq (E e)
/-- a target -/
def evG : Nat → Sx → List Nat → Expr → WG
  | 0, _, _, _ => wgF
  | n + 1, S, vs, tg => match tg with
    | .Name x _ => match wrIx S x with
      | some i => if i ∈ vs then wgN i else wgF
      | none => wgF
    | .Tuple es _ _ => if es.all noStar = true then wgT es.length (es.foldr (fun e gs => wgCons (evG n S vs e) gs) wgNil) else wgF
    | _ => wgF
def ownOf (N : List Str) (sc : Scope) : List (Str × Nat) := sc.names.filterMap fun p => if p.2 = .local ∨ p.2 = .cell then (ixOf N p.1).map fun i => (p.1, i) else none
def blkB (sc scope : Scope) : Bool := decide (scope.kind = .function) && ((scope.names.all fun p => decide (scope.names.lookup p.1 = some p.2)) && (scope.names.all fun p => !decide (p.2 = .free) || (kindB sc p.1 .cell || kindB sc p.1 .free)))
def blkS (S : Sx) (scope : Scope) : Sx := { S with sc := relS scope S.sc, fnc := fun x => kindB scope x .cell }
def testsE (T : Expr → WT) : List Expr → WT
  | [] => wtYes
  | [c] => T c
  | _ => wtFalse
def lcE (r : EvR) (S : Sx) (elt tg it : Expr) (ifs : List Expr) (scope : Scope) : WE :=
  if (blkB S.sc scope && noSet it) = true then
    wLc (evI S (r S).1 tg it) ((ownOf S.N scope).map (·.2)) (evG 3 (blkS S scope) ((ownOf S.N scope).map (·.2)) tg) (testsE (r (blkS S scope)).2 ifs) ((r (blkS S scope)).1 elt)
  else wFalse
/-- list(e) -/
def lstE (S : Sx) (E : Expr → WE) (args : List Expr) : WE := match args with
  | [.Call (.Name y p) [a] [] q] => if y = "range" then (if (isBlt S y && noStar a) = true then wLstRg1 (opr S E a) else wFalse) else wL pList [opr S E (.Call (.Name y p) [a] [] q)]
  | [.Call (.Name y p) [a, c] [] q] => if y = "range" then (if (isBlt S y && (noStar a && noStar c)) = true then wLstRg2 (opr S E a) (opr S E c) else wFalse) else wL pList [opr S E (.Call (.Name y p) [a, c] [] q)]
  | [e] => wL pList [opr S E e]
  | _ => wFalse
/-- sorted(e) -/
def srtE (S : Sx) (E : Expr → WE) (args : List Expr) : WE := match args with
  | [.Call (.Name y p) [a] [] q] => if y = "set" then (if (isBlt S y && noStar a) = true then wSrtSet (opr S E a) else wFalse) else wL pSorted [opr S E (.Call (.Name y p) [a] [] q)]
  | [e] => wL pSorted [opr S E e]
  | _ => wFalse
def isiE (S : Sx) (E : Expr → WE) (args : List Expr) : WE := match args with
  | [a, .Name y _] => (match tyName y with
    | some T => if isBlt S y = true then wIsi T (opr S E a) else wFalse
    | none => wFalse)
  | _ => wFalse
/-- operands of which all but one are frozen -/
def oprsZ (S : Sx) (E : Expr → WE) (j : Nat) : Nat → List Expr → List Opd
  | _, [] => []
  | i, e :: es => (if i = j then opr S E e else .ex (E e)) :: oprsZ S E j (i + 1) es
def callE (S : Sx) (E : Expr → WE) (x : Str) (args : List Expr) : WE :=
  if args.all noStar = true then (match glE S x with
    | some (.fn fi) => wCall fi (args.map (opr S E))
    | some (.fnZ fi j) => wCall fi (oprsZ S E j 0 args)
    | some .blt => if x = "isinstance" then isiE S E args else if x = "list" then lstE S E args else if x = "sorted" then srtE S E args else (match bltP x, args with
      | some p, _ :: _ => wL p (args.map (opr S E))
      | _, _ => wFalse)
    | _ => wFalse)
  else wFalse
def methE (S : Sx) (E : Expr → WE) (x m : Str) (apos cpos : Pos) (args : List Expr) : WE :=
  if (args.all noStar && (apos.endLine == cpos.line)) = true then (match rdIx S x with
    | some i => if m = "append" then (match args with
        | [e] => wApp i (E e)
        | _ => wFalse)
      else if m = "pop" then (match args with
        | [] => wPop i
        | [e] => wPopAt i (opr S E e)
        | _ => wFalse)
      else wFalse
    | none => wFalse)
  else wFalse
def subE (S : Sx) (E : Expr → WE) (a ix : Expr) : WE := match ix with
  | .Slice lo hi none _ => wSl (opr S E a) (sbE S E lo) (sbE S E hi)
  | .Slice none none (some st) _ => wStep (opr S E a) (opr S E st)
  | ix => if noSlice ix = true then w2 pIx (opr S E a) (opr S E ix) else wFalse
def cmpE (S : Sx) (E : Expr → WE) (a : Expr) (ops : List CmpOp) (cs : List Expr) : WE := match ops, cs with
  | [op], [c] => if noSet c = true then (match cmpP op with
    | some p => w2 p (opr S E a) (opr S E c)
    | none => wFalse) else wFalse
  | [op, op'], [c, e] => if noSet e = true then (match cmpP op, cmpP op' with
    | some p, some p' => w3 p p' (opr S E a) (opr S E c) (opr S E e)
    | _, _ => wFalse) else wFalse
  | _, _ => wFalse
def stepE (r : EvR) (S : Sx) (e : Expr) : WE := match e with
  | .Constant c _ _ => constE c
  | .Name x _ => nameE S x
  | .BinOp a op c _ => (match binP op with
    | some p => w2 p (opr S (r S).1 a) (opr S (r S).1 c)
    | none => wFalse)
  | .UnaryOp op a _ => (match op with
    | .USub => w1 pNeg (opr S (r S).1 a)
    | .Not => weNot ((r S).1 a)
    | _ => wFalse)
  | .BoolOp op vs _ => boolE op (vs.map (r S).1)
  | .IfExp t a c _ => weIf ((r S).2 t) ((r S).1 a) ((r S).1 c)
  | .Compare a ops cs _ => cmpE S (r S).1 a ops cs
  | .Subscript a ix _ => subE S (r S).1 a ix
  | .Tuple es _ _ => if es.all noStar = true then wTup (es.map fun e => .ex ((r S).1 e)) else wFalse
  | .List es _ => if es.all noStar = true then wLst (es.map fun e => .ex ((r S).1 e)) else wFalse
  | .Dict ks vs _ => (match ks, vs with
    | [], [] => wDnew
    | _, _ => wFalse)
  | .ListComp elt gens scope _ => (match gens with
    | [⟨tg, it, ifs, as⟩] => if as = 0 then lcE r S elt tg it ifs scope else wFalse
    | _ => wFalse)
  | .Call f args kws cpos => (match f, kws with
    | .Name x _, [] => callE S (r S).1 x args
    | .Attribute (.Name x _) m apos, [] => methE S (r S).1 x m apos cpos args
    | _, _ => wFalse)
  | _ => wFalse
def stepT (r : EvR) (S : Sx) (e : Expr) : WT := match e with
  | .UnaryOp .Not a _ => wtNot ((r S).2 a)
  | .BoolOp op vs _ => boolT op (vs.map (r S).2)
  | .Compare a ops cs _ => wtB (cmpE S (r S).1 a ops cs)
  | e => if plainT e = true then wtB (stepE r S e) else wtFalse
def ev : Nat → EvR
  | 0, _ => (fun _ => wFalse, fun _ => wtFalse)
  | n + 1, S => (stepE (ev n) S, stepT (ev n) S)

/-! ### it holds -/
theorem de_cK {X : Cx} {E : XK} {e : Expr} {v : V} {d : D} (h : PE X e (tC v)) (r : ∀ F, Dp X.K F v d) : DE X E e (wC d) := h.imp fun σ H Q ⟨b, F, σd, W, Qd, I, x, h, q⟩ => q v H F (.d d) σd I (Grow.refl F) (r _) h
theorem di_false {X : Cx} {E : XK} {tg e : Expr} : DI X E tg e wiF := ⟨fun pins s σ H R I h => by
  obtain ⟨_, _, _, _, _, _, _, z, _⟩ := h
  exact z.elim⟩
section
variable {X : Cx} {E : XK} {S : Sx} {rE : Expr → WE} {rT : Expr → WT} (o : SOk X E S)
include o
theorem opr_ok (h : ∀ e, DE X E e (rE e)) (e : Expr) : DO X E e (opr S rE e) := by
  unfold opr
  split
  · rename_i x p
    split
    · rename_i i hi
      obtain ⟨h1, h2, h3, h4⟩ := o.rd hi
      exact do_br h1 h2 h3 h4
    · exact h _
  · exact h _
theorem oprs_ok (h : ∀ e, DE X E e (rE e)) : ∀ {es : List Expr}, es.all noStar = true → DA X E es (es.map (opr S rE))
  | [], _ => do_list_nil
  | e :: es, hs => by
    rw [List.all_cons, Bool.and_eq_true] at hs
    exact do_list_cons (opr_ok o h e) (oprs_ok h hs.2) (star_of hs.1 _ _)
theorem oprsZ_ok (h : ∀ e, DE X E e (rE e)) (j : Nat) : ∀ {es : List Expr} (i : Nat), es.all noStar = true → DA X E es (oprsZ S rE j i es)
  | [], _, _ => do_list_nil
  | e :: es, i, hs => by
    rw [List.all_cons, Bool.and_eq_true] at hs
    unfold oprsZ
    split
    · exact do_list_cons (opr_ok o h e) (oprsZ_ok h j (i + 1) hs.2) (star_of hs.1 _ _)
    · exact do_list_cons (do_ex (h e)) (oprsZ_ok h j (i + 1) hs.2) (star_of hs.1 _ _)
omit o in
theorem exs_ok (h : ∀ e, DE X E e (rE e)) : ∀ {es : List Expr}, es.all noStar = true → DA X E es (es.map fun e => .ex (rE e))
  | [], _ => do_list_nil
  | e :: es, hs => by
    rw [List.all_cons, Bool.and_eq_true] at hs
    exact do_list_cons (do_ex (h e)) (exs_ok h hs.2) (star_of hs.1 _ _)
omit o in
theorem const_ok {c : Const} {k : Nat} {pos : Pos} : DE X E (.Constant c k pos) (constE c) := by
  cases c with
  | int i => exact de_c pe_int fun _ _ => .int i
  | str x => exact de_c pe_str fun _ _ => .str x
  | bool b => exact de_c pe_bl fun _ _ => .bl b
  | none => exact de_c pe_non fun _ _ => .non
  | _ => exact de_false
theorem name_ok {x : Str} {p : Pos} : DE X E (.Name x p) (nameE S x) := by
  unfold nameE
  split
  · rename_i i hi
    obtain ⟨h1, h2, h3, h4⟩ := o.rd hi
    exact de_n h1 h2 h3 h4
  · split
    · rename_i d hd
      obtain ⟨hg, ⟨v, u, hm, rv, dp⟩, hdb, _⟩ := o.gl hd
      exact de_cK (pe_glob hg hm rv hdb) dp
    · exact de_false
omit o in
theorem bool_ok (h : ∀ e, DE X E e (rE e)) {op : BoolOp} {pos : Pos} : ∀ {vs : List Expr}, DE X E (.BoolOp op vs pos) (boolE op (vs.map rE))
  | [] => de_false
  | [e] => de_one (h e)
  | e :: c :: r => by
    have ih := bool_ok h (op := op) (pos := pos) (vs := c :: r)
    cases op with
    | And => exact de_and (h e) ih
    | Or => exact de_or (h e) ih
omit o in
theorem boolW_ok (h : ∀ e, DT X E e (rT e)) {op : BoolOp} {pos : Pos} : ∀ {e : Expr} {vs : List Expr}, DW X E (.BoolOp op (e :: vs) pos) (boolT op ((e :: vs).map rT))
  | e, [] => by
    cases op with
    | And => exact dw_and1 (h e)
    | Or => exact dw_or1 (h e)
  | e, c :: r => by
    have ih := boolW_ok h (op := op) (pos := pos) (e := c) (vs := r)
    cases op with
    | And => exact dw_and (h e) ih
    | Or => exact dw_or (h e) ih
omit o in
theorem boolT_ok (h : ∀ e, DT X E e (rT e)) {op : BoolOp} {pos : Pos} : ∀ {vs : List Expr}, DT X E (.BoolOp op vs pos) (boolT op (vs.map rT))
  | [] => dt_false
  | _ :: _ => dw_dt (boolW_ok h)
theorem sb_ok (h : ∀ e, DE X E e (rE e)) : ∀ (l : Option Expr), DB X E l (sbE S rE l)
  | none => db_no
  | some e => db_ex (opr_ok o h e)
theorem sub_ok (h : ∀ e, DE X E e (rE e)) {a ix : Expr} {pos : Pos} : DE X E (.Subscript a ix pos) (subE S rE a ix) := by
  unfold subE
  split
  · exact de_sl (opr_ok o h _) (sb_ok o h _) (sb_ok o h _)
  · exact de_step (opr_ok o h _) (opr_ok o h _)
  · split
    · rename_i hp
      exact de_ix ix_seq ok_ix (opr_ok o h _) (opr_ok o h _) (plain_ix hp)
    · exact de_false
theorem cmp_okE (h : ∀ e, DE X E e (rE e)) {a : Expr} {ops : List CmpOp} {cs : List Expr} {pos : Pos} : DE X E (.Compare a ops cs pos) (cmpE S rE a ops cs) := by
  unfold cmpE
  split
  · split
    · rename_i hn
      split
      · rename_i p hp
        obtain ⟨r, h1, h2⟩ := cmp_ok o.units hp
        exact de_cmp h1 h2 (opr_ok o h _) (opr_ok o h _) (marks_of hn)
      · exact de_false
    · exact de_false
  · split
    · rename_i hn
      split
      · rename_i p p' hp hp'
        obtain ⟨r, h1, h2⟩ := cmp_ok o.units hp
        obtain ⟨r', h3, h4⟩ := cmp_ok o.units hp'
        exact de_chain h1 h3 h2 h4 (opr_ok o h _) (opr_ok o h _) (opr_ok o h _) (marks2_of hn)
      · exact de_false
    · exact de_false
  · exact de_false
theorem cmp_okT (h : ∀ e, DE X E e (rE e)) {a : Expr} {ops : List CmpOp} {cs : List Expr} {pos : Pos} : DT X E (.Compare a ops cs pos) (wtB (cmpE S rE a ops cs)) := by
  have no : DT X E (.Compare a ops cs pos) (wtB wFalse) := ⟨fun pins s σ H Q I q => by
    obtain ⟨_, _, _, _, _, _, _, z, _⟩ := q
    exact z.elim⟩
  unfold cmpE
  split
  · split
    · rename_i hn
      split
      · rename_i p hp
        obtain ⟨r, h1, h2⟩ := cmp_ok o.units hp
        exact dt_cmp h1 h2 (opr_ok o h _) (opr_ok o h _) (marks_of hn)
      · exact no
    · exact no
  · split
    · rename_i hn
      split
      · rename_i p p' hp hp'
        obtain ⟨r, h1, h2⟩ := cmp_ok o.units hp
        obtain ⟨r', h3, h4⟩ := cmp_ok o.units hp'
        exact dt_chain h1 h3 h2 h4 (opr_ok o h _) (opr_ok o h _) (opr_ok o h _) (marks2_of hn)
      · exact no
    · exact no
  · exact no
theorem isi_ok (h : ∀ e, DE X E e (rE e)) {args : List Expr} {p pos : Pos} (hb : isBlt S "isinstance" = true) (hs : args.all noStar = true) : DE X E (.Call (.Name "isinstance" p) args [] pos) (isiE S rE args) := by
  unfold isiE
  split
  · rename_i a y p2
    split
    · rename_i T hT
      split
      · rename_i hy
        obtain ⟨g1, g2, _, _⟩ := o.blt hb
        obtain ⟨y1, y2, y3, y4⟩ := o.blt hy
        obtain ⟨t1, t2⟩ := tyName_ok hT
        rw [List.all_cons, Bool.and_eq_true] at hs
        exact de_isi t1 g1 g2 y1 y2 t2 y4 y3 (opr_ok o h _) (star_of hs.1 _ _) (stars_false hs.2)
      · exact de_false
    · exact de_false
  · exact de_false
theorem lst_ok (h : ∀ e, DE X E e (rE e)) {args : List Expr} {p pos : Pos} (hb : isBlt S "list" = true) (hs : args.all noStar = true) : DE X E (.Call (.Name "list" p) args [] pos) (lstE S rE args) := by
  obtain ⟨g1, g2, g3, g4⟩ := o.blt hb
  have one : ∀ e : Expr, [e].all noStar = true → DE X E (.Call (.Name "list" p) [e] [] pos) (wL pList [opr S rE e]) := fun e hs =>
    de_callTy call_list_of ok_list g1 g2 PyProof.Rows.boot_list (oprs_ok o h (es := [e]) hs) g4 g3 (by
      rw [List.all_cons, Bool.and_eq_true] at hs
      exact star_of hs.1 _ _) rfl
  unfold lstE
  split
  · split
    · split
      · rename_i e hy
        subst e
        rw [Bool.and_eq_true] at hy
        obtain ⟨y1, y2, _, _⟩ := o.blt hy.1
        exact de_lstRg1 o.calm g1 g2 y1 y2 (opr_ok o h _) (star_of hy.2 _ _) rfl
      · exact de_false
    · exact one _ hs
  · split
    · split
      · rename_i e hy
        subst e
        rw [Bool.and_eq_true, Bool.and_eq_true] at hy
        obtain ⟨y1, y2, _, _⟩ := o.blt hy.1
        exact de_lstRg2 o.calm g1 g2 y1 y2 (opr_ok o h _) (opr_ok o h _) (star_of hy.2.1 _ _) (star_of hy.2.2 _ _) (stars_false (by rw [List.all_cons, hy.2.2]; rfl)) rfl
      · exact de_false
    · exact one _ hs
  · exact one _ hs
  · exact de_false
theorem srt_ok (h : ∀ e, DE X E e (rE e)) {args : List Expr} {p pos : Pos} (hb : isBlt S "sorted" = true) (hs : args.all noStar = true) : DE X E (.Call (.Name "sorted" p) args [] pos) (srtE S rE args) := by
  obtain ⟨g1, g2, g3, g4⟩ := o.blt hb
  have one : ∀ e : Expr, [e].all noStar = true → DE X E (.Call (.Name "sorted" p) [e] [] pos) (wL pSorted [opr S rE e]) := fun e hs =>
    de_callB (cr_srt o.calm) ok_sorted g1 g2 boot_sorted (oprs_ok o h (es := [e]) hs) g4 g3 (by
      rw [List.all_cons, Bool.and_eq_true] at hs
      exact star_of hs.1 _ _) rfl
  unfold srtE
  split
  · split
    · split
      · rename_i e hy
        subst e
        rw [Bool.and_eq_true] at hy
        obtain ⟨y1, y2, _, _⟩ := o.blt hy.1
        exact de_srtSet o.calm g1 g2 y1 y2 (opr_ok o h _) (star_of hy.2 _ _) rfl
      · exact de_false
    · exact one _ hs
  · exact one _ hs
  · exact de_false
theorem call_okE (h : ∀ e, DE X E e (rE e)) {x : Str} {args : List Expr} {p pos : Pos} : DE X E (.Call (.Name x p) args [] pos) (callE S rE x args) := by
  unfold callE
  split
  · rename_i hs
    split
    · rename_i fi hf
      obtain ⟨hg, ⟨k, f, fd, ps, F, hr, hm, hk, hb⟩, hdb, _⟩ := o.gl hf
      cases args with
      | nil => exact de_call0 F hr hg hm hk hb o.pas hdb
      | cons e es =>
        have hs2 := hs
        rw [List.all_cons, Bool.and_eq_true] at hs2
        exact de_call F hr hg hm hk hb o.pas (oprs_ok o h hs) hdb (star_of hs2.1 _ _) (stars_false hs2.2)
    · rename_i fi j hf
      obtain ⟨hg, ⟨k, f, fd, ps, F, hr, hm, hk, hb⟩, hdb, _⟩ := o.gl hf
      cases args with
      | nil => exact de_call0 F hr hg hm hk hb o.pas hdb
      | cons e es =>
        have hs2 := hs
        rw [List.all_cons, Bool.and_eq_true] at hs2
        exact de_call F hr hg hm hk hb o.pas (oprsZ_ok o h j 0 hs) hdb (star_of hs2.1 _ _) (stars_false hs2.2)
    · rename_i hf
      have hb : isBlt S x = true := by unfold isBlt; rw [hf]
      split
      · rename_i e
        subst e
        exact isi_ok o h hb hs
      split
      · rename_i e
        subst e
        exact lst_ok o h hb hs
      split
      · rename_i e
        subst e
        exact srt_ok o h hb hs
      split
      · rename_i pl e es hp
        obtain ⟨g1, g2, g3, g4⟩ := o.blt hb
        have hs2 := hs
        rw [List.all_cons, Bool.and_eq_true] at hs2
        rcases blt_ok (X := X) o.calm hp with ⟨id, r, h1, h2, h3⟩ | ⟨T, r, h1, h2, h3⟩
        · exact de_callB h1 h2 g1 g2 h3 (oprs_ok o h hs) g4 g3 (star_of hs2.1 _ _) (stars_false hs2.2)
        · exact de_callTy h1 h2 g1 g2 h3 (oprs_ok o h hs) g4 g3 (star_of hs2.1 _ _) (stars_false hs2.2)
      · exact de_false
    · exact de_false
  · exact de_false
theorem meth_ok (h : ∀ e, DE X E e (rE e)) {x m : Str} {args : List Expr} {p apos cpos : Pos} : DE X E (.Call (.Attribute (.Name x p) m apos) args [] cpos) (methE S rE x m apos cpos args) := by
  unfold methE
  split
  · rename_i hs
    rw [Bool.and_eq_true] at hs
    obtain ⟨hs, hl⟩ := hs
    split
    · rename_i i hi
      obtain ⟨h1, h2, h3, h4⟩ := o.rd hi
      split
      · rename_i e
        subst e
        split
        · rename_i e
          rw [List.all_cons, Bool.and_eq_true] at hs
          have hst := star_of hs.1 [] X.env
          exact de_append h1 h2 h3 h4 (h _) rfl (by rw [hst]; rfl) hl hst rfl
        · exact de_false
      split
      · rename_i e
        subst e
        split
        · exact de_pop h1 h2 h3 h4 rfl hl
        · rename_i e
          rw [List.all_cons, Bool.and_eq_true] at hs
          have hst := star_of hs.1 [] X.env
          exact de_popAt h1 h2 h3 h4 (opr_ok o h _) rfl (by rw [hst]; rfl) hl hst rfl
        · exact de_false
      · exact de_false
    · exact de_false
  · exact de_false
theorem it_ok (h : ∀ e, DE X E e (rE e)) {tg it : Expr} : DI X E tg it (evI S rE tg it) := by
  unfold evI
  split
  · rename_i f p args pos
    split
    · rename_i hs
      rw [Bool.and_eq_true] at hs
      obtain ⟨hb, hs⟩ := hs
      split
      · rename_i e
        subst e
        obtain ⟨g1, g2, _, _⟩ := o.blt hb
        split
        · rw [List.all_cons, Bool.and_eq_true] at hs
          exact di_rng1 g1 g2 (opr_ok o h _) (star_of hs.1 _ _)
        · rename_i a c
          rw [List.all_cons, Bool.and_eq_true, List.all_cons, Bool.and_eq_true] at hs
          have s2 := star_of hs.2.1 [] X.env
          exact di_rng2 g1 g2 (opr_ok o h _) (opr_ok o h _) (by rw [star_of hs.1, s2]; rfl) s2
        · exact di_false
      split
      · rename_i e
        subst e
        obtain ⟨g1, g2, _, _⟩ := o.blt hb
        split
        · split
          · rename_i ht
            rw [List.all_cons, Bool.and_eq_true] at hs
            cases tg with
            | Tuple => exact di_enum g1 g2 (h _) (star_of hs.1 _ _)
            | _ => cases ht
          · exact di_false
        · exact di_false
      split
      · rename_i e
        subst e
        obtain ⟨g1, g2, _, _⟩ := o.blt hb
        split
        · split
          · rename_i ht
            rw [List.all_cons, Bool.and_eq_true] at hs
            have hs3 := hs.2
            rw [List.all_cons, Bool.and_eq_true] at hs3
            cases tg with
            | Tuple => exact di_zip g1 g2 (h _) (h _) (star_of hs.1 _ _) (star_of hs3.1 _ _) (stars_false hs.2)
            | _ => cases ht
          · exact di_false
        · exact di_false
      · exact di_seq (h _)
    · exact di_seq (h _)
  · exact di_seq (h _)
end
theorem asgs_map {env : Env} : ∀ {es : List Expr}, es.all noStar = true → (assignEach es env).length = es.length ∧ (assignEach es env).findIdx? (·.1) = none
  | [], _ => ⟨rfl, rfl⟩
  | e :: es, h => by
    rw [List.all_cons, Bool.and_eq_true] at h
    obtain ⟨h1, h2⟩ := asgs_map (env := env) h.2
    have e1 : assignEach (e :: es) env = (false, assign e env) :: assignEach es env := by
      have := h.1
      cases e <;> first | rfl | cases this
    rw [e1]
    refine ⟨congrArg Nat.succ h1, ?_⟩
    rw [List.findIdx?_cons, h2]
    rfl
theorem asg_cons {env : Env} {e : Expr} {es : List Expr} (h : noStar e = true) : (assignEach (e :: es) env).map (·.2) = assign e env :: (assignEach es env).map (·.2) := by
  cases e <;> first | rfl | cases h
theorem tg_ok {X : Cx} {E : XK} {S : Sx} (o : SOk X E S) {vs : List Nat} : ∀ (n : Nat) (tg : Expr), DG X vs tg (evG n S vs tg)
  | 0, _ => dg_false
  | n + 1, tg => by
    unfold evG
    split
    · split
      · rename_i i hi
        obtain ⟨h1, h2, h3⟩ := o.wr hi
        split
        · rename_i hv
          exact dg_name (by rw [o.n]; exact o.nd) h1 h2 h3 hv
        · exact dg_false
      · exact dg_false
    · rename_i es k pos
      split
      · rename_i hs
        have go : ∀ es : List Expr, es.all noStar = true → DGs X vs es (es.foldr (fun e gs => wgCons (evG n S vs e) gs) wgNil) := by
          intro es
          induction es with
          | nil => exact fun _ => dgs_nil
          | cons e es ih =>
            intro hs
            rw [List.all_cons, Bool.and_eq_true] at hs
            exact dgs_cons (tg_ok o n e) (ih hs.2) (asg_cons hs.1)
        obtain ⟨a1, a2⟩ := asgs_map (env := X.env) hs
        exact dg_tup o.calm (go es hs) a1 a2
      · exact dg_false
    · exact dg_false

/-! ### comprehensions -/
theorem ixOf_none : ∀ {N : List Str} {x : Str}, ixOf N x = none → x ∉ N
  | [], _, _, h => by cases h
  | y :: r, x, e, h => by
    unfold ixOf at e
    split at e
    · cases e
    · rename_i hy
      cases q : ixOf r x with
      | none =>
        rcases List.mem_cons.mp h with z | z
        · exact hy z.symm
        · exact ixOf_none q z
      | some j => rw [q] at e; cases e
theorem blk_of {N : List Str} {sc scope : Scope} (h : blkB sc scope = true) : BlkOk N sc scope (ownOf N scope) := by
  unfold blkB kindB at h
  simp only [Bool.and_eq_true, decide_eq_true_eq, List.all_eq_true, Bool.or_eq_true, Bool.not_eq_true', decide_eq_false_iff_not] at h
  obtain ⟨h1, h2, h3⟩ := h
  refine ⟨h1, h2, fun p hp => ?_, fun y hy hf => ?_, fun y hy hk => ?_⟩
  · unfold ownOf at hp
    obtain ⟨q, hq, e⟩ := List.mem_filterMap.mp hp
    split at e
    · cases z : ixOf N q.1 with
      | none => rw [z] at e; cases e
      | some i =>
        rw [z] at e
        cases e
        exact ixOf_ok z
    · cases e
  · rcases h3 y hy with z | z
    · exact absurd hf z
    · exact z
  · cases z : ixOf N y.1 with
    | none => exact .inr (ixOf_none z)
    | some i =>
      refine .inl (List.mem_map.mpr ⟨(y.1, i), List.mem_filterMap.mpr ⟨y, hy, ?_⟩, rfl⟩)
      rw [if_pos hk, z]
      rfl
theorem GOk.blk {X : Cx} {s : Shared} {H : Hp} {scope : Scope} {cenv : Env} {fp : List Addr} {x : Str} : ∀ {y : GE}, GOk X x y → GOk (X.blk s H scope cenv fp) x y
  | .fn _, h => h
  | .fnZ _ _, h => h
  | .blt, h => h
  | .cst _, h => h
  | .exc, h => h
theorem pas_ef {X : Cx} : Passes (L2.CX X.prog X.w) X EF := fun _ _ _ _ _ _ _ ⟨_, _, _, _, _, _, _, _, _, _, _, _, z⟩ => z.elim
theorem SOk.blk {X : Cx} {E : XK} {S : Sx} (o : SOk X E S) (scope : Scope) (s : Shared) (H : Hp) (C : Addr) (cl : List (Str × Addr)) (fp : List Addr) : SOk (X.blk s H scope (compEnvC scope cl C X.env) fp) EF (blkS S scope) :=
  ⟨o.n, by
    show relS scope X.env.scope = relS scope S.sc
    rw [o.sc], o.nd, o.calm, fun x h => by
    unfold blkS kindB at h
    have h := of_decide_eq_true h
    show (scope.names.lookup x == some .cell) = true
    rw [h]
    rfl, fun x y h => GOk.blk (o.g x y h), o.units, pas_ef⟩

def Good (r : EvR) : Prop := ∀ X E S, SOk X E S → (∀ e, DE X E e ((r S).1 e)) ∧ (∀ e, DT X E e ((r S).2 e))
section
variable {X : Cx} {E : XK} {S : Sx} {r : EvR} (g : Good r) (o : SOk X E S)
include g o
theorem tests_ok {Y : Cx} {T : Sx} (oY : SOk Y EF T) : ∀ ifs : List Expr, DTs Y ifs (testsE (r T).2 ifs)
  | [] => dts_nil
  | [c] => dts_one ((g Y EF T oY).2 c)
  | _ :: _ :: _ => ⟨fun pins s σ H Q I h => by
    obtain ⟨_, _, _, _, _, _, _, z, _⟩ := h
    exact z.elim⟩
theorem lc_okE {elt tg it : Expr} {ifs : List Expr} {scope : Scope} {pos : Pos} : DE X E (.ListComp elt [⟨tg, it, ifs, 0⟩] scope pos) (lcE r S elt tg it ifs scope) := by
  unfold lcE
  split
  · rename_i h
    rw [Bool.and_eq_true] at h
    have nd : X.N.Nodup := by rw [o.n]; exact o.nd
    exact de_lc o.calm nd (it_ok o (g X E S o).1) (by rw [o.n, o.sc]; exact blk_of h.1) rfl (fun s H C cl fp => tg_ok (o.blk scope s H C cl fp) 3 tg) (fun s H C cl fp => tests_ok g o (o.blk scope s H C cl fp) ifs)
      (fun s H C cl fp => (g _ EF _ (o.blk scope s H C cl fp)).1 elt) (folded_of h.2 X.env)
  · exact de_false
theorem stepE_ok (e : Expr) : DE X E e (stepE r S e) := by
  obtain ⟨hE, hT⟩ := g X E S o
  unfold stepE
  split
  · exact const_ok
  · exact name_ok o
  · split
    · rename_i p hp
      obtain ⟨rr, h1, h2⟩ := bin_ok (X := X) hp
      exact de_bin h1 h2 (opr_ok o hE _) (opr_ok o hE _)
    · exact de_false
  · split
    · exact de_un un_neg ok_neg (opr_ok o hE _)
    · exact de_not (hE _)
    · exact de_false
  · exact bool_ok hE
  · exact de_if (hT _) (hE _) (hE _)
  · exact cmp_okE o hE
  · exact sub_ok o hE
  · split
    · rename_i hs
      exact de_tup (exs_ok hE hs)
    · exact de_false
  · split
    · rename_i hs
      exact de_lst (exs_ok hE hs)
    · exact de_false
  · split
    · exact de_dnew
    · exact de_false
  · split
    · split
      · rename_i h0
        subst h0
        exact lc_okE g o
      · exact de_false
    · exact de_false
  · split
    · exact call_okE o hE
    · exact meth_ok o hE
    · exact de_false
  · exact de_false
theorem stepT_ok (e : Expr) : DT X E e (stepT r S e) := by
  obtain ⟨hE, hT⟩ := g X E S o
  unfold stepT
  split
  · exact dt_not (hT _)
  · exact boolT_ok hT
  · exact cmp_okT o hE
  · split
    · rename_i h
      exact dt_val (stepE_ok g o e) (isTrue_of h X.env)
    · exact dt_false
end
theorem ev_good : ∀ n, Good (ev n)
  | 0 => fun X E S o => ⟨fun _ => de_false, fun _ => dt_false⟩
  | n + 1 => fun X E S o => ⟨stepE_ok (ev_good n) o, stepT_ok (ev_good n) o⟩
end DL
end L2
set_option Elab.async false
set_option maxRecDepth 100000
set_option maxHeartbeats 1000000
/-! The data layer, part 12: the reading of statements. -/
namespace L2
open PySem PySem.Spec PyProof.Rows
namespace DL

def starB : Expr → Bool
  | .Starred .. => true
  | _ => false
def locNames (sc : Scope) (line : Nat) (ts : List Expr) : List Str := ts.filterMap fun t => match t with
  | .Name id pos => if (sc.names.lookup id == some .local && pos.line == line) = true then some id else none
  | _ => none
def swN (sc : Scope) (ts vs : List Expr) : Option (Option (List Str)) :=
  if (!(ts.length == 2 || ts.length == 3) || vs.length != ts.length) = true then some none
  else if vs.any starB = true then some none
  else if ((locNames sc ((ts.head?.map (·.pos.line)).getD 0) ts).length != ts.length || (locNames sc ((ts.head?.map (·.pos.line)).getD 0) ts).eraseDups.length != (locNames sc ((ts.head?.map (·.pos.line)).getD 0) ts).length) = true then some none
  else if vs.all (foldedForSure 8) = true then some none
  else if vs.all (constantsAlone 8) = true then none
  else some (some (locNames sc ((ts.head?.map (·.pos.line)).getD 0) ts))
theorem sw_ok {env : Env} {sc : Scope} (he : env.scope = sc) (hb : env.blockKind = .function) {ts vs : List Expr} {k : Nat} {p : Pos} {k2 : Nat} {p2 : Pos} {r : Option (List Str)} (h : swN sc ts vs = some r) :
    swappedStores [.Tuple ts k p] (.Tuple vs k2 p2) env = pure r := by
  unfold swN at h
  unfold swappedStores
  have e1 : (env.blockKind != ScopeKind.function) = false := by rw [hb]; rfl
  have e2 : (vs.any fun x => match x with | .Starred .. => true | _ => false) = vs.any starB := rfl
  subst he
  have e3 : (ts.filterMap fun t => match t with
    | .Name id pos => if (env.kindOf id == some NameKind.local && pos.line == (ts.head?.map (·.pos.line)).getD 0) = true then some id else none
    | _ => none) = locNames env.scope ((ts.head?.map (·.pos.line)).getD 0) ts := rfl
  simp only [e1, Bool.or_false]
  split at h
  · rename_i c
    cases h
    rw [if_pos c]
  · rename_i c
    rw [if_neg c]
    change (if vs.any starB = true then pure none else if ((locNames env.scope ((ts.head?.map (·.pos.line)).getD 0) ts).length != ts.length || (locNames env.scope ((ts.head?.map (·.pos.line)).getD 0) ts).eraseDups.length != (locNames env.scope ((ts.head?.map (·.pos.line)).getD 0) ts).length) = true then pure none
      else if vs.all (foldedForSure 8) = true then pure none
      else if vs.all (constantsAlone 8) = true then _ else pure (some (locNames env.scope ((ts.head?.map (·.pos.line)).getD 0) ts))) = pure r
    clear e1 e2 e3
    generalize locNames env.scope ((ts.head?.map (·.pos.line)).getD 0) ts = L at h ⊢
    split at h
    · rename_i c2
      cases h
      rw [if_pos c2]
    · rename_i c2
      rw [if_neg c2]
      split at h
      · rename_i c3
        cases h
        rw [if_pos c3]
      · rename_i c3
        rw [if_neg c3]
        split at h
        · rename_i c4
          cases h
          rw [if_pos c4]
        · rename_i c4
          rw [if_neg c4]
          split at h
          · cases h
          · rename_i c5
            cases h
            rw [if_neg c5]
def isLst : Expr → Bool
  | .List .. => true
  | _ => false
theorem sw_other {t v : Expr} {env : Env} (h : isTup v = false) : swappedStores [t] v env = pure none := by
  cases t <;> cases v <;> first | rfl | cases h
def noComp : Expr → Bool
  | .ListComp .. => false
  | .SetComp .. => false
  | .DictComp .. => false
  | _ => true
theorem swaps_of {e : Expr} (h : noComp e = true) (t : Option Expr) (line : Nat) (env : Env) : swapsWith e t line env = pure false := by
  cases e <;> first | rfl | cases h
theorem sole_of {e : Expr} (h : noComp e = true) (t : Expr) (line : Nat) (env : Env) : swapsWithSole [t] e line env = pure false := swaps_of h (some t) line env

def wsOr (w u : WS) : WS := fun X D σ => w X D σ ∨ u X D σ
def retE (S : Sx) (E : Expr → WE) (e : Expr) : WE := match e with
  | .Name x _ => (match rdIx S x with
    | some i => wMv i
    | none => E e)
  | e => E e
/-- name = value -/
def setE (r : EvR) (S : Sx) (i : Nat) (v : Expr) : WS := match v with
  | .ListComp elt gens scope _ => (match gens with
    | [⟨tg, it, ifs, as⟩] => if as = 0 then wSet i (lcE r S elt tg it ifs scope) else wsFalse
    | _ => wsFalse)
  | v => if noComp v = true then wSet i ((r S).1 v) else wsFalse
/-- several names = several values -/
def parE (S : Sx) (E : Expr → WE) (ts vs : List Expr) : WS := match ts, vs with
  | [.Name x _, .Name y _], [a, c] => (match wrIx S x, wrIx S y with
    | some i, some j => if (!decide (i = j) && (kindB S.sc x .local && kindB S.sc y .local) && (noStar a && noStar c)) = true then wSets2 i j (E a) (E c) else wsFalse
    | _, _ => wsFalse)
  | [.Name x _, .Name y _, .Name z _], [a, c, d] => (match wrIx S x, wrIx S y, wrIx S z with
    | some i, some j, some l => if (!decide (i = j) && !decide (i = l) && !decide (j = l) && (kindB S.sc x .local && kindB S.sc y .local && kindB S.sc z .local) && (noStar a && noStar c && noStar d)) = true then wSets3 i j l (E a) (E c) (E d) else wsFalse
    | _, _, _ => wsFalse)
  | _, _ => wsFalse
def namesOf : List Expr → Option (List Str)
  | [] => some []
  | .Name x _ :: r => (namesOf r).map (x :: ·)
  | _ => none
/-- a target that is no name = value -/
def asgE (S : Sx) (E : Expr → WE) (tg v : Expr) : WS := match tg with
  | .Tuple ts k p => if noComp v = true then (match v with
    | .Tuple vs k2 p2 => (match swN S.sc ts vs with
      | some none => wAsg (E (.Tuple vs k2 p2)) (evG 3 S (List.range S.N.length) (.Tuple ts k p))
      | some (some ns) => if namesOf ts = some ns then parE S E ts vs else wsFalse
      | none => wsFalse)
    | v => wAsg (E v) (evG 3 S (List.range S.N.length) (.Tuple ts k p))) else wsFalse
  | .Subscript (.Name x _) ix _ => if (noComp v && noSlice ix) = true then (match rdIx S x with
    | some i => wsOr (wSub i (opr S E ix) (E v)) (wSubD i (opr S E ix) (E v))
    | none => wsFalse) else wsFalse
  | _ => wsFalse
def raiseE (S : Sx) (e : Expr) : WS := match e with
  | .Call (.Name x _) [.Constant (.str _) _ _] [] _ => (match glE S x with
    | some .exc => wRaise x
    | _ => wsFalse)
  | _ => wsFalse
def sv (m : Nat) : Nat → Sx → Stmt → WS
  | 0, _, _ => wsFalse
  | n + 1, S, st => match st with
    | .Pass _ => wNx
    | .Break _ => wBk
    | .Continue _ => wCt
    | .Expr e _ => if noComp e = true then wEx ((ev m S).1 e) else wsFalse
    | .Return (some e) _ => wRet (retE S (ev m S).1 e)
    | .Return none _ => wRetN
    | .Raise (some e) none _ => raiseE S e
    | .Assign [tg] v _ => (match tg with
      | .Name y _ => (match wrIx S y with
        | some i => setE (ev m) S i v
        | none => wsFalse)
      | tg => asgE S (ev m S).1 tg v)
    | .AugAssign (.Name y _) op e _ => (match wrIx S y with
      | some i => (match op with
        | .Add => wAug i (opr S (ev m S).1 e)
        | .Sub => wAugSub i (opr S (ev m S).1 e)
        | _ => wsFalse)
      | none => wsFalse)
    | .If t a c _ => wIf ((ev m S).2 t) (a.foldr (fun s u => wSeq (sv m n S s) u) wNx) (c.foldr (fun s u => wSeq (sv m n S s) u) wNx)
    | .While t b [] _ => wWhile ((ev m S).2 t) (b.foldr (fun s u => wSeq (sv m n S s) u) wNx)
    | .For tg it b [] _ => if noSet it = true then wFor (evI S (ev m S).1 tg it) (evG 3 S (List.range S.N.length) tg) (b.foldr (fun s u => wSeq (sv m n S s) u) wNx) else wsFalse
    | _ => wsFalse
/-- a body -/
def svs (m n : Nat) (S : Sx) (b : List Stmt) : WS := b.foldr (fun s u => wSeq (sv m n S s) u) wNx

structure TOk (X : Cx) (E : XK) (S : Sx) : Prop extends SOk X E S where
  bk : X.env.blockKind = .function
  own : PassesOwn (model X.prog X.w) X.A X.env X.xe
  tk : Takes X (fun cls d _ H => E cls d H)
section
variable {X : Cx} {E : XK} {S : Sx} {r : EvR} (g : Good r) (o : TOk X E S)
theorem ds_or {st : Stmt} {w u : WS} (h : DS X E st w) (h' : DS X E st u) : DS X E st (wsOr w u) := ⟨fun pins s σ H D I q => by
  obtain ⟨b, F, σd, W, Dd, I2, x, q, e⟩ := q
  rcases q with q | q
  · exact h.run pins s σ H D I ⟨b, F, σd, W, Dd, I2, x, q, e⟩
  · exact h'.run pins s σ H D I ⟨b, F, σd, W, Dd, I2, x, q, e⟩⟩
include o
theorem SOk.nd' : X.N.Nodup := by rw [o.n]; exact o.nd
theorem ret_ok {rE : Expr → WE} (h : ∀ e, DE X E e (rE e)) (e : Expr) : DE X E e (retE S rE e) := by
  unfold retE
  split
  · split
    · rename_i i hi
      obtain ⟨h1, h2, h3, h4⟩ := o.toSOk.rd hi
      exact de_mv h1 h2 h3 h4
    · exact h _
  · exact h _
theorem raise_ok {e : Expr} {pos : Pos} : DS X E (.Raise (some e) none pos) (raiseE S e) := by
  unfold raiseE
  split
  · split
    · rename_i hx
      obtain ⟨h1, ⟨C, h2, h3, h4, h5⟩, h6, _⟩ := o.toSOk.gl hx
      exact ds_raise o.calm o.tk h3 h2 h4 h5 h1 h6
    · exact ds_false
  · exact ds_false
include g
theorem set_ok {i : Nat} {y : Str} {v : Expr} {py pos : Pos} (hi : wrIx S y = some i) : DS X E (.Assign [.Name y py] v pos) (setE r S i v) := by
  obtain ⟨h1, h2, h3⟩ := o.toSOk.wr hi
  have nd := SOk.nd' o
  unfold setE
  split
  · rename_i elt gens scope lpos
    split
    · split
      · rename_i tg it ifs as h0
        subst h0
        have hE := lc_okE (pos := lpos) g o.toSOk (elt := elt) (tg := tg) (it := it) (ifs := ifs) (scope := scope)
        have hsw : ∃ b, swapsWith (.ListComp elt [⟨tg, it, ifs, 0⟩] scope lpos) (some (.Name y py)) pos.line X.env = pure b ∧ (b = true → X.env.scope.names.lookup y = some .local) := by
          refine ⟨_, rfl, fun hb => ?_⟩
          simp only [Bool.and_eq_true] at hb
          have := hb.1.1.2
          exact beq_iff_eq.mp this
        obtain ⟨b, hb, hl⟩ := hsw
        cases b with
        | false => exact ds_set nd h1 h2 hE hb h3
        | true =>
          unfold lcE
          split
          · rename_i h
            rw [Bool.and_eq_true] at h
            exact ds_setLc o.calm nd h1 (hl rfl) hb (it_ok o.toSOk (g X E S o.toSOk).1) (by rw [o.n, o.sc]; exact blk_of h.1) rfl (fun s H C cl fp => tg_ok (o.toSOk.blk scope s H C cl fp) 3 tg) (fun s H C cl fp => tests_ok g o.toSOk (o.toSOk.blk scope s H C cl fp) ifs)
              (fun s H C cl fp => (g _ EF _ (o.toSOk.blk scope s H C cl fp)).1 elt) (folded_of h.2 X.env)
          · exact ⟨fun pins s σ H D I h => by
              obtain ⟨_, _, _, _, _, _, _, z, _⟩ := h
              exact z.elim⟩
      · exact ds_false
    · exact ds_false
  · split
    · rename_i hn
      exact ds_set nd h1 h2 ((g X E S o.toSOk).1 _) (swaps_of hn _ _ _) h3
    · exact ds_false

theorem par_ok {ts vs : List Expr} {k k2 : Nat} {p p2 pos : Pos} {ns : List Str} (hw : swN S.sc ts vs = some (some ns)) (hn : namesOf ts = some ns) : DS X E (.Assign [.Tuple ts k p] (.Tuple vs k2 p2) pos) (parE S (r S).1 ts vs) := by
  have nd := SOk.nd' o
  have hE := (g X E S o.toSOk).1
  have hsw := sw_ok (k := k) (p := p) (k2 := k2) (p2 := p2) o.sc o.bk hw
  have loc : ∀ {x}, kindB S.sc x .local = true → X.env.scope.names.lookup x = some .local := fun {x} h => by
    unfold kindB at h
    rw [o.sc]
    exact of_decide_eq_true h
  unfold parE
  split
  · rename_i x px y py a c
    cases hn
    split
    · rename_i i j hi hj
      split
      · rename_i h
        simp only [Bool.and_eq_true, Bool.not_eq_true', decide_eq_false_iff_not] at h
        obtain ⟨⟨h1, h2, h3⟩, h4, h5⟩ := h
        exact ds_par o.calm nd (o.toSOk.wr hi).1 (o.toSOk.wr hj).1 h1 (loc h2) (loc h3) (hE _) (hE _) (star_of h4 _ _) (star_of h5 _ _) hsw rfl
      · exact ds_false
    · exact ds_false
  · rename_i x px y py z pz a c d
    cases hn
    split
    · rename_i i j l hi hj hl
      split
      · rename_i h
        simp only [Bool.and_eq_true, Bool.not_eq_true', decide_eq_false_iff_not] at h
        obtain ⟨⟨⟨⟨h1, h2⟩, h3⟩, ⟨h4, h5⟩, h6⟩, ⟨h7, h8⟩, h9⟩ := h
        exact ds_par3 o.calm nd (o.toSOk.wr hi).1 (o.toSOk.wr hj).1 (o.toSOk.wr hl).1 h1 h2 h3 (loc h4) (loc h5) (loc h6) (hE _) (hE _) (hE _) (star_of h7 _ _) (star_of h8 _ _) (star_of h9 _ _) hsw rfl
      · exact ds_false
    · exact ds_false
  · exact ds_false
theorem asg_ok {tg v : Expr} {pos : Pos} : DS X E (.Assign [tg] v pos) (asgE S (r S).1 tg v) := by
  have nd := SOk.nd' o
  have hE := (g X E S o.toSOk).1
  unfold asgE
  split
  · split
    · rename_i hn
      split
      · split
        · rename_i hw
          exact ds_asg (hE _) (tg_ok o.toSOk 3 _) rfl (sw_ok o.sc o.bk hw) rfl
        · rename_i ns hw
          split
          · rename_i hs
            exact par_ok g o hw hs
          · exact ds_false
        · exact ds_false
      · rename_i hv
        have ht : isTup v = false := by
          cases v <;> first | rfl | exact absurd rfl (hv _ _ _)
        exact ds_asg (hE _) (tg_ok o.toSOk 3 _) (sole_of hn _ _ _) (sw_other ht) rfl
    · exact ds_false
  · split
    · rename_i hn
      rw [Bool.and_eq_true] at hn
      split
      · rename_i i hi
        obtain ⟨h1, h2, h3, h4⟩ := o.toSOk.rd hi
        have ha : ∀ {x : Str} {p tpos : Pos} {ix : Expr}, noSlice ix = true → ∀ v, assign (.Subscript (.Name x p) ix tpos) X.env v = (do
            let ov ← holding [v] (eval (.Name x p) X.env)
            let iv ← holding [v, ov] (eval ix X.env)
            standAt tpos
            holding [v, ov, iv] (setItem ov iv v)
            release [v, ov, iv] []) := fun {x p tpos ix} h v => by
          cases ix <;> first | rfl | cases h
        have hu : X.A.units + 1 < cLine := by
          have := o.units
          omega
        exact ds_or (ds_sub h1 h2 h3 h4 (hE _) (opr_ok o.toSOk hE _) (ha hn.2) (sole_of hn.1 _ _ _) rfl rfl) (ds_subD hu h1 h2 h3 h4 (hE _) (opr_ok o.toSOk hE _) (ha hn.2) (sole_of hn.1 _ _ _) rfl rfl)
      · exact ds_false
    · exact ds_false
  · exact ds_false
end
section
variable {X : Cx} {E : XK} {S : Sx} (o : TOk X E S) (m : Nat)
include o
theorem sv_ok : ∀ (n : Nat) (st : Stmt), DS X E st (sv m n S st)
  | 0, _ => ds_false
  | n + 1, st => by
    have g := ev_good m
    obtain ⟨hE, hT⟩ := g X E S o.toSOk
    have all : ∀ b : List Stmt, DSs X E b (b.foldr (fun s u => wSeq (sv m n S s) u) wNx) := by
      intro b
      induction b with
      | nil => exact dss_nil
      | cons s b ih => exact dss_cons (w := sv m n S s) (u := b.foldr (fun s u => wSeq (sv m n S s) u) wNx) (sv_ok n s) ih
    unfold sv
    split
    · exact ds_pass
    · exact ds_break
    · exact ds_continue
    · split
      · rename_i h
        exact ds_expr (hE _) (swaps_of h _ _ _)
      · exact ds_false
    · exact ds_ret (ret_ok o hE _)
    · exact ds_retN
    · exact raise_ok o
    · split
      · split
        · rename_i hi
          exact set_ok g o hi
        · exact ds_false
      · exact asg_ok g o
    · split
      · rename_i hi
        obtain ⟨h1, h2, h3⟩ := o.toSOk.wr hi
        split
        · exact ds_aug (SOk.nd' o) h1 h2 (opr_ok o.toSOk hE _) h3
        · exact ds_augSub (SOk.nd' o) h1 h2 (opr_ok o.toSOk hE _) h3
        · exact ds_false
      · exact ds_false
    · exact ds_if (hT _) (all _) (all _)
    · exact ds_while o.own (hT _) (all _)
    · split
      · rename_i h
        exact ds_for o.own o.calm (it_ok o.toSOk hE) (tg_ok o.toSOk 3 _) (all _) (folded_of h X.env)
      · exact ds_false
    · exact ds_false
theorem svs_ok (n : Nat) : ∀ b : List Stmt, DSs X E b (svs m n S b)
  | [] => dss_nil
  | s :: b => dss_cons (w := sv m n S s) (u := svs m n S b) (sv_ok o m n s) (svs_ok n b)
end
end DL
end L2
set_option Elab.async false
set_option maxRecDepth 100000
set_option maxHeartbeats 1000000
/-! The data layer, part 13: a def by its tree. -/
namespace L2
open PySem PySem.Spec PyProof.Rows
namespace DL

/-- a global name, told without a context; k: so many calls deep -/
def GlobOk (P : Program) (w : World) (K : PySem.W.Frag) (mg : Str → Option Value) (base : Heap) (k : Nat) (x : Str) : GE → Prop
  | .fn fi => ∃ f fd ps, FnOk P w K mg base (L2.CX P w) k f fd ps (spD K mg fi) ∧ mg x = some (.ref f) ∧ PySem.W.keepIn K (.ref f) = true ∧ Binds K fd ps []
  | .fnZ fi _ => ∃ f fd ps, FnOk P w K mg base (L2.CX P w) k f fd ps (spD K mg fi) ∧ mg x = some (.ref f) ∧ PySem.W.keepIn K (.ref f) = true ∧ Binds K fd ps []
  | .blt => mg x = none
  | .cst d => ∃ v u, mg x = some u ∧ RelV v u ∧ ∀ F, Dp K F v d
  | .exc => ∃ C, mg x = some (.ref C) ∧ PySem.W.excIn K C He.veBase "ValueError.__new__" = true ∧ PySem.W.keepIn K (.ref C) = true ∧ (PySem.W.subIn K (.ref C) (.type "BaseException") = some true ∧ PySem.W.typeIn K (.ref C) = some (.type "type"))
section
variable {P : Program} {w : World} {K : PySem.W.Frag} {mg : Str → Option Value} {base : Heap} {x qual : Str} {params : Arguments} {body : List Stmt} {scope : Scope} {dvs : List V} {kws : List (Str × V)} {f : Addr} {fd : FuncData} {N ps : List Str} {j k m a b : Nat} {fi : FI} {G : List (Str × GE)}
theorem GlobOk.mono (h : j ≤ k) : ∀ {y : GE}, GlobOk P w K mg base j x y → GlobOk P w K mg base k x y
  | .fn _, ⟨f, fd, ps, F, r⟩ => ⟨f, fd, ps, F.mono h, r⟩
  | .fnZ _ _, ⟨f, fd, ps, F, r⟩ => ⟨f, fd, ps, F.mono h, r⟩
  | .blt, h => h
  | .cst _, h => h
  | .exc, h => h
theorem def_ev (F : FunD K x qual params body scope dvs kws f fd) (S : FnScope N ps scope) (hp : ps.length = fi.n) (hN : N.length = fi.n + m) (hG : ∀ y g, G.lookup y = some g → GlobOk P w K mg base k y g)
    (rd : Reads fi m (svs a b ⟨scope, N, fun _ => true, G⟩ body)) : FnOk P w K mg base (L2.CX P w) (k + 1) f fd ps (spD K mg fi) := by
  refine def_x F S hp hN rd fun cdv A outer s H E hr => svs_ok ⟨⟨rfl, rfl, S.nd, rfl, fun _ _ => rfl, fun y g hg => ?_, hr.units, ?_⟩, ?_, passes_of rfl, takes_of rfl rfl rfl rfl⟩ a b body
  · have q := hG y g hg
    cases g with
    | fn fi => obtain ⟨f, fd, ps, h1, h2, h3, h4⟩ := q; exact ⟨k, f, fd, ps, h1, hr, h2, h3, h4⟩
    | fnZ fi j => obtain ⟨f, fd, ps, h1, h2, h3, h4⟩ := q; exact ⟨k, f, fd, ps, h1, hr, h2, h3, h4⟩
    | blt => exact q
    | cst d => exact q
    | exc => obtain ⟨C, h1, h2, h3, h4, h5⟩ := q; exact ⟨C, h1, h2, h3, raises_own h4 h5⟩
  · exact passes_call (takes_of rfl rfl rfl rfl) fun _ _ _ _ h => h
  · show (if scope.kind.isAnnotationScope = true then ScopeKind.function else scope.kind) = .function
    rw [S.kind]
    rfl
/-- the same, as a global -/
theorem glob_ev (F : FunD K x qual params body scope [] [] f fd) (hm : mg x = some (.ref f)) (S : FnScope N ps scope) (hp : ps.length = fi.n) (hN : N.length = fi.n + m) (hb : Binds K fd ps []) (hG : ∀ y g, G.lookup y = some g → GlobOk P w K mg base k y g)
    (rd : Reads fi m (svs a b ⟨scope, N, fun _ => true, G⟩ body)) : GlobOk P w K mg base (k + 1) x (.fn fi) := ⟨f, fd, ps, def_ev F S hp hN hG rd, hm, F.kp, hb⟩
theorem glob_z (h : GlobOk P w K mg base k x (.fn fi)) : GlobOk P w K mg base k x (.fnZ fi j) := h
/-! tables -/
theorem gl_nil : ∀ y g, List.lookup y ([] : List (Str × GE)) = some g → GlobOk P w K mg base k y g := fun _ _ h => by cases h
theorem gl_cons {y : Str} {g : GE} {G : List (Str × GE)} (h : GlobOk P w K mg base k y g) (t : ∀ y g, G.lookup y = some g → GlobOk P w K mg base k y g) : ∀ z u, List.lookup z ((y, g) :: G) = some u → GlobOk P w K mg base k z u := fun z u e => by
  rw [List.lookup_cons] at e
  split at e
  · rename_i q
    cases e
    rw [beq_iff_eq.mp q]
    exact h
  · exact t z u e
end
end DL
end L2
set_option Elab.async false
set_option maxRecDepth 100000
set_option maxHeartbeats 1000000
/-! The data layer, part 17: a def that catches. -/
namespace L2
open PySem PySem.Spec PyProof.Rows
namespace DL

/-- what a clause's return gives: a truth, a text, a list of truths -/
inductive HV where
  | b (k : Bool)
  | s (x : Str)
  | l (ks : List Bool)
def HV.rv : HV → Rv
  | .b k => .d (.bool k)
  | .s x => .d (.str x)
  | .l ks => .f (.list (ks.map .bool))
def hvL : List (Option HV) → Option (List Bool)
  | [] => some []
  | some (.b k) :: r => (hvL r).map (k :: ·)
  | _ => none
def isExc (S : Sx) (c : Str) : Bool := match glE S c with
  | some .exc => true
  | _ => false
/-- e by what isinstance(n, c) tells -/
def hvE (S : Sx) (n : Str) (t : Str → Option Bool) : Nat → Expr → Option HV
  | 0, _ => none
  | m + 1, e => match e with
    | .Call (.Name f _) args [] _ => (match args with
      | [.Name y _, .Name c _] => if f = "isinstance" ∧ y = n ∧ isBlt S f = true ∧ isExc S c = true then (t c).map .b else none
      | _ => none)
    | .List es _ => if es.all noStar = true then (hvL (es.map (hvE S n t m))).map .l else none
    | .IfExp c x y _ => if plainT c = true then (match hvE S n t m c with
      | some (.b true) => hvE S n t m x
      | some (.b false) => hvE S n t m y
      | _ => none) else none
    | .Constant (.str x) _ _ => some (.s x)
    | _ => none
def tHV (i : Nat) (a : Addr) (v : HV) : TE := fun σ H Q => σ[i]? = some (some (.ref a)) ∧ (match v with
  | .b k => Q (.bl k) H
  | .s x => Q (.str x) H
  | .l ks => ks.length ≤ sizeLine ∧ ∀ p, H p = none → Q (.ref p) (upd H p (.lst (ks.map .bl))))
/-- what is known of the classes of errors: does nm's instance be one of c's -/
def ExF (K : PySem.W.Frag) (mg : Str → Option Value) (tbl : Str → Str → Option Bool) : Prop := ∀ nm c b, tbl nm c = some b →
  ∃ D C, mg nm = some (.ref D) ∧ mg c = some (.ref C) ∧ PySem.W.exmOne K (.ref D) (.ref C) = some b ∧ PySem.W.kitOne K (.ref D) (.ref C) = some b ∧ ExcC K D
def tHVs (i : Nat) (a : Addr) (ks : List Bool) : TA := fun σ H Q => σ[i]? = some (some (.ref a)) ∧ Q (ks.map .bl) H
theorem pe_no {X : Cx} {e : Expr} : PE X e (fun _ _ _ => False) := ⟨fun _ _ _ _ _ _ q => q.elim⟩
section
variable {X : Cx} {S : Sx} {i : Nat} {n : Str} {tbl : Str → Str → Option Bool} {nm : Str} {D a : Addr} {oe : Obj} {pn : List (Addr × Obj)}
theorem hv_ok (hn : X.N = S.N) (hsc : X.env.scope = S.sc) (hi : rdIx S n = some i) (hG : ∀ x y, S.G.lookup x = some y → GOk X x y) (ex : ExF X.K X.mg tbl) (hD : X.mg nm = some (.ref D)) (hz : Zc (.ref D) none oe) (hf : ∃ vs, oe.data = .fields vs) (some_ : ∃ c b, tbl nm c = some b) :
    ∀ (m : Nat) (e : Expr) (v : HV), hvE S n (tbl nm) m e = some v → PE (X.suite a ((a, oe) :: pn)) e (tHV i a v) := by
  have oc : ExcC X.K D := by
    obtain ⟨c, b, e⟩ := some_
    obtain ⟨D', C, h1, _, _, _, h2⟩ := ex nm c b e
    rw [hD] at h1
    cases h1
    exact h2
  have rd : (X.suite a ((a, oe) :: pn)).N[i]? = some n ∧ Vis (X.suite a ((a, oe) :: pn)).env.scope n ∧ (n == ("__debug__" : Str)) = false ∧ (n == ("__classdict__" : Str)) = false := by
    unfold rdIx at hi
    split at hi
    · rename_i hv
      unfold visB kindB at hv
      simp only [Bool.and_eq_true, Bool.or_eq_true, decide_eq_true_eq, Bool.not_eq_true'] at hv
      show X.N[i]? = some n ∧ Vis X.env.scope n ∧ _
      rw [hn, hsc]
      exact ⟨ixOf_ok hi, hv.1, hv.2.1, hv.2.2⟩
    · cases hi
  have gl : ∀ {x : Str} {y : GE}, glE S x = some y → Gl (X.suite a ((a, oe) :: pn)) x ∧ GOk X x y ∧ (x == ("__debug__" : Str)) = false ∧ x ≠ "__name__" := fun {x y} h => by
    unfold glE at h
    split at h
    · rename_i hv
      unfold kindB at hv
      simp only [Bool.and_eq_true, decide_eq_true_eq, Bool.not_eq_true', decide_eq_false_iff_not] at hv
      refine ⟨?_, hG x y h, hv.2.1, hv.2.2⟩
      show X.env.scope.names.lookup x = some .globalImplicit
      rw [hsc]
      exact hv.1
    · cases h
  intro m
  induction m with
  | zero => exact fun e v h => by cases h
  | succ m ih =>
    intro e v h
    unfold hvE at h
    split at h
    · rename_i f p args pos
      split at h
      · rename_i y py c pc
        split at h
        · rename_i hc
          obtain ⟨rfl, rfl, hb, hcls⟩ := hc
          cases q : tbl nm c with
          | none => rw [q] at h; cases h
          | some k =>
            rw [q] at h
            cases h
            obtain ⟨D', C, h1, h2, _, h4, _⟩ := ex nm c k q
            rw [hD] at h1
            cases h1
            have gc : Gl (X.suite a ((a, oe) :: pn)) c ∧ (c == ("__debug__" : Str)) = false := by
              unfold isExc at hcls
              split at hcls
              · rename_i z
                exact ⟨(gl z).1, (gl z).2.2.1⟩
              · cases hcls
            have gi : Gl (X.suite a ((a, oe) :: pn)) "isinstance" ∧ X.mg "isinstance" = none := by
              unfold isBlt at hb
              split at hb
              · rename_i z
                exact ⟨(gl z).1, (gl z).2.1⟩
              · cases hb
            refine (pe_callB (X := X.suite a ((a, oe) :: pn)) (call_isE oc hz hf) gi.1 gi.2 boot_isinstance (pa_cons (pe_var rd.1 rd.2.1 rd.2.2.1 rd.2.2.2) (pa_cons (pe_glob gc.1 h2 (v := .ref C) rfl gc.2) pa_nil rfl) rfl) (by decide) (by decide) rfl rfl).imp fun σ H Q ⟨hσ, hq⟩ => ?_
            refine ⟨.ref a, hσ, ?_⟩
            exact ⟨.ref C, .ref C, k, rfl, fun u r => r, h4, hq⟩
        · cases h
      · cases h
    · rename_i es pos
      split at h
      · rename_i hs
        have go : ∀ (es : List Expr) (ks : List Bool), es.all noStar = true → hvL (es.map (hvE S n (tbl nm) m)) = some ks → PA (X.suite a ((a, oe) :: pn)) es (tHVs i a ks) := by
          intro es
          induction es with
          | nil =>
            intro ks _ hk
            cases hk
            exact pa_nil.imp fun σ H Q ⟨_, hq⟩ => hq
          | cons e es ih2 =>
            intro ks hs hk
            rw [List.all_cons, Bool.and_eq_true] at hs
            rw [List.map_cons] at hk
            cases z : hvE S n (tbl nm) m e with
            | none => rw [z] at hk; cases hk
            | some w =>
              rw [z] at hk
              cases w with
              | b k =>
                unfold hvL at hk
                cases z2 : hvL (es.map (hvE S n (tbl nm) m)) with
                | none => rw [z2] at hk; cases hk
                | some ks2 =>
                  rw [z2] at hk
                  cases hk
                  exact (pa_cons (ih e _ z) (ih2 ks2 hs.2 z2) (star_of hs.1 _ _)).imp fun σ H Q ⟨hσ, hq⟩ => ⟨hσ, hσ, hq⟩
              | s x => cases hk
              | l x => cases hk
        cases z : hvL (es.map (hvE S n (tbl nm) m)) with
        | none => rw [z] at h; cases h
        | some ks =>
          rw [z] at h
          cases h
          exact (pe_lst (go es ks hs z)).imp fun σ H Q ⟨hσ, hl, hq⟩ => ⟨hσ, by rw [List.length_map]; exact hl, hq⟩
      · cases h
    · rename_i c x y pos
      split at h
      · rename_i hp
        cases z : hvE S n (tbl nm) m c with
        | none => rw [z] at h; cases h
        | some w =>
          rw [z] at h
          cases w with
          | b k =>
            have hc := pt_val (ih c _ z) (isTrue_of hp _)
            cases k with
            | true => exact (pe_ifExp hc (ih x v h) pe_no).imp fun σ H Q hq => ⟨hq.1, true, rfl, hq⟩
            | false => exact (pe_ifExp hc pe_no (ih y v h)).imp fun σ H Q hq => ⟨hq.1, false, rfl, hq⟩
          | s x => cases h
          | l x => cases h
      · cases h
    · cases h
      exact pe_str.imp fun σ H Q ⟨_, hq⟩ => hq
    · cases h
end
end DL
end L2
set_option Elab.async false
set_option maxRecDepth 100000
set_option maxHeartbeats 1000000
/-! The data layer, part 18: a def that catches, by its tree. -/
namespace L2
open PySem PySem.Spec PyProof.Rows
namespace DL
section
variable {P : Program} {w : World} {K : PySem.W.Frag} {mg : Str → Option Value} {base : Heap} {x qual : Str} {params : Arguments} {body : List Stmt} {scope : Scope} {dvs : List V} {kws : List (Str × V)} {f : Addr} {fd : FuncData} {N ps : List Str} {j k m a b : Nat} {fi : FI} {G : List (Str × GE)}
theorem tok_def (S : FnScope N ps scope) (hG : ∀ y g, G.lookup y = some g → GlobOk P w K mg base k y g) {cdv : Value} {A : Around} {outer : List Env} {s : Shared} {H : Hp} {E : XK} (hr : Room k (A.deeper (envOfC qual scope s.heap.objs.size f cdv))) :
    TOk (cxOf (L2.CX P w) P w K mg base N qual scope f cdv A outer s H E) E ⟨scope, N, fun _ => true, G⟩ := by
  refine ⟨⟨rfl, rfl, S.nd, rfl, fun _ _ => rfl, fun y g hg => ?_, hr.units, ?_⟩, ?_, passes_of rfl, takes_of rfl rfl rfl rfl⟩
  · have q := hG y g hg
    cases g with
    | fn fi => obtain ⟨f, fd, ps, h1, h2, h3, h4⟩ := q; exact ⟨k, f, fd, ps, h1, hr, h2, h3, h4⟩
    | fnZ fi j => obtain ⟨f, fd, ps, h1, h2, h3, h4⟩ := q; exact ⟨k, f, fd, ps, h1, hr, h2, h3, h4⟩
    | blt => exact q
    | cst d => exact q
    | exc => obtain ⟨C, h1, h2, h3, h4, h5⟩ := q; exact ⟨C, h1, h2, h3, raises_own h4 h5⟩
  · exact passes_call (takes_of rfl rfl rfl rfl) fun _ _ _ _ h => h
  · show (if scope.kind.isAnnotationScope = true then ScopeKind.function else scope.kind) = .function
    rw [S.kind]
    rfl
end
/-- what the body of a try may let out -/
def eTr (N : List Str) (W : WX) : XK := fun cls d H => ∀ σ : St, σ.length = N.length → W cls d σ H
theorem TOk.tr {X : Cx} {E : XK} {S : Sx} (o : TOk X E S) {W : WX} {pn : List (Addr × Obj)} {xe : Value → Shared → Prop} (tk : Takes (X.tr pn xe) W) (ow : PassesOwn (model X.prog X.w) X.A X.env xe) : TOk (X.tr pn xe) (eTr X.N W) S := by
  refine ⟨⟨o.n, o.sc, o.nd, o.calm, o.fnc, fun x y h => ?_, o.units, ?_⟩, o.bk, ow, ?_⟩
  · have q := o.g x y h
    cases y with
    | fn fi => exact q
    | fnZ fi j => exact q
    | blt => exact q
    | cst d => exact q
    | exc => exact q
  · exact fun pins σ H s e s' I c => tk e s' (XE.of_call I (fun cls d H' h => h σ I.len) c)
  · rintro u s' ⟨a, B, sI, pins, σ, H, cls, d, e, I, nb, up, sky, na, os, ag, h⟩
    exact tk u s' ⟨a, B, sI, pins, σ, H, cls, d, e, I, nb, up, sky, na, os, ag, h σ I.len⟩
/-- what a clause does -/
def tsTry (i : Nat) (K : PySem.W.Frag) (mg : Str → Option Value) (hv : Str → Option HV) (a : Addr) (cls : Value) (d : Option Addr) : TS := fun D σ H => ∃ nm C v, cls = .ref C ∧ d = none ∧ mg nm = some (.ref C) ∧ hv nm = some v ∧ tHV i a v σ H D.rt
def HV.fits : HV → Prop
  | .l ks => ks.length ≤ sizeLine
  | _ => True
/-- what the body of the try is to wish of errors -/
def xTry (tbl : Str → Str → Option Bool) (c : Str) (hv : Str → Option HV) (Q : Rv → Prop) (X : XW) : XW := fun nm => (tbl nm c = some true ∧ ∃ v, hv nm = some v ∧ v.fits ∧ Q v.rv) ∨ (tbl nm c = some false ∧ X nm)
section
variable {X : Cx} {E : XK} {S : Sx} {i a b : Nat} {B tail : List Stmt} {c n : Str} {e : Expr} {np rp hpos tpos : Pos} {tbl : Str → Str → Option Bool} {C : Addr} {wB wT : WS}
theorem suite_ok (o : TOk X E S) (hi : rdIx S n = some i) (ex : ExF X.K X.mg tbl) (ae : Addr) (oe : Obj) (cls : Value) (d : Option Addr) (pn : List (Addr × Obj)) (hz : Zc cls d oe) (hf : ∃ vs, oe.data = .fields vs) :
    PSs (X.suite ae ((ae, oe) :: pn)) [.Return (some e) rp] (fun D σ H => ∃ nm C v b, cls = .ref C ∧ d = none ∧ X.mg nm = some (.ref C) ∧ hvE S n (tbl nm) 30 e = some v ∧ tbl nm c = some b ∧ tHV i ae v σ H D.rt) := by
  refine ⟨fun pins s σ H D I ⟨nm, D', v, b, e1, e2, e3, e4, e5, h⟩ => ?_⟩
  subst e1 e2
  have pe := hv_ok (a := ae) (pn := pn) o.n o.sc hi o.g ex e3 hz hf ⟨c, b, e5⟩ 30 e v e4
  exact (pss_one (ps_ret pe)).run pins s σ H D I h
end
theorem bols_dpa {K : PySem.W.Frag} {F : Hp} : ∀ ks : List Bool, DpAll K F (ks.map V.bl) (ks.map PyData.bool)
  | [] => .nil
  | k :: ks => .cons (.bl k) (bols_dpa ks)
section
variable {P : Program} {w : World} {K : PySem.W.Frag} {mg : Str → Option Value} {base : Heap} {x qual : Str} {params : Arguments} {body : List Stmt} {scope : Scope} {dvs : List V} {kws : List (Str × V)} {f : Addr} {fd : FuncData} {N ps : List Str} {j k m a b i : Nat} {fi : FI} {G : List (Str × GE)}
  {B tail : List Stmt} {c n : Str} {e : Expr} {np rp hpos tpos : Pos} {tbl : Str → Str → Option Bool}
theorem def_try (F : FunD K x qual params body scope dvs kws f fd) (S : FnScope N ps scope) (hp : ps.length = fi.n) (hN : N.length = fi.n + m) (hix : fi.ix = none) (hG : ∀ y g, G.lookup y = some g → GlobOk P w K mg base k y g)
    (hbody : body = .Try B [.ExceptHandler (some (.Name c np)) (some n) [.Return (some e) rp] hpos] [] [] tpos :: tail)
    (hi : rdIx ⟨scope, N, fun _ => true, G⟩ n = some i) (hl : kindB scope n .local = true) (hc : isExc ⟨scope, N, fun _ => true, G⟩ c = true) (ex : ExF K mg tbl)
    (rd : ∀ ds Qd X, ds.length = fi.n → fi.sp ds Qd X → svs a b ⟨scope, N, fun _ => true, G⟩ B (xTry tbl c (fun nm => hvE ⟨scope, N, fun _ => true, G⟩ n (tbl nm) 30 e) (fun r => Qd r .none) X)
      ⟨svs a b ⟨scope, N, fun _ => true, G⟩ tail X ⟨fun σ => Qd (.d .none) .none, fun r σ => Qd r .none, fun _ => False, fun _ => False⟩, fun r σ => Qd r .none, fun _ => False, fun _ => False⟩ (startD fi.ix m 0 ds)) :
    FnOk P w K mg base (L2.CX P w) (k + 1) f fd ps (spD K mg fi) := by
  refine F.ok S (fun vs H Q E h => ?_) (fun cdv A outer s H vs Q E hr h => ?_)
  · obtain ⟨_, _, _, _, _, hv, _⟩ := h
    rw [hv, hp]
  · obtain ⟨Fz, ds, Wx, Qd, g, hv, hd, args, hs, q, xo⟩ := h
    have o := tok_def (qual := qual) (f := f) S hG (cdv := cdv) (outer := outer) (H := H) (E := E) hr
    have gc : Gl (cxOf (L2.CX P w) P w K mg base N qual scope f cdv A outer s H E) c ∧ ∃ C, mg c = some (.ref C) ∧ (c == ("__debug__" : Str)) = false := by
      unfold isExc at hc
      split at hc
      · rename_i z
        obtain ⟨h1, ⟨C, h2, _⟩, h3, _⟩ := o.toSOk.gl z
        exact ⟨h1, C, h2, h3⟩
      · cases hc
    obtain ⟨gc, C, mC, hdb⟩ := gc
    have hloc : (cxOf (L2.CX P w) P w K mg base N qual scope f cdv A outer s H E).env.kindOf n = some .local := of_decide_eq_true (show kindB scope n .local = true from hl)
    have main := ps_try_as (X := cxOf (L2.CX P w) P w K mg base N qual scope f cdv A outer s H E) (x := c) (np := np) (c := .ref C) (pos' := hpos) (pos := tpos) (Wout := fun cls d _ H => E cls d H)
      (tb := fun W => tDS K mg (eTr N W) (svs a b ⟨scope, N, fun _ => true, G⟩ B)) (body := B) (b₀ := .Return (some e) rp) (suite := [])
      rfl rfl S.nd (o.toSOk.rd hi).1 hloc ⟨gc, hdb, .inl mC⟩ o.tk (fun W pn xe tk ow => svs_ok (o.tr tk ow) a b B)
      (fun ae oe cls d pn hz hf => suite_ok (c := c) (e := e) (rp := rp) o hi ex ae oe cls d pn hz hf)
    have all := pss_cons main (svs_ok o a b tail)
    rw [hbody]
    refine ⟨_, all, ?_⟩
    have hps : psOf fi.ix vs = [] := by rw [hix]; rfl
    rw [hps] at q xo
    have fin : ∀ {v : V} {r : Rv} {F' H' : Hp}, Ext ⟨H, Fz, [], []⟩ F' H' → RetR K H F' H' v r → Qd r .none → Q v H' := fun {v r F' H'} ex rr h => q v r .none F' H' ex rr (fun p hp => by cases hp) h
    have I := start_iv (K := K) (N := N) (m := m) hN g hv hd args
    rw [hps] at I
    have h0 := rd ds Qd Wx hd hs
    have ioc : ∀ σ, ioC fi.ix σ = .none := fun σ => by rw [hix]; rfl
    have back : ∀ {v : V} {r : Rv} {σ' : St} {F' H' : Hp} {σd' : SD}, Iv K ⟨H, Fz, [], []⟩ F' H' σ' σd' → RvR K ⟨H, Fz, [], []⟩ F' H' σ' σd' v r → Qd r .none → Q v H' := fun {v r σ' F' H' σd'} I' rr h => by
      refine fin I'.toExt ?_ h
      cases r with
      | d y => exact rr
      | f y =>
        obtain ⟨p, e, f⟩ := rr
        exact ⟨p, e, f.fz, f.h0, f.at_⟩
    refine ⟨⟨H, Fz, [], []⟩, Fz, _, _, _, I, ?_, h0, ⟨fun σ' F' H' σd' I' g' h' => ?_, fun v r σ' F' H' σd' I' rr _ hq => back I' rr hq, fun _ _ _ _ _ _ z => z.elim, fun _ _ _ _ _ _ z => z.elim⟩⟩
    · -- an error
      intro nm D F' H' hx hm ext σ' hσ
      rcases hx with ⟨t1, v, hv', fits, hq⟩ | ⟨t1, hx⟩
      · obtain ⟨D', C', m1, m2, e1, e2, oc⟩ := ex nm c true t1
        rw [hm] at m1
        rw [mC] at m2
        cases m1
        cases m2
        refine ⟨true, e1, fun _ ae _ => ⟨nm, D, v, true, rfl, rfl, hm, hv', t1, ?_, ?_⟩, fun z => by cases z⟩
        · have hlt : i < N.length := by
            have := (o.toSOk.rd hi).1
            exact (List.getElem?_eq_some_iff.mp this).1
          rw [List.getElem?_set_self (by rw [hσ]; exact hlt)]
        · cases v with
          | b k => exact fin (r := .d (.bool k)) ext (Dp.bl k) hq
          | s y => exact fin (r := .d (.str y)) ext (Dp.str y) hq
          | l ks =>
            refine ⟨fits, fun p hp => ?_⟩
            have fp : F' p = none := by
              cases z : F' p with
              | none => rfl
              | some u => rw [ext.sub _ _ z] at hp; cases hp
            have h0p : H p = none := by
              cases z : H p with
              | none => rfl
              | some u => exact absurd hp (ext.trk p (show H p ≠ none from by rw [z]; exact fun z => by cases z))
            have ext2 : Ext ⟨H, Fz, [], []⟩ F' (upd H' p (.lst (ks.map .bl))) := by
              refine ⟨fun y u z => ?_, ext.old, fun y u z hy => ?_, fun y z => ?_⟩
              · rw [upd_ne (ne_of_none z fp)]
                exact ext.sub _ _ z
              · rw [upd_ne (ne_of_none z h0p)]
                exact ext.keep y u z hy
              · rw [upd_ne (fun (e : y = p) => z (show H y = none from by rw [e]; exact h0p))]
                exact ext.trk y z
            refine fin (r := .f (.list (ks.map .bool))) ext2 ⟨p, rfl, fp, h0p, ks.map .bl, upd_same, ?_⟩ hq
            exact bols_dpa ks
      · obtain ⟨D', C', m1, m2, e1, e2, oc⟩ := ex nm c false t1
        rw [hm] at m1
        rw [mC] at m2
        cases m1
        cases m2
        exact ⟨false, e1, fun z => (by cases z), fun _ => xo nm D F' H' hx hm ext⟩
    · -- behind the try
      exact ⟨⟨H, Fz, [], []⟩, F', σd', Wx, _, I', xo, h', ⟨fun σ2 F2 H2 σd2 I2 _ hq => back (r := .d .none) I2 Dp.non hq, fun v r σ2 F2 H2 σd2 I2 rr _ hq => back I2 rr hq, fun _ _ _ _ _ _ z => z.elim, fun _ _ _ _ _ _ z => z.elim⟩⟩
end
end DL
end L2
set_option Elab.async false
set_option maxRecDepth 100000
set_option maxHeartbeats 1000000
/-! The data layer, part 20: rows for simp; loops. -/
namespace L2
open PySem PySem.Spec PyProof.Rows
namespace DL

/-- by a truth -/
def onB (r : Rv) (A B : Prop) : Prop := match r with
  | .d (.bool true) => A
  | .d (.bool false) => B
  | _ => False
def onO (r : Rv) (A B : Prop) : Prop := match r with
  | .d (.bool false) => A
  | .d (.bool true) => B
  | _ => False
def onT (r : Rv) (F : Bool → Prop) : Prop := match r with
  | .d (.bool k) => F k
  | _ => False
@[simp] theorem onB_b {b : Bool} {A B : Prop} : onB (.d (.bool b)) A B ↔ if b = true then A else B := by cases b <;> simp [onB]
@[simp] theorem onO_b {b : Bool} {A B : Prop} : onO (.d (.bool b)) A B ↔ if b = true then B else A := by cases b <;> simp [onO]
@[simp] theorem onT_b {b : Bool} {F : Bool → Prop} : onT (.d (.bool b)) F ↔ F b := Iff.rfl
/-- a slot that may be set -/
def freeSl (s : Option Sl) : Prop := match s with
  | some (.io _) => False
  | none => False
  | _ => True
@[simp] theorem free_un : freeSl (some .un) ↔ True := Iff.rfl
@[simp] theorem free_val {d : D} : freeSl (some (.val d)) ↔ True := Iff.rfl
@[simp] theorem free_own {d : D} : freeSl (some (.own d)) ↔ True := Iff.rfl
@[simp] theorem free_io {d : D} : freeSl (some (.io d)) ↔ False := Iff.rfl
section
variable {X : XW} {D' : EndsD} {σ : SD} {Q : Rv → SD → Prop} {QT : Bool → SD → Prop} {a c e o u : Opd} {w w' v : WE} {t t' : WT} {s s' : WS} {os : List Opd} {i j l : Nat} {d : D} {p p' : P2} {p1 : P1} {pl : PL} {fi : FI} {wi : WI} {g : WG} {gs : WGs} {vs : List Nat}
@[simp] theorem s_nx : wNx X D' σ ↔ D'.nx σ := Iff.rfl
@[simp] theorem s_seq : wSeq s s' X D' σ ↔ s X { D' with nx := fun σ1 => s' X D' σ1 } σ := Iff.rfl
@[simp] theorem s_ex : wEx w X D' σ ↔ w X σ fun _ σ1 => D'.nx σ1 := Iff.rfl
@[simp] theorem s_ret : wRet w X D' σ ↔ w X σ fun r σ1 => D'.rt r σ1 := Iff.rfl
@[simp] theorem s_retN : wRetN X D' σ ↔ D'.rt (.d .none) σ := Iff.rfl
@[simp] theorem s_if : wIf t s s' X D' σ ↔ t X σ fun k σ1 => if k = true then s X D' σ1 else s' X D' σ1 := Iff.rfl
@[simp] theorem s_bk : wBk X D' σ ↔ D'.bk σ := Iff.rfl
@[simp] theorem s_ct : wCt X D' σ ↔ D'.ct σ := Iff.rfl
@[simp] theorem s_set : wSet i w X D' σ ↔ w X σ fun r σ1 => noIo σ1 i ∧ D'.nx (σ1.set i (slOf r)) := Iff.rfl
@[simp] theorem s_for : wFor wi g s X D' σ ↔ wi X σ fun items σ1 => forD X D' g s items σ1 := Iff.rfl
@[simp] theorem s_raise {nm : Str} : wRaise nm X D' σ ↔ X nm := Iff.rfl
@[simp] theorem s_asg : wAsg w g X D' σ ↔ w X σ (dz fun d σ1 => g d σ1 D'.nx) := Iff.rfl
@[simp] theorem s_sets2 : wSets2 i j w w' X D' σ ↔ w X σ fun r1 σ1 => w' X σ1 fun r2 σ2 => noIo σ2 i ∧ noIo σ2 j ∧ D'.nx ((σ2.set i (slOf r1)).set j (slOf r2)) := Iff.rfl
@[simp] theorem s_sets3 : wSets3 i j l w w' v X D' σ ↔ w X σ fun r1 σ1 => w' X σ1 fun r2 σ2 => v X σ2 fun r3 σ3 => noIo σ3 i ∧ noIo σ3 j ∧ noIo σ3 l ∧ D'.nx (((σ3.set i (slOf r1)).set j (slOf r2)).set l (slOf r3)) := Iff.rfl
@[simp] theorem s_c : wC d X σ Q ↔ Q (.d d) σ := Iff.rfl
@[simp] theorem s_w1 : w1 p1 a X σ Q ↔ wO a X σ fun x σ1 => ∃ d, rs σ1 x = some d ∧ p1 d fun r => Q r σ1 := Iff.rfl
@[simp] theorem s_w2 : w2 p a c X σ Q ↔ wO a X σ fun x σ1 => wO c X σ1 fun y σ2 => ∃ d e, rs σ2 x = some d ∧ rs σ2 y = some e ∧ p d e fun r => Q r σ2 := Iff.rfl
@[simp] theorem s_wL : wL pl os X σ Q ↔ wOs os X σ fun xs σ1 => ∃ ds, rsL σ1 xs = some ds ∧ pl ds fun r => Q r σ1 := Iff.rfl
@[simp] theorem s_oex {R : AV → SD → Prop} : wO (.ex w) X σ R ↔ w X σ (dz fun d σ' => R (.d d) σ') := Iff.rfl
@[simp] theorem s_obr {R : AV → SD → Prop} : wO (.br i) X σ R ↔ (∃ d, rs σ (.b i) = some d) ∧ R (.b i) σ := Iff.rfl
@[simp] theorem s_os0 {R : List AV → SD → Prop} : wOs [] X σ R ↔ R [] σ := Iff.rfl
@[simp] theorem s_os1 {R : List AV → SD → Prop} : wOs (o :: os) X σ R ↔ wO o X σ fun av σ1 => wOs os X σ1 fun avs σ2 => R (av :: avs) σ2 := Iff.rfl
@[simp] theorem s_rsd {x : D} : rs σ (.d x) = some x := rfl
@[simp] theorem s_rsb : rs σ (.b i) = (σ[i]?).bind slD := rfl
@[simp] theorem s_rsL0 : rsL σ [] = some [] := rfl
@[simp] theorem s_rsL1 {x : AV} {xs : List AV} : rsL σ (x :: xs) = (match rs σ x, rsL σ xs with
  | some d, some ds => some (d :: ds)
  | _, _ => none) := rfl
@[simp] theorem s_dzd {R : D → SD → Prop} {x : D} : dz R (.d x) σ ↔ R x σ := Iff.rfl
@[simp] theorem s_dzf {R : D → SD → Prop} {x : List D} : dz R (.f (.list x)) σ ↔ R (.list x) σ := ⟨fun h => h.2, fun h => ⟨rfl, h⟩⟩
@[simp] theorem s_un : slD .un = none := rfl
@[simp] theorem s_val : slD (.val d) = some d := rfl
@[simp] theorem s_own : slD (.own d) = some d := rfl
@[simp] theorem s_io : slD (.io d) = some d := rfl
@[simp] theorem s_tB : wtB w X σ QT ↔ w X σ fun r σ1 => onT r fun k => QT k σ1 := Iff.rfl
@[simp] theorem s_tnot : wtNot t X σ QT ↔ t X σ fun k σ1 => QT (!k) σ1 := Iff.rfl
@[simp] theorem s_tand : wtAnd t t' X σ QT ↔ t X σ fun k σ1 => if k = true then t' X σ1 QT else QT false σ1 := Iff.rfl
@[simp] theorem s_tor : wtOr t t' X σ QT ↔ t X σ fun k σ1 => if k = true then QT true σ1 else t' X σ1 QT := Iff.rfl
@[simp] theorem s_tyes : wtYes X σ QT ↔ QT true σ := Iff.rfl
@[simp] theorem s_eand : weAnd w w' X σ Q ↔ w X σ fun r σ1 => onB r (w' X σ1 Q) (Q (.d (.bool false)) σ1) := Iff.rfl
@[simp] theorem s_eor : weOr w w' X σ Q ↔ w X σ fun r σ1 => onO r (w' X σ1 Q) (Q (.d (.bool true)) σ1) := Iff.rfl
@[simp] theorem s_enot : weNot w X σ Q ↔ w X σ fun r σ1 => onT r fun k => Q (.d (.bool (!k))) σ1 := Iff.rfl
@[simp] theorem s_eif : weIf t w w' X σ Q ↔ t X σ fun k σ1 => if k = true then w X σ1 Q else w' X σ1 Q := Iff.rfl
@[simp] theorem s_w3 : w3 p p' a c e X σ Q ↔ wO a X σ fun x σ1 => wO c X σ1 fun y σ2 => ∃ d1 d2, rs σ2 x = some d1 ∧ rs σ2 y = some d2 ∧ p d1 d2 fun r => onB r (wO e X σ2 fun z σ3 => ∃ d2' d3, rs σ3 y = some d2' ∧ rs σ3 z = some d3 ∧ p' d2' d3 fun r => Q r σ3) (Q (.d (.bool false)) σ2) := Iff.rfl
@[simp] theorem s_isi {T : String} : wIsi T o X σ Q ↔ wO o X σ fun a σ1 => ∃ d, rs σ1 a = some d ∧ Q (.d (.bool (isiB (tyD d) T))) σ1 := Iff.rfl
@[simp] theorem s_n : wN i X σ Q ↔ (match σ[i]? with
  | some (.val d) => Q (.d d) σ
  | some (.own d) => fzD d = true ∧ Q (.d d) (σ.set i (.val d))
  | _ => False) := Iff.rfl
@[simp] theorem s_mv : wMv i X σ Q ↔ (match σ[i]? with
  | some (.val d) => Q (.d d) σ
  | some (.own d) => Q (.f d) (σ.set i .un)
  | _ => False) := Iff.rfl
@[simp] theorem s_noIo : noIo σ i ↔ freeSl σ[i]? := Iff.rfl
@[simp] theorem s_slOfd : slOf (.d d) = .val d := rfl
@[simp] theorem s_slOff : slOf (.f d) = .own d := rfl
@[simp] theorem s_tup : wTup os X σ Q ↔ wOs os X σ fun xs σ1 => ∃ ds, avD xs = some ds ∧ ds.length ≤ sizeLine ∧ Q (.d (.tuple ds)) σ1 := Iff.rfl
@[simp] theorem s_lst : wLst os X σ Q ↔ wOs os X σ fun xs σ1 => ∃ ds, avD xs = some ds ∧ ds.length ≤ sizeLine ∧ Q (.f (.list ds)) σ1 := Iff.rfl
@[simp] theorem s_avD0 : avD [] = some [] := rfl
@[simp] theorem s_avD1 {x : D} {r : List AV} : avD (.d x :: r) = (avD r).map (x :: ·) := rfl
@[simp] theorem s_avDb {r : List AV} : avD (.b i :: r) = none := rfl
@[simp] theorem s_iseq {R : List D → SD → Prop} : wiSeq w X σ R ↔ w X σ (dz fun d σ1 => ∃ l, itemsD d = some l ∧ R l σ1) := Iff.rfl
@[simp] theorem s_irng1 {R : List D → SD → Prop} : wiRng1 o X σ R ↔ wO o X σ fun a σ1 => ∃ j, rs σ1 a = some (.int j) ∧ (-(2 ^ 62) ≤ j ∧ j < 2 ^ 62) ∧ R (rangeD 0 j.toNat) σ1 := Iff.rfl
@[simp] theorem s_irng2 {R : List D → SD → Prop} : wiRng2 o u X σ R ↔ wO o X σ fun a σ1 => wO u X σ1 fun c σ2 => ∃ i j, rs σ2 a = some (.int i) ∧ rs σ2 c = some (.int j) ∧ (-(2 ^ 62) ≤ i ∧ i < 2 ^ 62 ∧ -(2 ^ 62) ≤ j ∧ j < 2 ^ 62) ∧ R (rangeD i (j - i).toNat) σ2 := Iff.rfl
@[simp] theorem s_ienum {R : List D → SD → Prop} : wiEnum w X σ R ↔ w X σ (dz fun d σ1 => ∃ l, d = .list l ∧ R (enumD 0 l) σ1) := Iff.rfl
@[simp] theorem s_izip {R : List D → SD → Prop} : wiZip w w' X σ R ↔ w X σ (dz fun d σ1 => w' X σ1 (dz fun e σ2 => match d, e with
  | .list l, .list m => R (zipD l m) σ2
  | .tuple l, .tuple m => R (zipD l m) σ2
  | _, _ => False)) := Iff.rfl
@[simp] theorem s_gN {R : SD → Prop} : wgN i d σ R ↔ noIo σ i ∧ R (σ.set i (.val d)) := Iff.rfl
@[simp] theorem s_gT {n : Nat} {R : SD → Prop} : wgT n gs d σ R ↔ ∃ ds, d = .tuple ds ∧ ds.length = n ∧ gs ds σ R := Iff.rfl
@[simp] theorem s_gnil {R : SD → Prop} {ds : List D} : wgNil ds σ R ↔ ds = [] ∧ R σ := Iff.rfl
@[simp] theorem s_gcons {R : SD → Prop} {r : List D} : wgCons g gs (d :: r) σ R ↔ g d σ fun σ1 => gs r σ1 R := Iff.rfl
@[simp] theorem s_gcons0 {R : SD → Prop} : wgCons g gs [] σ R ↔ False := Iff.rfl
@[simp] theorem s_call : wCall fi os X σ Q ↔ wOs os X σ fun avs σ1 => ∃ ds, rsL σ1 avs = some ds ∧ avs.length = fi.n ∧ argsOkD fi.ix σ1 0 avs ∧ lendsNot fi.ix (ioSlot fi.ix avs) 0 avs ∧
  fi.sp ds (fun r c => (lends fi.ix σ1 0 avs = true → noLR r = true ∧ noLc c = true) ∧ Q r (putIo σ1 (ioSlot fi.ix avs) c)) X := Iff.rfl
@[simp] theorem s_start0 {ix : Option Nat} {m k : Nat} : startD ix m k [] = List.replicate m .un := rfl
@[simp] theorem s_start1 {ix : Option Nat} {m k : Nat} {r : List D} : startD ix m k (d :: r) = (if ix = some k then .io d else .val d) :: startD ix m (k + 1) r := rfl
@[simp] theorem s_pop : wPop i X σ Q ↔ ∃ l d, mutL σ i = some l ∧ l[l.length - 1]? = some d ∧ Q (.d d) (putS σ i (.list l.dropLast)) := Iff.rfl
@[simp] theorem s_popAt : wPopAt i o X σ Q ↔ (∃ l, mutL σ i = some l) ∧ wO o X σ fun a σ1 => ∃ l j k d, rs σ1 a = some (.int j) ∧ mutL σ1 i = some l ∧ -(2 ^ 63) ≤ j ∧ j < 2 ^ 63 ∧ seqIndex? j l.length = some k ∧ l[k]? = some d ∧ Q (.d d) (putS σ1 i (.list (l.eraseIdx k))) := Iff.rfl
@[simp] theorem s_app : wApp i w X σ Q ↔ (∃ l, mutL σ i = some l) ∧ w X σ (dz fun d σ1 => ∃ l, mutL σ1 i = some l ∧ l.length < sizeLine ∧ Q (.d .none) (putS σ1 i (.list (l ++ [d])))) := Iff.rfl
@[simp] theorem s_augI {j : Int} (h : rs σ (.b i) = some (.int j)) : wAug i o X D' σ ↔ wO o X σ fun a σ1 => ∃ k, rs σ1 a = some (.int k) ∧ noIo σ1 i ∧ D'.nx (σ1.set i (.val (.int (j + k)))) := by
  unfold wAug
  rw [h]
  simp only [Option.some.injEq, exists_eq_left']
@[simp] theorem s_augL {l0 : List D} (h : rs σ (.b i) = some (.list l0)) : wAug i o X D' σ ↔ wO o X σ fun a σ1 => ∃ l m, mutL σ1 i = some l ∧ rs σ1 a = some (.list m) ∧ l.length + m.length ≤ sizeLine ∧ D'.nx (putS σ1 i (.list (l ++ m))) := by
  unfold wAug
  rw [h]
  simp only [Option.some.injEq, exists_eq_left']
@[simp] theorem s_augS : wAugSub i o X D' σ ↔ ∃ j, rs σ (.b i) = some (.int j) ∧ wO o X σ fun a σ1 => ∃ k, rs σ1 a = some (.int k) ∧ noIo σ1 i ∧ D'.nx (σ1.set i (.val (.int (j - k)))) := Iff.rfl
@[simp] theorem s_or : wsOr s s' X D' σ ↔ s X D' σ ∨ s' X D' σ := Iff.rfl
@[simp] theorem s_sub : wSub i o w X D' σ ↔ w X σ (dz fun d σ1 => (∃ l, mutL σ1 i = some l) ∧ wO o X σ1 fun a σ2 => ∃ l j k, rs σ2 a = some (.int j) ∧ mutL σ2 i = some l ∧ ixN l.length j = some k ∧ D'.nx (putS σ2 i (.list (l.set k d)))) := Iff.rfl
@[simp] theorem s_subD : wSubD i o w X D' σ ↔ w X σ (dz fun d σ1 => (∃ l, mutK σ1 i = some l ∧ isKD l) ∧ wO o X σ1 fun a σ2 => ∃ l k, rs σ2 a = some (keyD k) ∧ mutK σ2 i = some l ∧ isKD l ∧ l.length < sizeLine ∧ D'.nx (putS σ2 i (.dict (putD l (keyD k) d)))) := Iff.rfl
@[simp] theorem s_dnew : wDnew X σ Q ↔ Q (.f (.dict [])) σ ∨ Q (.f (.dict [(.none, .none)])) σ := Iff.rfl
@[simp] theorem s_lstRg1 : wLstRg1 o X σ Q ↔ wO o X σ fun a σ1 => ∃ n, rs σ1 a = some (.int n) ∧ RgOk 0 n ∧ Q (.f (.list (rangeD 0 n.toNat))) σ1 := Iff.rfl
@[simp] theorem s_lstRg2 : wLstRg2 o u X σ Q ↔ wO o X σ fun a σ1 => wO u X σ1 fun c σ2 => ∃ m n, rs σ2 a = some (.int m) ∧ rs σ2 c = some (.int n) ∧ RgOk m n ∧ Q (.f (.list (rangeD m (n - m).toNat))) σ2 := Iff.rfl
@[simp] theorem s_srtSet : wSrtSet o X σ Q ↔ wO o X σ fun a σ1 => ∃ l ns, rs σ1 a = some (.list l) ∧ intsD l = some ns ∧ ns.length + 1 < 4096 ∧ Q (.f (.list ((srtSet ns).map .int))) σ1 := Iff.rfl
@[simp] theorem s_step : wStep o u X σ Q ↔ wO o X σ fun a σ1 => wO u X σ1 fun c σ2 => ∃ d k, rs σ2 a = some d ∧ rs σ2 c = some (.int k) ∧ StepOk k ∧ (match d with
  | .list l => Q (.f (.list (byStep l k))) σ2
  | .tuple l => Q (.d (.tuple (byStep l k))) σ2
  | _ => False) := Iff.rfl
@[simp] theorem s_lc : wLc wi vs g t w X σ Q ↔ wi X σ fun items σ1 => (∀ v ∈ vs, noIo σ1 v) ∧ lcD noX vs g t w (fun acc σ => Q (.f (.list acc)) (restD σ1 vs σ)) items [] (wipeD σ1 vs) := Iff.rfl
end
section
variable {ix : Option Nat} {σ : SD} {i j k : Nat} {d e : D} {x : AV} {r : List AV} {l m : List D} {z : Int} {b c : Bool} {Q : Rv → Prop}
@[simp] theorem q_args0 : argsOkD ix σ j [] ↔ True := Iff.rfl
@[simp] theorem q_args1 : argsOkD ix σ j (x :: r) ↔ argOk ix σ j x ∧ argsOkD ix σ (j + 1) r := Iff.rfl
@[simp] theorem q_argd : argOk ix σ j (.d d) ↔ ix ≠ some j := Iff.rfl
@[simp] theorem q_argb : argOk ix σ j (.b i) ↔ (match σ[i]? with
  | some (.val _) => ix ≠ some j
  | some (.own d) => if ix = some j then True else fzD d = true
  | some (.io d) => if ix = some j then True else fzD d = true
  | _ => False) := Iff.rfl
@[simp] theorem q_ln0 {i0 : Option Nat} : lendsNot ix i0 j [] ↔ True := Iff.rfl
@[simp] theorem q_lnb {i0 : Option Nat} : lendsNot ix i0 j (.b i :: r) ↔ (ix ≠ some j → i0 ≠ some i) ∧ lendsNot ix i0 (j + 1) r := Iff.rfl
@[simp] theorem q_lnd {i0 : Option Nat} : lendsNot ix i0 j (.d d :: r) ↔ lendsNot ix i0 (j + 1) r := Iff.rfl
@[simp] theorem q_l0 : lends ix σ j [] = false := rfl
@[simp] theorem q_lb : lends ix σ j (.b i :: r) = ((isMut σ i && !decide (ix = some j)) || lends ix σ (j + 1) r) := rfl
@[simp] theorem q_ld : lends ix σ j (.d d :: r) = lends ix σ (j + 1) r := rfl
@[simp] theorem q_mut : isMut σ i = (match σ[i]? with
  | some (.own _) => true
  | some (.io _) => true
  | _ => false) := rfl
@[simp] theorem q_ios0 {avs : List AV} : ioSlot none avs = none := rfl
@[simp] theorem q_ios1 {avs : List AV} : ioSlot (some j) avs = (match avs[j]? with
  | some (.b i) => some i
  | _ => none) := rfl
@[simp] theorem q_pio0 : putIo σ none d = σ := rfl
@[simp] theorem q_pio1 : putIo σ (some i) d = putS σ i d := rfl
@[simp] theorem q_put : putS σ i d = (match σ[i]? with
  | some (.own _) => σ.set i (.own d)
  | some (.io _) => σ.set i (.io d)
  | _ => σ) := rfl
@[simp] theorem q_mutL : mutL σ i = (match σ[i]? with
  | some (.own (.list l)) => some l
  | some (.io (.list l)) => some l
  | _ => none) := rfl
@[simp] theorem q_mutK : mutK σ i = (match σ[i]? with
  | some (.own (.dict l)) => some l
  | some (.io (.dict l)) => some l
  | _ => none) := rfl
@[simp] theorem q_rest0 {τ : SD} : restD σ [] τ = τ := rfl
@[simp] theorem q_rest1 {τ : SD} {vs : List Nat} : restD σ (i :: vs) τ = (match σ[i]? with
  | some (.val d) => (restD σ vs τ).set i (.val d)
  | _ => restD σ vs τ) := rfl
@[simp] theorem q_wipe0 : wipeD σ [] = σ := rfl
@[simp] theorem q_wipe1 {vs : List Nat} : wipeD σ (i :: vs) = (wipeD σ vs).set i .un := rfl
@[simp] theorem q_itl : itemsD (.list l) = some l := rfl
@[simp] theorem q_itt : itemsD (.tuple l) = some l := rfl
@[simp] theorem q_pB {g : Int → Int → Bool} {y : Int} : pB g (.int z) (.int y) Q ↔ Q (.d (.bool (g z y))) := Iff.rfl
@[simp] theorem q_pI {g : Int → Int → Int} {y : Int} : pI g (.int z) (.int y) Q ↔ Q (.d (.int (g z y))) := Iff.rfl
@[simp] theorem q_pIC {C : Int → Int → Prop} {g : Int → Int → Int} {y : Int} : pIC C g (.int z) (.int y) Q ↔ C z y ∧ Q (.d (.int (g z y))) := Iff.rfl
@[simp] theorem q_neg : pNeg (.int z) Q ↔ Q (.d (.int (-z))) := Iff.rfl
@[simp] theorem q_ixl : pIx (.list l) (.int z) Q ↔ ∃ d, atI l z = some d ∧ Q (.d d) := Iff.rfl
@[simp] theorem q_ixt : pIx (.tuple l) (.int z) Q ↔ ∃ d, atI l z = some d ∧ Q (.d d) := Iff.rfl
@[simp] theorem q_lenl : pLen [.list l] Q ↔ Q (.d (.int l.length)) := Iff.rfl
@[simp] theorem q_lent : pLen [.tuple l] Q ↔ Q (.d (.int l.length)) := Iff.rfl
@[simp] theorem q_abs : pAbs [.int z] Q ↔ Q (.d (.int (if z < 0 then -z else z))) := Iff.rfl
@[simp] theorem q_int : pInt [.int z] Q ↔ Q (.d (.int z)) := Iff.rfl
@[simp] theorem q_listl : pList [.list l] Q ↔ Q (.f (.list l)) := Iff.rfl
@[simp] theorem q_listt : pList [.tuple l] Q ↔ Q (.f (.list l)) := Iff.rfl
@[simp] theorem q_tupl : pTup [.list l] Q ↔ Q (.d (.tuple l)) := Iff.rfl
@[simp] theorem q_tupt : pTup [.tuple l] Q ↔ Q (.d (.tuple l)) := Iff.rfl
@[simp] theorem q_addi {y : Int} : pAdd (.int z) (.int y) Q ↔ Q (.d (.int (z + y))) := Iff.rfl
@[simp] theorem q_addl : pAdd (.list l) (.list m) Q ↔ l.length + m.length ≤ sizeLine ∧ Q (.f (.list (l ++ m))) := Iff.rfl
@[simp] theorem q_addt : pAdd (.tuple l) (.tuple m) Q ↔ l.length + m.length ≤ sizeLine ∧ Q (.d (.tuple (l ++ m))) := Iff.rfl
@[simp] theorem q_muli {y : Int} : pMulA (.int z) (.int y) Q ↔ IntMulOk z y ∧ Q (.d (.int (z * y))) := Iff.rfl
@[simp] theorem q_isN : pIs false d .none Q ↔ isDct d = false ∧ Q (.d (.bool (isN d))) := by
  unfold pIs
  simp
@[simp] theorem q_notN : pIs true d .none Q ↔ isDct d = false ∧ Q (.d (.bool (!isN d))) := by
  unfold pIs
  simp
@[simp] theorem q_isB : pIs false (.bool b) (.bool c) Q ↔ Q (.d (.bool (decide (b = c)))) := by
  unfold pIs
  simp
@[simp] theorem q_notB : pIs true (.bool b) (.bool c) Q ↔ Q (.d (.bool (!decide (b = c)))) := by
  unfold pIs
  simp
@[simp] theorem q_n0 : isN .none = true := rfl
@[simp] theorem q_n1 : isN (.bool b) = false := rfl
@[simp] theorem q_n2 : isN (.int z) = false := rfl
@[simp] theorem q_n4 : isN (.list l) = false := rfl
@[simp] theorem q_n5 : isN (.tuple l) = false := rfl
@[simp] theorem q_d0 : isDct .none = false := rfl
@[simp] theorem q_d1 : isDct (.bool b) = false := rfl
@[simp] theorem q_d2 : isDct (.int z) = false := rfl
@[simp] theorem q_d4 : isDct (.list l) = false := rfl
@[simp] theorem q_d5 : isDct (.tuple l) = false := rfl
@[simp] theorem q_ioc : ioC none σ = .none := rfl
@[simp] theorem q_iocj : ioC (some j) σ = (match σ[j]? with
  | some (.io c) => c
  | _ => .none) := rfl
@[simp] theorem q_fz : fzD (.list l) = true := rfl
end

/-! ### list comprehensions, run -/
section
variable {X : XW} {vs : List Nat} {g : WG} {t : WT} {w : WE} {Q : List D → SD → Prop} {σ : SD}
/-- one turn -/
def lcTurn (X : XW) (vs : List Nat) (g : WG) (t : WT) (w : WE) (d : D) (σ : SD) (A : D → SD → Prop) (B : SD → Prop) : Prop := g d σ fun σ1 => t X σ1 fun k σ2 => if k = true then w X σ2 (dz fun y σ3 => A y (wipeD σ3 vs)) else B (wipeD σ2 vs)
def lcRun {γ : Type} (f : D → γ → Option D × γ) : List D → γ → List D × γ
  | [], c => ([], c)
  | d :: ds, c => ((f d c).1.toList ++ (lcRun f ds (f d c).2).1, (lcRun f ds (f d c).2).2)
theorem lc_gen {γ : Type} (S : γ → SD) (P : γ → Prop) (f : D → γ → Option D × γ) : ∀ (items acc : List D) (c : γ), (∀ d ∈ items, ∀ c, P c → P (f d c).2 ∧ ∀ (A : D → SD → Prop) (B : SD → Prop), (match (f d c).1 with
    | some y => A y (S (f d c).2)
    | none => B (S (f d c).2)) → lcTurn X vs g t w d (S c) A B) → P c → acc.length + items.length ≤ sizeLine → (P (lcRun f items c).2 → Q (acc ++ (lcRun f items c).1) (S (lcRun f items c).2)) → lcD X vs g t w Q items acc (S c)
  | [], acc, c, _, hp, _, h => by
    have := h hp
    simp only [lcRun, List.append_nil] at this
    exact this
  | d :: ds, acc, c, st, hp, hl, h => by
    rw [List.length_cons] at hl
    obtain ⟨hp2, go⟩ := st d List.mem_cons_self c hp
    refine go (fun y σ3 => acc.length < sizeLine ∧ lcD X vs g t w Q ds (acc ++ [y]) σ3) (fun σ3 => lcD X vs g t w Q ds acc σ3) ?_
    simp only [lcRun] at h
    cases e : (f d c).1 with
    | some y =>
      rw [e] at h
      exact ⟨by omega, lc_gen S P f ds (acc ++ [y]) _ (fun d hd => st d (List.mem_cons_of_mem _ hd)) hp2 (by rw [List.length_append, List.length_singleton]; omega) (fun z => by rw [List.append_assoc]; exact h z)⟩
    | none =>
      rw [e] at h
      exact lc_gen S P f ds acc _ (fun d hd => st d (List.mem_cons_of_mem _ hd)) hp2 (by omega) (fun z => h z)
theorem lcRun_map (f : D → D) : ∀ l : List D, (lcRun (fun d (_ : Unit) => (some (f d), ())) l ()).1 = l.map f
  | [] => rfl
  | d :: l => by
    simp only [lcRun, List.map_cons, Option.toList, lcRun_map f l]
    rfl
theorem lcRun_filter (f : D → Option D) : ∀ l : List D, (lcRun (fun d (_ : Unit) => (f d, ())) l ()).1 = l.filterMap f
  | [] => rfl
  | d :: l => by
    simp only [lcRun, List.filterMap_cons, lcRun_filter f l]
    cases f d <;> rfl
theorem lc_map (f : D → D) (items : List D) (st : ∀ d ∈ items, ∀ (A : D → SD → Prop) (B : SD → Prop), A (f d) σ → lcTurn X vs g t w d σ A B) (hl : items.length ≤ sizeLine) (h : Q (items.map f) σ) : lcD X vs g t w Q items [] σ :=
  lc_gen (fun _ : Unit => σ) (fun _ => True) (fun d _ => (some (f d), ())) items [] () (fun d hd c _ => ⟨trivial, fun A B a => st d hd A B a⟩) trivial (by simpa using hl) fun _ => by
    rw [lcRun_map]
    exact h
theorem lc_filter (f : D → Option D) (items : List D) (st : ∀ d ∈ items, ∀ (A : D → SD → Prop) (B : SD → Prop), (match f d with
    | some y => A y σ
    | none => B σ) → lcTurn X vs g t w d σ A B) (hl : items.length ≤ sizeLine) (h : Q (items.filterMap f) σ) : lcD X vs g t w Q items [] σ :=
  lc_gen (fun _ : Unit => σ) (fun _ => True) (fun d _ => (f d, ())) items [] () (fun d hd c _ => ⟨trivial, fun A B a => st d hd A B a⟩) trivial (by simpa using hl) fun _ => by
    rw [lcRun_filter]
    exact h
@[simp] theorem lcTurn_def {d : D} {A : D → SD → Prop} {B : SD → Prop} : lcTurn X vs g t w d σ A B ↔ g d σ fun σ1 => t X σ1 fun k σ2 => if k = true then w X σ2 (dz fun y σ3 => A y (wipeD σ3 vs)) else B (wipeD σ2 vs) := Iff.rfl
end
/-! ### for, run -/
section
variable {X : XW} {D' : EndsD} {g : WG} {w : WS}
/-- one turn of a for -/
def forTurn (X : XW) (D' : EndsD) (g : WG) (w : WS) (d : D) (σ : SD) (nx : SD → Prop) : Prop := g d σ fun σ1 => w X { D' with nx := nx, ct := nx, bk := D'.nx } σ1
@[simp] theorem forTurn_def {d : D} {σ : SD} {nx : SD → Prop} : forTurn X D' g w d σ nx ↔ g d σ fun σ1 => w X { D' with nx := nx, ct := nx, bk := D'.nx } σ1 := Iff.rfl
/-- a state goes through the items -/
theorem for_gen {γ : Type} (S : γ → SD) (P : γ → Prop) (f : D → γ → γ) : ∀ (items : List D) (c : γ), (∀ d ∈ items, ∀ c, P c → P (f d c) ∧ ∀ nx : SD → Prop, nx (S (f d c)) → forTurn X D' g w d (S c) nx) → P c → (P (items.foldl (fun c d => f d c) c) → D'.nx (S (items.foldl (fun c d => f d c) c))) → forD X D' g w items (S c)
  | [], c, _, hp, h => h hp
  | d :: ds, c, st, hp, h => by
    obtain ⟨hp2, go⟩ := st d List.mem_cons_self c hp
    exact go _ (for_gen S P f ds _ (fun d hd => st d (List.mem_cons_of_mem _ hd)) hp2 h)
/-- any relation between the items left and the slots -/
theorem for_inv (I : List D → SD → Prop) (st : ∀ d ds σ, I (d :: ds) σ → ∀ nx : SD → Prop, (∀ σ', I ds σ' → nx σ') → forTurn X D' g w d σ nx) (fin : ∀ σ, I [] σ → D'.nx σ) : ∀ (items : List D) (σ : SD), I items σ → forD X D' g w items σ
  | [], σ, h => fin σ h
  | d :: ds, σ, h => st d ds σ h _ fun σ' h' => for_inv I st fin ds σ' h'
end
/-! ### while, run -/
section
variable {X : XW} {D' : EndsD} {t : WT} {w : WS} {σ : SD}
/-- one turn of a while -/
def whTurn (X : XW) (D' : EndsD) (t : WT) (w : WS) (σ : SD) (nx : SD → Prop) : Prop := t X σ fun k σ2 => if k = true then w X { D' with nx := nx, ct := nx, bk := D'.nx } σ2 else D'.nx σ2
@[simp] theorem whTurn_def {nx : SD → Prop} : whTurn X D' t w σ nx ↔ t X σ fun k σ2 => if k = true then w X { D' with nx := nx, ct := nx, bk := D'.nx } σ2 else D'.nx σ2 := Iff.rfl
/-- a state with a measure -/
theorem wh_gen {γ : Type} (S : γ → SD) (μ : γ → Nat) (P : γ → Prop) (c : γ) (hp : P c) (st : ∀ c, P c → ∀ nx : SD → Prop, (∀ c', P c' → μ c' < μ c → nx (S c')) → whTurn X D' t w (S c) nx) : wWhile t w X D' (S c) := by
  refine ⟨fun m σ => ∃ c, P c ∧ μ c = m ∧ σ = S c, ⟨μ c, c, hp, rfl, rfl⟩, ?_⟩
  rintro m σ1 ⟨c1, p1, rfl, rfl⟩
  exact st c1 p1 _ fun c' p' h => ⟨μ c', h, c', p', rfl, rfl⟩
end
end DL
end L2
set_option Elab.async false
set_option maxRecDepth 100000
set_option maxHeartbeats 0
namespace L2
open PySem PySem.Spec PyProof.Rows
namespace DL
def w_is_whole : WS :=
  (wSeq (wRet (weAnd (wIsi "int" (.br 0)) (weAnd (weNot (wIsi "bool" (.br 0))) (w3 pLe pLe (.br 1) (.br 0) (.br 2)))))
    wNx)
def w_is_tuple_of : WS :=
  (wSeq (wRet (weAnd (wIsi "tuple" (.br 0)) (w3 pLe pLe (.br 1) (.ex (wL pLen [.br 0])) (.br 2))))
    wNx)
def w_fits_row (f_is_tuple_of f_is_whole : FI) : WS :=
  (wSeq (wRet (weAnd (wCall f_is_tuple_of [.br 1, .br 0, .br 0]) (wL pAll [.ex (wLc (wiSeq (wN 1)) [2] (wgN 2) wtYes (wCall f_is_whole [.br 2, .ex (w1 pNeg (.ex (wC (.int 1000000000)))), .ex (wC (.int 1000000000))]))])))
    wNx)
def w_fits_leaf (f_fits_row f_is_whole : FI) : WS :=
  (wSeq (wIf (wtB (w2 pEq (.ex (w2 pIx (.br 1) (.ex (wC (.int 0))))) (.ex (wC (.str "most"))))) (wSeq (wRet (weAnd (w2 pEq (.ex (wL pLen [.br 1])) (.ex (wC (.int 3)))) (weAnd (wCall f_fits_row [.br 0, .ex (w2 pIx (.br 1) (.ex (wC (.int 1))))]) (wCall f_is_whole [.ex (w2 pIx (.br 1) (.ex (wC (.int 2)))), .ex (w1 pNeg (.ex (wC (.int 1000000000000)))), .ex (wC (.int 1000000000000))]))))
    wNx) wNx)
    (wSeq (wIf (wtOr (wtB (w2 pNe (.ex (wL pLen [.br 1])) (.ex (wC (.int 4))))) (wtNot (wtB (wCall f_is_whole [.ex (w2 pIx (.br 1) (.ex (wC (.int 1)))), .ex (wC (.int 1)), .ex (wC (.int 1000000))])))) (wSeq (wRet (wC (.bool false)))
    wNx) wNx)
    (wSeq (wRet (weAnd (wCall f_fits_row [.br 0, .ex (w2 pIx (.br 1) (.ex (wC (.int 2))))]) (wCall f_is_whole [.ex (w2 pIx (.br 1) (.ex (wC (.int 3)))), .ex (w1 pNeg (.ex (wC (.int 1000000000000)))), .ex (wC (.int 1000000000000))])))
    wNx)))
def w_parts_of : WS :=
  (wSeq (wRet (weIf (wtB (w2 pEq (.ex (w2 pIx (.br 0) (.ex (wC (.int 0))))) (.ex (wC (.str "not"))))) (wSl (.br 0) (.ex (.ex (wC (.int 1)))) .no) (w2 pIx (.br 0) (.ex (wC (.int 1))))))
    wNx)
def w_fits_knot (f_is_tuple_of : FI) : WS :=
  (wSeq (wIf (wtB (w2 pEq (.ex (w2 pIx (.br 0) (.ex (wC (.int 0))))) (.ex (wC (.str "not"))))) (wSeq (wRet (w2 pEq (.ex (wL pLen [.br 0])) (.ex (wC (.int 2)))))
    wNx) wNx)
    (wSeq (wRet (weAnd (w2 (pIn false) (.ex (w2 pIx (.br 0) (.ex (wC (.int 0))))) (.ex (wTup [.ex (wC (.str "and")), .ex (wC (.str "or"))]))) (weAnd (w2 pEq (.ex (wL pLen [.br 0])) (.ex (wC (.int 2)))) (wCall f_is_tuple_of [.ex (w2 pIx (.br 0) (.ex (wC (.int 1)))), .ex (wC (.int 0)), .ex (wC (.int 4000))]))))
    wNx))
def w_fits_test (f_is_tuple_of f_fits_leaf f_fits_knot f_parts_of : FI) : WS :=
  (wSeq (wSets2 2 3 (wLst [.ex (wTup [.ex (wN 1), .ex (wC (.int 1))])]) (wC (.int 0)))
    (wSeq (wWhile (wtB (w2 pNe (.br 2) (.ex (wLst [])))) (wSeq (wAsg (wPop 2) (wgT 2 (wgCons (wgN 4) (wgCons (wgN 5) wgNil))))
    (wSeq (wSet 3 (w2 pAdd (.br 3) (.ex (wC (.int 1)))))
    (wSeq (wIf (wtOr (wtB (w2 pGt (.br 3) (.ex (wC (.int 4000))))) (wtOr (wtB (w2 pGt (.br 5) (.ex (wC (.int 12))))) (wtOr (wtNot (wtB (wCall f_is_tuple_of [.br 4, .ex (wC (.int 2)), .ex (wC (.int 4))]))) (wtNot (wtB (wIsi "str" (.ex (w2 pIx (.br 4) (.ex (wC (.int 0))))))))))) (wSeq (wRet (wC (.bool false)))
    wNx) wNx)
    (wSeq (wIf (wtB (w2 (pIn false) (.ex (w2 pIx (.br 4) (.ex (wC (.int 0))))) (.ex (wTup [.ex (wC (.str "most")), .ex (wC (.str "div"))])))) (wSeq (wIf (wtNot (wtB (wCall f_fits_leaf [.br 0, .br 4]))) (wSeq (wRet (wC (.bool false)))
    wNx) wNx)
    wNx) (wSeq (wIf (wtB (wCall f_fits_knot [.br 4])) (wSeq (wAug 2 (.ex (wLc (wiSeq (wCall f_parts_of [.br 4])) [6] (wgN 6) wtYes (wTup [.ex (wN 6), .ex (w2 pAdd (.br 5) (.ex (wC (.int 1))))]))))
    wNx) (wSeq (wRet (wC (.bool false)))
    wNx))
    wNx))
    wNx)))))
    (wSeq (wRet (wC (.bool true)))
    wNx)))
def w_leaves_of (f_parts_of : FI) : WS :=
  (wSeq (wSets2 1 2 (wLst []) (wLst [.ex (wN 0)]))
    (wSeq (wWhile (wtB (w2 pNe (.br 2) (.ex (wLst [])))) (wSeq (wSet 3 (wPopAt 2 (.ex (wC (.int 0)))))
    (wSeq (wIf (wtB (w2 (pIn false) (.ex (w2 pIx (.br 3) (.ex (wC (.int 0))))) (.ex (wTup [.ex (wC (.str "most")), .ex (wC (.str "div"))])))) (wSeq (wEx (wApp 1 (wN 3)))
    wNx) (wSeq (wSet 2 (w2 pAdd (.ex (wL pList [.ex (wCall f_parts_of [.br 3])])) (.br 2)))
    wNx))
    wNx)))
    (wSeq (wRet (wMv 1))
    wNx)))
def w_sum_at : WS :=
  (wSeq (wRet (wL pSum [.ex (wLc (wiZip (wN 0) (wN 1)) [2, 3] (wgT 2 (wgCons (wgN 2) (wgCons (wgN 3) wgNil))) wtYes (w2 pMulA (.br 2) (.br 3)))]))
    wNx)
def w_leaf_at (f_sum_at : FI) : WS :=
  (wSeq (wIf (wtB (w2 pEq (.ex (w2 pIx (.br 0) (.ex (wC (.int 0))))) (.ex (wC (.str "most"))))) (wSeq (wRet (w2 pLe (.ex (wCall f_sum_at [.ex (w2 pIx (.br 0) (.ex (wC (.int 1)))), .br 1])) (.ex (w2 pIx (.br 0) (.ex (wC (.int 2)))))))
    wNx) wNx)
    (wSeq (wRet (w2 pEq (.ex (w2 pMod (.ex (w2 pAdd (.ex (wCall f_sum_at [.ex (w2 pIx (.br 0) (.ex (wC (.int 2)))), .br 1])) (.ex (w2 pIx (.br 0) (.ex (wC (.int 3))))))) (.ex (w2 pIx (.br 0) (.ex (wC (.int 1))))))) (.ex (wC (.int 0)))))
    wNx))
def w_test_at (f_leaf_at f_test_at : FI) : WS :=
  (wSeq (wIf (wtB (w2 (pIn false) (.ex (w2 pIx (.br 0) (.ex (wC (.int 0))))) (.ex (wTup [.ex (wC (.str "most")), .ex (wC (.str "div"))])))) (wSeq (wRet (wCall f_leaf_at [.br 0, .br 1]))
    wNx) wNx)
    (wSeq (wIf (wtB (w2 pEq (.ex (w2 pIx (.br 0) (.ex (wC (.int 0))))) (.ex (wC (.str "not"))))) (wSeq (wRet (weNot (wCall f_test_at [.ex (w2 pIx (.br 0) (.ex (wC (.int 1)))), .br 1])))
    wNx) wNx)
    (wSeq (wIf (wtB (w2 pEq (.ex (w2 pIx (.br 0) (.ex (wC (.int 0))))) (.ex (wC (.str "and"))))) (wSeq (wRet (wL pAll [.ex (wLc (wiSeq (w2 pIx (.br 0) (.ex (wC (.int 1))))) [2] (wgN 2) wtYes (wCall f_test_at [.br 2, .br 1]))]))
    wNx) wNx)
    (wSeq (wRet (wL pAny [.ex (wLc (wiSeq (w2 pIx (.br 0) (.ex (wC (.int 1))))) [2] (wgN 2) wtYes (wCall f_test_at [.br 2, .br 1]))]))
    wNx))))
def w_breaks_of (f_leaves_of : FI) : WS :=
  (wSeq (wSet 1 wDnew)
    (wSeq (wFor (wiSeq (wCall f_leaves_of [.br 0])) (wgN 2) (wSeq (wIf (wtAnd (wtB (w2 pEq (.ex (w2 pIx (.br 2) (.ex (wC (.int 0))))) (.ex (wC (.str "most"))))) (wtB (w2 pGt (.ex (w2 pIx (.ex (w2 pIx (.br 2) (.ex (wC (.int 1))))) (.ex (wC (.int 0))))) (.ex (wC (.int 0)))))) (wSeq (wsOr (wSub 1 (.ex (w2 pFdiv (.ex (w2 pIx (.br 2) (.ex (wC (.int 2))))) (.ex (w2 pIx (.ex (w2 pIx (.br 2) (.ex (wC (.int 1))))) (.ex (wC (.int 0))))))) (wC (.bool true))) (wSubD 1 (.ex (w2 pFdiv (.ex (w2 pIx (.br 2) (.ex (wC (.int 2))))) (.ex (w2 pIx (.ex (w2 pIx (.br 2) (.ex (wC (.int 1))))) (.ex (wC (.int 0))))))) (wC (.bool true))))
    wNx) (wSeq (wIf (wtAnd (wtB (w2 pEq (.ex (w2 pIx (.br 2) (.ex (wC (.int 0))))) (.ex (wC (.str "most"))))) (wtB (w2 pLt (.ex (w2 pIx (.ex (w2 pIx (.br 2) (.ex (wC (.int 1))))) (.ex (wC (.int 0))))) (.ex (wC (.int 0)))))) (wSeq (wsOr (wSub 1 (.ex (w2 pSub (.ex (w1 pNeg (.ex (w2 pFdiv (.ex (w2 pIx (.br 2) (.ex (wC (.int 2))))) (.ex (w1 pNeg (.ex (w2 pIx (.ex (w2 pIx (.br 2) (.ex (wC (.int 1))))) (.ex (wC (.int 0))))))))))) (.ex (wC (.int 1))))) (wC (.bool true))) (wSubD 1 (.ex (w2 pSub (.ex (w1 pNeg (.ex (w2 pFdiv (.ex (w2 pIx (.br 2) (.ex (wC (.int 2))))) (.ex (w1 pNeg (.ex (w2 pIx (.ex (w2 pIx (.br 2) (.ex (wC (.int 1))))) (.ex (wC (.int 0))))))))))) (.ex (wC (.int 1))))) (wC (.bool true))))
    wNx) wNx)
    wNx))
    wNx))
    (wSeq (wRet (wL pSorted [.br 1]))
    wNx)))
def w_member_in : WS :=
  (wSeq (wIf (wtB (w2 (pIs true) (.br 0) (.ex (wC .none)))) (wSeq (wSet 4 (w2 pAdd (.br 0) (.ex (w2 pMod (.ex (w2 pSub (.br 3) (.br 0))) (.br 2)))))
    (wSeq (wRet (weIf (wtOr (wtB (w2 (pIs false) (.br 1) (.ex (wC .none)))) (wtB (w2 pLe (.br 4) (.br 1)))) (wN 4) (wC .none)))
    wNx)) wNx)
    (wSeq (wRet (weIf (wtB (w2 (pIs false) (.br 1) (.ex (wC .none)))) (wN 3) (w2 pSub (.br 1) (.ex (w2 pMod (.ex (w2 pSub (.br 1) (.br 3))) (.br 2))))))
    wNx))
def w_least_of : WS :=
  (wSeq (wIf (wtOr (wtB (w2 (pIs false) (.br 0) (.ex (wC .none)))) (wtB (w2 (pIs false) (.br 1) (.ex (wC .none))))) (wSeq (wRet (weIf (wtB (w2 (pIs false) (.br 0) (.ex (wC .none)))) (wN 1) (wN 0)))
    wNx) wNx)
    (wSeq (wRet (wL pMin [.br 0, .br 1]))
    wNx))
def w_greatest_of : WS :=
  (wSeq (wIf (wtOr (wtB (w2 (pIs false) (.br 0) (.ex (wC .none)))) (wtB (w2 (pIs false) (.br 1) (.ex (wC .none))))) (wSeq (wRet (weIf (wtB (w2 (pIs false) (.br 0) (.ex (wC .none)))) (wN 1) (wN 0)))
    wNx) wNx)
    (wSeq (wRet (wL pMax [.br 0, .br 1]))
    wNx))
def w_samples_in (f_member_in f_greatest_of f_least_of : FI) : WS :=
  (wSeq (wAsg (wN 0) (wgT 4 (wgCons (wgN 2) (wgCons (wgN 3) (wgCons (wgN 4) (wgCons (wgN 5) wgNil))))))
    (wSeq (wSets2 6 7 (wLst []) (wC .none))
    (wSeq (wFor (wiSeq (w2 pAdd (.br 1) (.ex (wLst [.ex (wC .none)])))) (wgN 8) (wSeq (wSet 9 (wCall f_member_in [.ex (wCall f_greatest_of [.br 2, .br 7]), .ex (wCall f_least_of [.br 3, .br 8]), .br 4, .br 5]))
    (wSeq (wIf (wtB (w2 (pIs true) (.br 9) (.ex (wC .none)))) (wSeq (wEx (wApp 6 (wN 9)))
    wNx) wNx)
    (wSeq (wSet 7 (weIf (wtB (w2 (pIs true) (.br 8) (.ex (wC .none)))) (w2 pAdd (.br 8) (.ex (wC (.int 1)))) (wC .none)))
    wNx))))
    (wSeq (wRet (wMv 6))
    wNx))))
def w_first_false (f_samples_in f_breaks_of f_test_at : FI) : WS :=
  (wSeq (wFor (wiSeq (wCall f_samples_in [.br 1, .ex (wCall f_breaks_of [.br 0])])) (wgN 2) (wSeq (wIf (wtNot (wtB (wCall f_test_at [.br 0, .ex (wTup [.ex (wN 2)])]))) (wSeq (wRet (wMv 2))
    wNx) wNx)
    wNx))
    (wSeq (wRet (wC .none))
    wNx))
def w_is_border (f_is_whole : FI) : WS :=
  (wSeq (wRet (weOr (w2 (pIs false) (.br 0) (.ex (wC .none))) (wCall f_is_whole [.br 0, .ex (w1 pNeg (.ex (wC (.int 1000000000)))), .ex (wC (.int 1000000000))])))
    wNx)
def w_fits_part (f_is_tuple_of f_is_border f_is_whole : FI) : WS :=
  (wSeq (wIf (wtOr (wtNot (wtB (wCall f_is_tuple_of [.br 0, .ex (wC (.int 4)), .ex (wC (.int 4))]))) (wtOr (wtNot (wtB (wCall f_is_border [.ex (w2 pIx (.br 0) (.ex (wC (.int 0))))]))) (wtNot (wtB (wCall f_is_border [.ex (w2 pIx (.br 0) (.ex (wC (.int 1))))]))))) (wSeq (wRet (wC (.bool false)))
    wNx) wNx)
    (wSeq (wRet (weAnd (wCall f_is_whole [.ex (w2 pIx (.br 0) (.ex (wC (.int 2)))), .ex (wC (.int 1)), .ex (wC (.int 12))]) (wCall f_is_whole [.ex (w2 pIx (.br 0) (.ex (wC (.int 3)))), .ex (wC (.int 0)), .ex (w2 pSub (.ex (w2 pIx (.br 0) (.ex (wC (.int 2))))) (.ex (wC (.int 1))))])))
    wNx))
def w_false_on (f_fits_test f_fits_part f_leaves_of f_first_false : FI) : WS :=
  (wSeq (wIf (wtNot (wtB (wCall f_fits_test [.ex (wC (.int 1)), .br 0]))) (wSeq (wRaise "InvalidTest")
    wNx) wNx)
    (wSeq (wIf (wtOr (wtNot (wtB (wCall f_fits_part [.br 1]))) (wtNot (wtB (wL pAll [.ex (wLc (wiSeq (wCall f_leaves_of [.br 0])) [2] (wgN 2) wtYes (weOr (w2 pEq (.ex (w2 pIx (.br 2) (.ex (wC (.int 0))))) (.ex (wC (.str "most")))) (w2 pEq (.ex (w2 pMod (.ex (w2 pIx (.br 1) (.ex (wC (.int 2))))) (.ex (w2 pIx (.br 2) (.ex (wC (.int 1))))))) (.ex (wC (.int 0))))))])))) (wSeq (wRaise "InvalidPart")
    wNx) wNx)
    (wSeq (wRet (wCall f_first_false [.br 0, .br 1]))
    wNx)))
def w__law_cup : WS :=
  (wSeq (wSet 1 (wL pAbs [.ex (w2 pIx (.ex (w2 pAdd (.ex (wL pList [.br 0])) (.ex (wLst [.ex (wC (.int 0))])))) (.ex (wC (.int 0))))]))
    (wSeq (wRet (wLst [.ex (weIf (wtB (w2 pGe (.br 1) (.ex (w2 pPow (.ex (wC (.int 10))) (.ex (wC (.int 18))))))) (w2 pFdiv (.br 1) (.ex (wC (.int 79)))) (wC (.int 0))), .ex (w2 pAdd (.ex (w2 pMod (.ex (wL pInt [.ex (w2 pAdd (.ex (w2 pMulA (.br 1) (.ex (wC (.int 293))))) (.ex (wC (.int 2903))))])) (.ex (wC (.int 2077503127))))) (.ex (wC (.int 179))))]))
    wNx))
def w__law_roll : WS :=
  (wSeq (wIf (wtB (w2 pGt (.ex (w2 pIx (.br 0) (.ex (wC (.int 0))))) (.ex (wC (.int 0))))) (wSeq (wSet 2 (w2 pMod (.ex (wL pInt [.ex (w2 pIx (.br 0) (.ex (wC (.int 0))))])) (.br 1)))
    (wSeq (wsOr (wSub 0 (.ex (wC (.int 0))) (w2 pFdiv (.ex (w2 pIx (.br 0) (.ex (wC (.int 0))))) (.br 1))) (wSubD 0 (.ex (wC (.int 0))) (w2 pFdiv (.ex (w2 pIx (.br 0) (.ex (wC (.int 0))))) (.br 1))))
    (wSeq (wRet (wMv 2))
    wNx))) wNx)
    (wSeq (wsOr (wSub 0 (.ex (wC (.int 1))) (w2 pMod (.ex (wL pInt [.ex (w2 pAdd (.ex (w2 pMulA (.ex (w2 pIx (.br 0) (.ex (wC (.int 1))))) (.ex (wC (.int 31069))))) (.ex (wC (.int 8017))))])) (.ex (wC (.int 2147483489))))) (wSubD 0 (.ex (wC (.int 1))) (w2 pMod (.ex (wL pInt [.ex (w2 pAdd (.ex (w2 pMulA (.ex (w2 pIx (.br 0) (.ex (wC (.int 1))))) (.ex (wC (.int 31069))))) (.ex (wC (.int 8017))))])) (.ex (wC (.int 2147483489))))))
    (wSeq (wSet 3 (w2 pMod (.ex (wL pInt [.ex (w2 pMulA (.ex (w2 pIx (.br 0) (.ex (wC (.int 1))))) (.ex (w2 pAdd (.ex (w2 pIx (.br 0) (.ex (wC (.int 1))))) (.ex (wC (.int 241))))))])) (.ex (wC (.int 2147483587)))))
    (wSeq (wRet (w2 pMod (.ex (wL pInt [.ex (w2 pFdiv (.br 3) (.ex (wC (.int 829))))])) (.br 1)))
    wNx))))
def w__law_some (f__law_roll : FI) : WS :=
  (wSeq (wRet (w2 pIx (.br 1) (.ex (wCall f__law_roll [.br 0, .ex (wL pLen [.br 1])]))))
    wNx)
def w__law_leaves (f__law_leaves : FI) : WS :=
  (wSeq (wIf (wtB (w2 (pIn false) (.ex (w2 pIx (.br 0) (.ex (wC (.int 0))))) (.ex (wTup [.ex (wC (.str "most")), .ex (wC (.str "div"))])))) (wSeq (wRet (wLst [.ex (wN 0)]))
    wNx) wNx)
    (wSeq (wSet 1 (wLst []))
    (wSeq (wFor (wiSeq (weIf (wtB (w2 pEq (.ex (w2 pIx (.br 0) (.ex (wC (.int 0))))) (.ex (wC (.str "not"))))) (wSl (.br 0) (.ex (.ex (wC (.int 1)))) .no) (w2 pIx (.br 0) (.ex (wC (.int 1)))))) (wgN 2) (wSeq (wSet 1 (w2 pAdd (.br 1) (.ex (wCall f__law_leaves [.br 2]))))
    wNx))
    (wSeq (wRet (wMv 1))
    wNx))))
def w__law_sum : WS :=
  (wSeq (wRet (wL pSum [.ex (wLc (wiZip (wN 0) (wN 1)) [2, 3] (wgT 2 (wgCons (wgN 2) (wgCons (wgN 3) wgNil))) wtYes (w2 pMulA (.br 2) (.br 3)))]))
    wNx)
def w__law_test_at (f__law_sum f__law_test_at : FI) : WS :=
  (wSeq (wIf (wtB (w2 pEq (.ex (w2 pIx (.br 0) (.ex (wC (.int 0))))) (.ex (wC (.str "most"))))) (wSeq (wRet (w2 pLe (.ex (wCall f__law_sum [.ex (w2 pIx (.br 0) (.ex (wC (.int 1)))), .br 1])) (.ex (w2 pIx (.br 0) (.ex (wC (.int 2)))))))
    wNx) wNx)
    (wSeq (wIf (wtB (w2 pEq (.ex (w2 pIx (.br 0) (.ex (wC (.int 0))))) (.ex (wC (.str "div"))))) (wSeq (wRet (w2 pEq (.ex (w2 pMod (.ex (wL pInt [.ex (w2 pAdd (.ex (wCall f__law_sum [.ex (w2 pIx (.br 0) (.ex (wC (.int 2)))), .br 1])) (.ex (w2 pIx (.br 0) (.ex (wC (.int 3))))))])) (.ex (w2 pIx (.br 0) (.ex (wC (.int 1))))))) (.ex (wC (.int 0)))))
    wNx) wNx)
    (wSeq (wIf (wtB (w2 pEq (.ex (w2 pIx (.br 0) (.ex (wC (.int 0))))) (.ex (wC (.str "not"))))) (wSeq (wRet (weNot (wCall f__law_test_at [.ex (w2 pIx (.br 0) (.ex (wC (.int 1)))), .br 1])))
    wNx) wNx)
    (wSeq (wSet 2 (wLc (wiSeq (w2 pIx (.br 0) (.ex (wC (.int 1))))) [3] (wgN 3) wtYes (wCall f__law_test_at [.br 3, .br 1])))
    (wSeq (wRet (weIf (wtB (w2 pEq (.ex (w2 pIx (.br 0) (.ex (wC (.int 0))))) (.ex (wC (.str "and"))))) (w2 (pIn true) (.ex (wC (.bool false))) (.br 2)) (w2 (pIn false) (.ex (wC (.bool true))) (.br 2))))
    wNx)))))
def w__law_period (f__law_leaves : FI) : WS :=
  (wSeq (wSet 1 (wLc (wiRng2 (.ex (wC (.int 1))) (.ex (wC (.int 13)))) [3] (wgN 3) (wtB (w2 pEq (.ex (wLc (wiSeq (wCall f__law_leaves [.br 0])) [2] (wgN 2) (wtAnd (wtB (w2 pEq (.ex (w2 pIx (.br 2) (.ex (wC (.int 0))))) (.ex (wC (.str "div"))))) (wtB (w2 pNe (.ex (w2 pMod (.ex (wL pInt [.br 3])) (.ex (w2 pIx (.br 2) (.ex (wC (.int 1))))))) (.ex (wC (.int 0)))))) (wN 2))) (.ex (wLst [])))) (wN 3)))
    (wSeq (wRet (w2 pIx (.br 1) (.ex (wC (.int 0)))))
    wNx))
def w__law_leaf (f__law_roll f__law_some : FI) : WS :=
  (wSeq (wSet 5 (wL pTup [.ex (wLc (wiRng1 (.br 1)) [7] (wgN 7) wtYes (weIf (wtB (w2 pEq (.br 7) (.ex (wC (.int 0))))) (w2 pSub (.ex (wCall f__law_roll [.br 0, .ex (w2 pAdd (.ex (w2 pMulA (.ex (wC (.int 2))) (.br 2))) (.ex (wC (.int 1))))])) (.br 2)) (wCall f__law_some [.br 0, .ex ((wLst [.ex (w1 pNeg (.ex (wC (.int 1)))), .ex (wC (.int 0)), .ex (wC (.int 1)), .ex (w1 pNeg (.ex (wC (.int 1)))), .ex (wC (.int 1))]))])))]))
    (wSeq (wSet 6 (w2 pSub (.ex (wCall f__law_roll [.br 0, .ex (w2 pAdd (.ex (w2 pMulA (.ex (wC (.int 2))) (.br 3))) (.ex (wC (.int 1))))])) (.br 3)))
    (wSeq (wIf (wtAnd (wtB (w2 pNe (.br 4) (.ex (wLst [])))) (wtB (w2 pEq (.ex (wCall f__law_roll [.br 0, .ex (wC (.int 3))])) (.ex (wC (.int 0)))))) (wSeq (wRet (wTup [.ex (wC (.str "div")), .ex (wCall f__law_some [.br 0, .ex ((wN 4))]), .ex (wN 5), .ex (wN 6)]))
    wNx) wNx)
    (wSeq (wRet (wTup [.ex (wC (.str "most")), .ex (wN 5), .ex (wN 6)]))
    wNx))))
def w__law_test (f__law_roll f__law_leaf f__law_test f__law_some : FI) : WS :=
  (wSeq (wIf (wtOr (wtB (w2 pLt (.br 2) (.ex (wC (.int 2))))) (wtB (w2 pEq (.ex (wCall f__law_roll [.br 0, .ex (wC (.int 6))])) (.ex (wC (.int 0)))))) (wSeq (wSet 6 (wCall f__law_leaf [.br 0, .br 1, .br 3, .br 4, .br 5]))
    (wSeq (wRet (weIf (wtB (w2 pEq (.ex (wCall f__law_roll [.br 0, .ex (wC (.int 5))])) (.ex (wC (.int 0))))) (wTup [.ex (wC (.str "not")), .ex (wN 6)]) (wN 6)))
    wNx)) wNx)
    (wSeq (wSet 7 (w2 pAdd (.ex (wC (.int 1))) (.ex (wCall f__law_roll [.br 0, .ex (w2 pSub (.br 2) (.ex (wC (.int 1))))]))))
    (wSeq (wSet 8 (wTup [.ex (wCall f__law_test [.br 0, .br 1, .br 7, .br 3, .br 4, .br 5]), .ex (wCall f__law_test [.br 0, .br 1, .ex (w2 pSub (.br 2) (.br 7)), .br 3, .br 4, .br 5])]))
    (wSeq (wSet 9 (wTup [.ex (wCall f__law_some [.br 0, .ex ((wLst [.ex (wC (.str "and")), .ex (wC (.str "and")), .ex (wC (.str "or"))]))]), .ex (wN 8)]))
    (wSeq (wRet (weIf (wtAnd (wtB (w2 pLt (.br 2) (.ex (wC (.int 3))))) (wtB (w2 pEq (.ex (wCall f__law_roll [.br 0, .ex (wC (.int 8))])) (.ex (wC (.int 0)))))) (wTup [.ex (wC (.str "not")), .ex (wN 9)]) (wN 9)))
    wNx)))))
def w__law_in : WS :=
  (wSeq (wAsg (wN 0) (wgT 4 (wgCons (wgN 2) (wgCons (wgN 3) (wgCons (wgN 4) (wgCons (wgN 5) wgNil))))))
    (wSeq (wRet (weAnd (weOr (w2 (pIs false) (.br 2) (.ex (wC .none))) (w2 pLe (.br 2) (.br 1))) (weAnd (weOr (w2 (pIs false) (.br 3) (.ex (wC .none))) (w2 pLe (.br 1) (.br 3))) (w2 pEq (.ex (w2 pMod (.ex (wL pInt [.br 1])) (.br 4))) (.br 5)))))
    wNx))
def w__law_window : WS :=
  (wSeq (wSets2 2 3 (weIf (wtB (w2 (pIs false) (.br 0) (.ex (wC .none)))) (w1 pNeg (.ex (wC (.int 200)))) (wL pMax [.br 0, .ex (w1 pNeg (.ex (wC (.int 200))))])) (weIf (wtB (w2 (pIs false) (.br 1) (.ex (wC .none)))) (wC (.int 200)) (wL pMin [.br 1, .ex (wC (.int 200))])))
    (wSeq (wIf (wtAnd (wtB (w2 (pIs true) (.br 0) (.ex (wC .none)))) (wtB (w2 pGt (.br 0) (.ex (wC (.int 200)))))) (wSeq (wSets2 2 3 (wN 0) (weIf (wtB (w2 (pIs false) (.br 1) (.ex (wC .none)))) (w2 pAdd (.br 0) (.ex (wC (.int 60)))) (wL pMin [.br 1, .ex (w2 pAdd (.br 0) (.ex (wC (.int 60))))])))
    wNx) wNx)
    (wSeq (wIf (wtAnd (wtB (w2 (pIs true) (.br 1) (.ex (wC .none)))) (wtB (w2 pLt (.br 1) (.ex (w1 pNeg (.ex (wC (.int 200)))))))) (wSeq (wSets2 2 3 (weIf (wtB (w2 (pIs false) (.br 0) (.ex (wC .none)))) (w2 pSub (.br 1) (.ex (wC (.int 60)))) (wL pMax [.br 0, .ex (w2 pSub (.br 1) (.ex (wC (.int 60))))])) (wN 1))
    wNx) wNx)
    (wSeq (wRet (wLstRg2 (.br 2) (.ex (w2 pAdd (.br 3) (.ex (wC (.int 1)))))))
    wNx))))
def w__law_great (f__law_roll f__law_some : FI) : WS :=
  (wSeq (wSet 1 (wTup []))
    (wSeq (wFor (wiRng1 (.ex (w2 pAdd (.ex (wC (.int 1))) (.ex (wCall f__law_roll [.br 0, .ex (wC (.int 3))]))))) (wgN 2) (wSeq (wSet 3 (wTup [.ex (wCall f__law_some [.br 0, .ex ((wLst [.ex (wC (.int 1)), .ex (w1 pNeg (.ex (wC (.int 1)))), .ex (wC (.int 7)), .ex (w2 pPow (.ex (wC (.int 10))) (.ex (wC (.int 9)))), .ex (w1 pNeg (.ex (w2 pPow (.ex (wC (.int 10))) (.ex (wC (.int 9)))))), .ex (w2 pSub (.ex (wCall f__law_roll [.br 0, .ex (wC (.int 2001))])) (.ex (wC (.int 1000))))]))])]))
    (wSeq (wSet 4 (wCall f__law_some [.br 0, .ex ((wLst [.ex (w2 pPow (.ex (wC (.int 10))) (.ex (wC (.int 6)))), .ex (w1 pNeg (.ex (w2 pPow (.ex (wC (.int 10))) (.ex (wC (.int 6)))))), .ex (w2 pPow (.ex (wC (.int 10))) (.ex (wC (.int 12)))), .ex (w1 pNeg (.ex (w2 pPow (.ex (wC (.int 10))) (.ex (wC (.int 12)))))), .ex (w2 pSub (.ex (wCall f__law_roll [.br 0, .ex (w2 pAdd (.ex (w2 pMulA (.ex (wC (.int 2))) (.ex (w2 pPow (.ex (wC (.int 10))) (.ex (wC (.int 12))))))) (.ex (wC (.int 1))))])) (.ex (w2 pPow (.ex (wC (.int 10))) (.ex (wC (.int 12))))))]))]))
    (wSeq (wSet 1 (w2 pAdd (.br 1) (.ex (wTup [.ex (weIf (wtB (w2 pEq (.ex (wCall f__law_roll [.br 0, .ex (wC (.int 4))])) (.ex (wC (.int 0))))) (wTup [.ex (wC (.str "div")), .ex (wCall f__law_some [.br 0, .ex ((wLst [.ex (wC (.int 2)), .ex (wC (.int 3))]))]), .ex (wN 3), .ex (wN 4)]) (wTup [.ex (wC (.str "most")), .ex (wN 3), .ex (wN 4)]))]))))
    wNx))))
    (wSeq (wRet (wCall f__law_some [.br 0, .ex ((wLst [.ex (wTup [.ex (wC (.str "and")), .ex (wN 1)]), .ex (wTup [.ex (wC (.str "or")), .ex (wN 1)]), .ex (wTup [.ex (wC (.str "not")), .ex (wTup [.ex (wC (.str "and")), .ex (wN 1)])])]))]))
    wNx)))
def w__law_places (f__law_leaves : FI) : WS :=
  (wSeq (wSets2 2 3 (w2 pAdd (.ex (wLst [.ex (wC (.int 0))])) (.ex (wLc (wiSeq (wSl (.br 1) .no (.ex (.ex (wC (.int 2)))))) [6] (wgN 6) (wtB (w2 (pIs true) (.br 6) (.ex (wC .none)))) (wN 6)))) (wLst []))
    (wSeq (wFor (wiSeq (wCall f__law_leaves [.br 0])) (wgN 4) (wSeq (wIf (wtAnd (wtB (w2 pEq (.ex (w2 pIx (.br 4) (.ex (wC (.int 0))))) (.ex (wC (.str "most"))))) (wtB (w2 pNe (.ex (w2 pIx (.ex (w2 pIx (.br 4) (.ex (wC (.int 1))))) (.ex (wC (.int 0))))) (.ex (wC (.int 0)))))) (wSeq (wEx (wApp 2 (w2 pFdiv (.ex (w2 pIx (.br 4) (.ex (wC (.int 2))))) (.ex (w2 pIx (.ex (w2 pIx (.br 4) (.ex (wC (.int 1))))) (.ex (wC (.int 0))))))))
    wNx) wNx)
    wNx))
    (wSeq (wFor (wiSeq (wSrtSet (.br 2))) (wgN 5) (wSeq (wSet 3 (w2 pAdd (.br 3) (.ex (wLstRg2 (.ex (w2 pSub (.br 5) (.ex (wC (.int 14))))) (.ex (w2 pAdd (.br 5) (.ex (wC (.int 15)))))))))
    wNx))
    (wSeq (wRet (wMv 3))
    wNx))))
def w__law_is_told (f__law_in f__law_test_at : FI) : WS :=
  (wSeq (wIf (wtOr (wtB (w2 pEq (.br 1) (.ex (wLst [])))) (wtB (w2 (pIs false) (.br 0) (.ex (wC .none))))) (wSeq (wRet (weAnd (w2 pEq (.br 1) (.ex (wLst []))) (w2 (pIs false) (.br 0) (.ex (wC .none)))))
    wNx) wNx)
    (wSeq (wRet (weAnd (wIsi "int" (.br 0)) (weAnd (weNot (wIsi "bool" (.br 0))) (weAnd (wCall f__law_in [.br 3, .br 0]) (weNot (wCall f__law_test_at [.br 2, .ex (wTup [.ex (wN 0)])]))))))
    wNx))
def w__law_far (f__law_great f__law_some f__law_roll f__law_places f__law_is_told f_false_on f__law_period f__law_in f__law_test_at : FI) : WS :=
  (wSeq (wSet 1 (wCall f__law_great [.br 0]))
    (wSeq (wSet 2 (wCall f__law_some [.br 0, .ex ((wLc (wiRng2 (.ex (wC (.int 1))) (.ex (wC (.int 13)))) [6] (wgN 6) (wtB (w2 pEq (.ex (w2 pMod (.ex (wL pInt [.br 6])) (.ex (wCall f__law_period [.br 1])))) (.ex (wC (.int 0))))) (wN 6)))]))
    (wSeq (wSet 3 (wCall f__law_some [.br 0, .ex ((wLst [.ex (wC .none), .ex (wC .none), .ex (w1 pNeg (.ex (w2 pPow (.ex (wC (.int 10))) (.ex (wC (.int 9)))))), .ex (w2 pSub (.ex (w2 pPow (.ex (wC (.int 10))) (.ex (wC (.int 6))))) (.ex (wCall f__law_roll [.br 0, .ex (wC (.int 9))]))), .ex (w2 pSub (.ex (wCall f__law_roll [.br 0, .ex (wC (.int 9))])) (.ex (wC (.int 4))))]))]))
    (wSeq (wSet 4 (wTup [.ex (wN 3), .ex (wCall f__law_some [.br 0, .ex ((wLst [.ex (wC .none), .ex (wC .none), .ex (w2 pPow (.ex (wC (.int 10))) (.ex (wC (.int 9)))), .ex (w2 pAdd (.ex (w2 pPow (.ex (wC (.int 10))) (.ex (wC (.int 6))))) (.ex (wCall f__law_roll [.br 0, .ex (wC (.int 30))]))), .ex (w1 pNeg (.ex (w2 pPow (.ex (wC (.int 10))) (.ex (wC (.int 6))))))]))]), .ex (wN 2), .ex (wCall f__law_roll [.br 0, .br 2])]))
    (wSeq (wSet 5 (wLc (wiSeq (wCall f__law_places [.br 1, .br 4])) [6] (wgN 6) (wtAnd (wtB (wCall f__law_in [.br 4, .br 6])) (wtNot (wtB (wCall f__law_test_at [.br 1, .ex (wTup [.ex (wN 6)])])))) (wN 6)))
    (wSeq (wRet (wCall f__law_is_told [.ex (wCall f_false_on [.br 1, .br 4]), .br 5, .br 1, .br 4]))
    wNx))))))
def w__law_refused (f_false_on : FI) : WS :=
  (wSeq (wEx (wCall f_false_on [.br 0, .br 1]))
    wNx)
def v__law_refused (f_false_on : FI) : WS :=
  (wSeq (wRet (wLst []))
    wNx)
def h__law_refused (t : Str → Option Bool) : Option HV := ((hvL [((t "InvalidTest").map .b), ((t "InvalidPart").map .b)]).map .l)
def w__law_written (f__law_is_told f_false_on f__law_refused : FI) : WS :=
  (wSeq (wSet 0 (wLc (wiSeq (wTup [.ex (wC (.int 1)), .ex (wC (.int 7)), .ex (wC (.int 8)), .ex (wC (.int 9)), .ex (wC (.int 10)), .ex (wC (.int 11)), .ex (wC (.int 12))])) [7] (wgN 7) wtYes (wTup [.ex (wTup [.ex (wC (.str "div")), .ex (wN 7), .ex (wTup [.ex (wC (.int 1))]), .ex (wC (.int 1))]), .ex (wTup [.ex (wC .none), .ex (wC .none), .ex (wN 7), .ex (wC (.int 0))]), .ex (w2 pGt (.br 7) (.ex (wC (.int 1))))])))
    (wSeq (wSet 0 (w2 pAdd (.br 0) (.ex (wLst [.ex (wTup [.ex (wTup [.ex (wC (.str "and")), .ex (wTup [])]), .ex (wTup [.ex (wC .none), .ex (wC .none), .ex (wC (.int 12)), .ex (wC (.int 5))]), .ex (wC (.bool false))]), .ex (wTup [.ex (wTup [.ex (wC (.str "or")), .ex (wTup [])]), .ex (wTup [.ex (wC .none), .ex (wC .none), .ex (wC (.int 12)), .ex (wC (.int 5))]), .ex (wC (.bool true))]), .ex (wTup [.ex (wTup [.ex (wC (.str "or")), .ex (wTup [])]), .ex (wTup [.ex (wC (.int 3)), .ex (wC (.int 2)), .ex (wC (.int 1)), .ex (wC (.int 0))]), .ex (wC (.bool false))])]))))
    (wSeq (wSet 0 (w2 pAdd (.br 0) (.ex (wLst [.ex (wTup [.ex (wTup [.ex (wC (.str "and")), .ex (w2 pMulA (.ex (wTup [.ex (wTup [.ex (wC (.str "most")), .ex (wTup [.ex (wC (.int 1))]), .ex (wC (.int 5))])])) (.ex (wC (.int 40))))]), .ex (wTup [.ex (wC (.int 0)), .ex (wC (.int 7)), .ex (wC (.int 1)), .ex (wC (.int 0))]), .ex (wC (.bool true))]), .ex (wTup [.ex (wTup [.ex (wC (.str "most")), .ex (wTup [.ex (wC (.int 1))]), .ex (wC (.int 0))]), .ex (wTup [.ex (w2 pPow (.ex (wC (.int 10))) (.ex (wC (.int 9)))), .ex (wC .none), .ex (wC (.int 1)), .ex (wC (.int 0))]), .ex (wC (.bool true))])]))))
    (wSeq (wSet 0 (w2 pAdd (.br 0) (.ex (wLst [.ex (wTup [.ex (wTup [.ex (wC (.str "most")), .ex (wTup [.ex (w1 pNeg (.ex (wC (.int 1))))]), .ex (wC (.int 0))]), .ex (wTup [.ex (wC .none), .ex (w1 pNeg (.ex (w2 pPow (.ex (wC (.int 10))) (.ex (wC (.int 9)))))), .ex (wC (.int 1)), .ex (wC (.int 0))]), .ex (wC (.bool true))]), .ex (wTup [.ex (wTup [.ex (wC (.str "most")), .ex (wTup [.ex (wC (.int 1))]), .ex (wC (.int 0))]), .ex (wTup [.ex (w2 pPow (.ex (wC (.int 10))) (.ex (wC (.int 9)))), .ex (w1 pNeg (.ex (w2 pPow (.ex (wC (.int 10))) (.ex (wC (.int 9)))))), .ex (wC (.int 1)), .ex (wC (.int 0))]), .ex (wC (.bool false))])]))))
    (wSeq (wFor (wiSeq (wN 0)) (wgT 3 (wgCons (wgN 1) (wgCons (wgN 2) (wgCons (wgN 3) wgNil)))) (wSeq (wIf (wtNot (wtB (wCall f__law_is_told [.ex (wCall f_false_on [.br 1, .br 2]), .ex (weIf (wtB (wN 3)) (wLst [.ex (wC (.int 0))]) (wLst [])), .br 1, .br 2]))) (wSeq (wRet (wC (.bool false)))
    wNx) wNx)
    wNx))
    (wSeq (wAsg (wTup [.ex (wTup [.ex (wTup [.ex (wC (.str "div")), .ex (wC (.int 2)), .ex (wTup [.ex (wC (.int 1))]), .ex (wC (.int 0))]), .ex (wTup [.ex (wC (.str "div")), .ex (wC (.int 3)), .ex (wTup [.ex (wC (.int 1))]), .ex (wC (.int 0))])]), .ex (wTup [.ex (wC (.str "most")), .ex (wTup [.ex (wC (.int 1))]), .ex (wC (.int 0))])]) (wgT 2 (wgCons (wgN 4) (wgCons (wgN 5) wgNil))))
    (wSeq (wSet 6 (w2 pAdd (.ex (wLc (wiSeq (wTup [.ex (wC (.int 2)), .ex (wC (.int 3)), .ex (wC (.int 4)), .ex (wC (.int 9))])) [7] (wgN 7) wtYes (wTup [.ex (wTup [.ex (wC (.str "and")), .ex (wN 4)]), .ex (wTup [.ex (wC .none), .ex (wC .none), .ex (wN 7), .ex (wC (.int 0))])]))) (.ex (wLc (wiSeq (wTup [.ex (wC (.int 2)), .ex (wC (.int 3)), .ex (wC (.int 8))])) [7] (wgN 7) wtYes (wTup [.ex (wTup [.ex (wC (.str "or")), .ex (wStep (.br 4) (.ex (w1 pNeg (.ex (wC (.int 1))))))]), .ex (wTup [.ex (wC .none), .ex (wC .none), .ex (wN 7), .ex (wC (.int 0))])])))))
    (wSeq (wSet 6 (w2 pAdd (.br 6) (.ex (wLc (wiSeq (wTup [.ex (wTup [.ex (wC .none), .ex (wC .none), .ex (wC (.bool true)), .ex (wC (.int 0))]), .ex (wTup [.ex (wC .none), .ex (wC .none), .ex (wC (.int 1)), .ex (wC (.bool false))]), .ex (wTup [.ex (wC .none), .ex (wC (.bool true)), .ex (wC (.int 1)), .ex (wC (.int 0))]), .ex (wTup [.ex (wC .none), .ex (wC .none), .ex (wC (.int 1)), .ex (wC (.int 0)), .ex (wC (.int 0))]), .ex (wTup [.ex (wC .none), .ex (wC .none), .ex (wC (.int 1))])])) [7] (wgN 7) wtYes (wTup [.ex (wN 5), .ex (wN 7)])))))
    (wSeq (wSet 6 (w2 pAdd (.br 6) (.ex (wLc (wiSeq (wTup [.ex (wTup [.ex (w2 pSub (.ex (w1 pNeg (.ex (w2 pPow (.ex (wC (.int 10))) (.ex (wC (.int 9))))))) (.ex (wC (.int 1)))), .ex (wC .none), .ex (wC (.int 1)), .ex (wC (.int 0))]), .ex (wTup [.ex (wC .none), .ex (w2 pAdd (.ex (w2 pPow (.ex (wC (.int 10))) (.ex (wC (.int 9))))) (.ex (wC (.int 1)))), .ex (wC (.int 1)), .ex (wC (.int 0))])])) [7] (wgN 7) wtYes (wTup [.ex (wN 5), .ex (wN 7)])))))
    (wSeq (wRet (w2 pEq (.ex (wLc (wiSeq (wN 6)) [1, 2] (wgT 2 (wgCons (wgN 1) (wgCons (wgN 2) wgNil))) (wtB (w2 pNe (.ex (wCall f__law_refused [.br 1, .br 2])) (.ex (wLst [.ex (wC (.bool false)), .ex (wC (.bool true))])))) (wC (.int 1)))) (.ex (wLst []))))
    wNx))))))))))
def w_law (f__law_cup f__law_test f__law_roll f__law_some f__law_period f__law_window f__law_is_told f_false_on f__law_far f__law_refused f__law_written f__law_in f__law_test_at : FI) : WS :=
  (wSeq (wSet 1 (wCall f__law_cup [.br 0]))
    (wSeq (wSet 2 (wCall f__law_test [.br 1, .ex (wC (.int 1)), .ex (w2 pAdd (.ex (wC (.int 1))) (.ex (wCall f__law_roll [.br 1, .ex (wC (.int 5))]))), .ex (wCall f__law_some [.br 1, .ex ((wLst [.ex (wC (.int 1)), .ex (wC (.int 3)), .ex (wC (.int 9))]))]), .ex (wCall f__law_some [.br 1, .ex ((wLst [.ex (wC (.int 3)), .ex (wC (.int 20))]))]), .ex (wCall f__law_some [.br 1, .ex ((wLst [.ex (wLst []), .ex (wLst [.ex (wC (.int 2))]), .ex (wLst [.ex (wC (.int 2)), .ex (wC (.int 3))]), .ex (wLst [.ex (wC (.int 4)), .ex (wC (.int 6))]), .ex (wLst [.ex (wC (.int 5))])]))])]))
    (wSeq (wSet 3 (wCall f__law_period [.br 2]))
    (wSeq (wSet 4 (wCall f__law_some [.br 1, .ex ((wLc (wiRng2 (.ex (wC (.int 1))) (.ex (wC (.int 13)))) [12] (wgN 12) (wtB (w2 pEq (.ex (w2 pMod (.ex (wL pInt [.br 12])) (.br 3))) (.ex (wC (.int 0))))) (wN 12)))]))
    (wSeq (wSet 5 (wCall f__law_some [.br 1, .ex ((wLst [.ex (wC .none), .ex (wC .none), .ex (w2 pSub (.ex (wCall f__law_roll [.br 1, .ex (wC (.int 41))])) (.ex (wC (.int 20)))), .ex (w2 pSub (.ex (w2 pPow (.ex (wC (.int 10))) (.ex (wC (.int 9))))) (.ex (wC (.int 4)))), .ex (w1 pNeg (.ex (w2 pPow (.ex (wC (.int 10))) (.ex (wC (.int 9)))))), .ex (wC (.int 300))]))]))
    (wSeq (wSet 6 (wCall f__law_some [.br 1, .ex ((wLst [.ex (wC .none), .ex (wC .none), .ex (w2 pSub (.ex (wCall f__law_roll [.br 1, .ex (wC (.int 41))])) (.ex (wC (.int 20)))), .ex (w2 pPow (.ex (wC (.int 10))) (.ex (wC (.int 9)))), .ex (w2 pAdd (.ex (w1 pNeg (.ex (w2 pPow (.ex (wC (.int 10))) (.ex (wC (.int 9))))))) (.ex (wC (.int 5)))), .ex (w1 pNeg (.ex (wC (.int 300))))]))]))
    (wSeq (wSet 7 (wTup [.ex (wN 5), .ex (wN 6), .ex (wN 4), .ex (wCall f__law_roll [.br 1, .br 4])]))
    (wSeq (wSet 8 (wLc (wiSeq (wCall f__law_window [.br 5, .br 6])) [12] (wgN 12) (wtAnd (wtB (wCall f__law_in [.br 7, .br 12])) (wtNot (wtB (wCall f__law_test_at [.br 2, .ex (wTup [.ex (wN 12)])])))) (wN 12)))
    (wSeq (wIf (wtOr (wtNot (wtB (wCall f__law_is_told [.ex (wCall f_false_on [.br 2, .br 7]), .br 8, .br 2, .br 7]))) (wtNot (wtB (wCall f__law_far [.br 1])))) (wSeq (wRet (wC (.bool false)))
    wNx) wNx)
    (wSeq (wSet 9 (wLst [.ex (wC .none), .ex (wTup [.ex (wC (.str "most")), .ex (wTup [.ex (wC (.int 1)), .ex (wC (.int 1))]), .ex (wC (.int 0))]), .ex (wTup [.ex (wC (.str "div")), .ex (wC (.int 0)), .ex (wTup [.ex (wC (.int 1))]), .ex (wC (.int 0))]), .ex (wTup [.ex (wC (.str "or")), .ex (wLst [.ex (wN 2)])])]))
    (wSeq (wSet 10 (wLst [.ex (wC .none), .ex (wSl (.br 7) .no (.ex (.ex (wC (.int 3))))), .ex (wL pList [.br 7]), .ex (w2 pAdd (.ex (wTup [.ex (w2 pAdd (.ex (w2 pPow (.ex (wC (.int 10))) (.ex (wC (.int 9))))) (.ex (wC (.int 1))))])) (.ex (wSl (.br 7) (.ex (.ex (wC (.int 1)))) .no))), .ex (w2 pAdd (.ex (w2 pAdd (.ex (wSl (.br 7) .no (.ex (.ex (wC (.int 1)))))) (.ex (wTup [.ex (w2 pSub (.ex (w1 pNeg (.ex (w2 pPow (.ex (wC (.int 10))) (.ex (wC (.int 9))))))) (.ex (wC (.int 1))))])))) (.ex (wSl (.br 7) (.ex (.ex (wC (.int 2)))) .no))), .ex (w2 pAdd (.ex (wSl (.br 7) .no (.ex (.ex (wC (.int 2)))))) (.ex (wTup [.ex (wC (.int 0)), .ex (wC (.int 0))]))), .ex (w2 pAdd (.ex (wSl (.br 7) .no (.ex (.ex (wC (.int 2)))))) (.ex (wTup [.ex (wC (.int 13)), .ex (wC (.int 0))])))]))
    (wSeq (wSet 10 (wCall f__law_some [.br 1, .ex ((w2 pAdd (.br 10) (.ex (wLst [.ex (w2 pAdd (.ex (wSl (.br 7) .no (.ex (.ex (wC (.int 2)))))) (.ex (wTup [.ex (wN 4), .ex (wN 4)]))), .ex (w2 pAdd (.ex (wSl (.br 7) .no (.ex (.ex (wC (.int 2)))))) (.ex (wTup [.ex (wN 4), .ex (w1 pNeg (.ex (wC (.int 1))))]))), .ex (w2 pAdd (.ex (wTup [.ex (wC (.bool true))])) (.ex (wSl (.br 7) (.ex (.ex (wC (.int 1)))) .no))), .ex (w2 pAdd (.ex (wSl (.br 7) .no (.ex (.ex (wC (.int 3)))))) (.ex (wTup [.ex (wC .none)])))]))))]))
    (wSeq (wIf (wtOr (wtB (w2 pNe (.ex (wCall f__law_refused [.ex (wCall f__law_some [.br 1, .ex ((wN 9))]), .br 10])) (.ex (wLst [.ex (wC (.bool true)), .ex (wC (.bool false))])))) (wtB (w2 pNe (.ex (wCall f__law_refused [.br 2, .br 10])) (.ex (wLst [.ex (wC (.bool false)), .ex (wC (.bool true))]))))) (wSeq (wRet (wC (.bool false)))
    wNx) wNx)
    (wSeq (wSet 11 (wTup [.ex (wC (.str "and")), .ex (wTup [.ex (wN 2), .ex (wTup [.ex (wC (.str "div")), .ex (wC (.int 13)), .ex (wTup [.ex (wC (.int 1))]), .ex (wC (.int 0))])])]))
    (wSeq (wIf (wtOr (wtB (w2 pNe (.ex (wCall f__law_refused [.ex (wTup [.ex (wC (.str "div")), .ex (wC (.int 3)), .ex (wTup [.ex (wC (.int 1))]), .ex (wC (.int 0))]), .ex (wTup [.ex (wN 5), .ex (wN 6), .ex (wC (.int 4)), .ex (wC (.int 0))])])) (.ex (wLst [.ex (wC (.bool false)), .ex (wC (.bool true))])))) (wtB (w2 pNe (.ex (wCall f__law_refused [.ex (wTup [.ex (wC (.str "div")), .ex (wC (.int 5)), .ex (wTup [.ex (wC (.int 0))]), .ex (wC (.int 0))]), .ex (wTup [.ex (wN 5), .ex (wN 6), .ex (wC (.int 12)), .ex (wC (.int 0))])])) (.ex (wLst [.ex (wC (.bool false)), .ex (wC (.bool true))]))))) (wSeq (wRet (wC (.bool false)))
    wNx) wNx)
    (wSeq (wRet (weAnd (w2 pEq (.ex (wCall f__law_refused [.br 11, .br 7])) (.ex (wLst [.ex (wC (.bool false)), .ex (wC (.bool true))]))) (wCall f__law_written [])))
    wNx))))))))))))))))
end DL
end L2
set_option Elab.async false
set_option maxRecDepth 100000
set_option maxHeartbeats 1000000
/-! Plain part 1: leaves.py, what it does on data. -/
namespace L2
open PySem PySem.Spec PyProof.Rows
namespace DL
/-- a def that gives data and nothing else -/
def fnR (n : Nat) (f : List D → Option Rv) : FI := ⟨n, none, fun ds Q _ => ∃ r, f ds = some r ∧ Q r .none⟩
@[simp] theorem fnR_n {n : Nat} {f : List D → Option Rv} : (fnR n f).n = n := rfl
@[simp] theorem fnR_ix {n : Nat} {f : List D → Option Rv} : (fnR n f).ix = none := rfl
@[simp] theorem fnR_sp {n : Nat} {f : List D → Option Rv} {ds : List D} {Q : Rv → D → Prop} {X : XW} : (fnR n f).sp ds Q X ↔ ∃ r, f ds = some r ∧ Q r .none := Iff.rfl
/-- a reading of such a def -/
theorem reads_R {n m : Nat} {f : List D → Option Rv} {w : WS} (h : ∀ ds r, f ds = some r → ∀ (Q : Rv → Prop) X, Q r → w X ⟨fun _ => Q (.d .none), fun r _ => Q r, fun _ => False, fun _ => False⟩ (startD none m 0 ds)) : Reads (fnR n f) m w := fun ds Qd X hl hs => by
  obtain ⟨r, e, hq⟩ := hs
  exact h ds r e (fun r => Qd r .none) X hq

/-! places -/
section
variable {x y z u : D} {l : List D} {i : Nat}
theorem at_nat {α : Type} {l : List α} {i : Nat} (h : i < l.length) : atI l (i : Int) = l[i]? := by
  unfold atI ixN
  rw [if_pos (by omega), if_pos (by omega), Int.toNat_natCast]
  rfl
@[simp] theorem at_0 : atI (x :: l) 0 = some x := (at_nat (i := 0) (by simp)).trans rfl
@[simp] theorem at_1 : atI (x :: y :: l) 1 = some y := (at_nat (i := 1) (by simp)).trans rfl
@[simp] theorem at_2 : atI (x :: y :: z :: l) 2 = some z := (at_nat (i := 2) (by simp)).trans rfl
@[simp] theorem at_3 : atI (x :: y :: z :: u :: l) 3 = some u := (at_nat (i := 3) (by simp)).trans rfl
end
/-! comparisons -/
@[simp] theorem eq_ss {a b : Str} {Q : Rv → Prop} : pEq (.str a) (.str b) Q ↔ ((PyData.str a).canLay0 = true ∧ (PyData.str b).canLay0 = true) ∧ Q (.d (.bool (decide (a = b)))) := by
  have : PyData.eqv (.str a) (.str b) = decide (a = b) := by
    rw [PyData.eqv]
    by_cases h : a = b <;> simp [h]
  unfold pEq CmpOk
  rw [this]
  simp [PyData.depth]
@[simp] theorem ne_ss {a b : Str} {Q : Rv → Prop} : pNe (.str a) (.str b) Q ↔ ((PyData.str a).canLay0 = true ∧ (PyData.str b).canLay0 = true) ∧ Q (.d (.bool (!decide (a = b)))) := by
  have : PyData.eqv (.str a) (.str b) = decide (a = b) := by
    rw [PyData.eqv]
    by_cases h : a = b <;> simp [h]
  unfold pNe CmpOk
  rw [this]
  simp [PyData.depth]
@[simp] theorem eq_ii {a b : Int} {Q : Rv → Prop} : pEq (.int a) (.int b) Q ↔ Q (.d (.bool (decide (a = b)))) := by
  have : PyData.eqv (.int a) (.int b) = decide (a = b) := by
    rw [PyData.eqv]
    by_cases h : a = b <;> simp [h]
  unfold pEq CmpOk
  rw [this]
  simp [PyData.depth, PyData.canLay0]
@[simp] theorem ne_ii {a b : Int} {Q : Rv → Prop} : pNe (.int a) (.int b) Q ↔ Q (.d (.bool (!decide (a = b)))) := by
  have : PyData.eqv (.int a) (.int b) = decide (a = b) := by
    rw [PyData.eqv]
    by_cases h : a = b <;> simp [h]
  unfold pNe CmpOk
  rw [this]
  simp [PyData.depth, PyData.canLay0]
@[simp] theorem eq_l0 {l : List D} {Q : Rv → Prop} : pEq (.list l) (.list []) Q ↔ (PyData.list l).canLay0 = true ∧ Q (.d (.bool l.isEmpty)) := by
  have : PyData.eqv (.list l) (.list []) = l.isEmpty := by
    rw [PyData.eqv]
    cases l <;> rfl
  unfold pEq CmpOk
  rw [this]
  simp [PyData.depth, PyData.canLay0, PyData.canLayAll0, PyData.depthAll]
@[simp] theorem ne_l0 {l : List D} {Q : Rv → Prop} : pNe (.list l) (.list []) Q ↔ (PyData.list l).canLay0 = true ∧ Q (.d (.bool (!l.isEmpty))) := by
  have : PyData.eqv (.list l) (.list []) = l.isEmpty := by
    rw [PyData.eqv]
    cases l <;> rfl
  unfold pNe CmpOk
  rw [this]
  simp [PyData.depth, PyData.canLay0, PyData.canLayAll0, PyData.depthAll]
@[simp] theorem lay_most : (PyData.str "most").canLay0 = true := by decide +kernel
@[simp] theorem lay_div : (PyData.str "div").canLay0 = true := by decide +kernel
@[simp] theorem lay_not : (PyData.str "not").canLay0 = true := by decide +kernel
@[simp] theorem lay_and : (PyData.str "and").canLay0 = true := by decide +kernel
@[simp] theorem lay_or : (PyData.str "or").canLay0 = true := by decide +kernel
@[simp] theorem ne_most_div : (("most" : Str) = ("div" : Str)) = False := eq_false (by decide +kernel)
@[simp] theorem ne_most_not : (("most" : Str) = ("not" : Str)) = False := eq_false (by decide +kernel)
@[simp] theorem ne_most_and : (("most" : Str) = ("and" : Str)) = False := eq_false (by decide +kernel)
@[simp] theorem ne_most_or : (("most" : Str) = ("or" : Str)) = False := eq_false (by decide +kernel)
@[simp] theorem ne_div_most : (("div" : Str) = ("most" : Str)) = False := eq_false (by decide +kernel)
@[simp] theorem ne_div_not : (("div" : Str) = ("not" : Str)) = False := eq_false (by decide +kernel)
@[simp] theorem ne_div_and : (("div" : Str) = ("and" : Str)) = False := eq_false (by decide +kernel)
@[simp] theorem ne_div_or : (("div" : Str) = ("or" : Str)) = False := eq_false (by decide +kernel)
@[simp] theorem ne_not_most : (("not" : Str) = ("most" : Str)) = False := eq_false (by decide +kernel)
@[simp] theorem ne_not_div : (("not" : Str) = ("div" : Str)) = False := eq_false (by decide +kernel)
@[simp] theorem ne_not_and : (("not" : Str) = ("and" : Str)) = False := eq_false (by decide +kernel)
@[simp] theorem ne_not_or : (("not" : Str) = ("or" : Str)) = False := eq_false (by decide +kernel)
@[simp] theorem ne_and_most : (("and" : Str) = ("most" : Str)) = False := eq_false (by decide +kernel)
@[simp] theorem ne_and_div : (("and" : Str) = ("div" : Str)) = False := eq_false (by decide +kernel)
@[simp] theorem ne_and_not : (("and" : Str) = ("not" : Str)) = False := eq_false (by decide +kernel)
@[simp] theorem ne_and_or : (("and" : Str) = ("or" : Str)) = False := eq_false (by decide +kernel)
@[simp] theorem ne_or_most : (("or" : Str) = ("most" : Str)) = False := eq_false (by decide +kernel)
@[simp] theorem ne_or_div : (("or" : Str) = ("div" : Str)) = False := eq_false (by decide +kernel)
@[simp] theorem ne_or_not : (("or" : Str) = ("not" : Str)) = False := eq_false (by decide +kernel)
@[simp] theorem ne_or_and : (("or" : Str) = ("and" : Str)) = False := eq_false (by decide +kernel)

/-! slices, in -/
section
variable {x : D} {l : List D} {Q : Rv → Prop} {lo hi : Option Int}
@[simp] theorem sl_t : pSl lo hi (.tuple l) Q ↔ Q (.d (.tuple (cutA l lo hi))) := Iff.rfl
@[simp] theorem sl_l : pSl lo hi (.list l) Q ↔ Q (.f (.list (cutA l lo hi))) := Iff.rfl
@[simp] theorem sb_no {X : XW} {σ : SD} {R : Option Int → SD → Prop} : wSb .no X σ R ↔ R none σ := Iff.rfl
@[simp] theorem sb_ex {o : Opd} {X : XW} {σ : SD} {R : Option Int → SD → Prop} : wSb (.ex o) X σ R ↔ wO o X σ fun a σ1 => ∃ i, rs σ1 a = some (.int i) ∧ R (some i) σ1 := Iff.rfl
@[simp] theorem s_sl {o : Opd} {a b : SlB} {X : XW} {σ : SD} {R : Rv → SD → Prop} : wSl o a b X σ R ↔ wO o X σ fun x σ1 => wSb a X σ1 fun i σ2 => wSb b X σ2 fun j σ3 => ∃ d, rs σ3 x = some d ∧ pSl i j d fun r => R r σ3 := Iff.rfl
theorem cut_from {α : Type} (l : List α) (k : Nat) : cutA l (some (k : Int)) none = l.drop k := by
  unfold cutA
  rw [HT.sIx_nat, HT.sIx_none]
  by_cases h : k ≤ l.length
  · rw [Nat.min_eq_left h, List.take_of_length_le (by rw [List.length_drop]; omega)]
  · rw [Nat.min_eq_right (by omega), List.drop_length, List.drop_of_length_le (by omega), List.take_nil]
theorem cut_upto {α : Type} (l : List α) (k : Nat) : cutA l none (some (k : Int)) = l.take k := by
  unfold cutA
  rw [HT.sIx_nat, HT.sIx_none, List.drop_zero, Nat.sub_zero]
  by_cases h : k ≤ l.length
  · rw [Nat.min_eq_left h]
  · rw [Nat.min_eq_right (by omega), List.take_of_length_le (by omega), List.take_of_length_le (by omega)]
@[simp] theorem cut_1 : cutA l (some 1) none = l.drop 1 := cut_from l 1
@[simp] theorem cut_2 : cutA l (some 2) none = l.drop 2 := cut_from l 2
@[simp] theorem cut_3 : cutA l (some 3) none = l.drop 3 := cut_from l 3
@[simp] theorem upto_1 : cutA l none (some 1) = l.take 1 := cut_upto l 1
@[simp] theorem upto_2 : cutA l none (some 2) = l.take 2 := cut_upto l 2
@[simp] theorem upto_3 : cutA l none (some 3) = l.take 3 := cut_upto l 3
@[simp] theorem in_ss {s a b : Str} : pIn false (.str s) (.tuple [.str a, .str b]) Q ↔ Q (.d (.bool (decide (s = a) || decide (s = b)))) := by
  have e : ∀ x : Str, eqF (.str x) (.str s) = decide (s = x) := fun x => by
    show (x == s) = _
    by_cases h : s = x
    · simp [h]
    · have h2 : ¬ x = s := fun z => h z.symm
      simp [h, h2]
  unfold pIn
  simp [flatD, e]
@[simp] theorem sl_eq : sizeLine = 16777216 := sizeLine_eq
end
/-! ### is_whole, is_tuple_of, fits_row -/
def isWh (v : D) (lo hi : Int) : Bool := match v with
  | .int i => decide (lo ≤ i) && decide (i ≤ hi)
  | _ => false
def g_is_whole : List D → Option Rv
  | [v, .int lo, .int hi] => some (.d (.bool (isWh v lo hi)))
  | _ => none
@[simp] theorem g_is_whole_eq {v : D} {lo hi : Int} : g_is_whole [v, .int lo, .int hi] = some (.d (.bool (isWh v lo hi))) := rfl
abbrev f_is_whole : FI := fnR 3 g_is_whole
theorem r_is_whole : Reads f_is_whole 0 w_is_whole := reads_R fun ds r e Q X hq => by
  unfold g_is_whole at e
  split at e
  · rename_i v lo hi
    cases e
    simp [w_is_whole]
    cases v <;> simp [tyD, isiB, isWh] at hq ⊢ <;> try exact hq
    rename_i z
    by_cases h : lo ≤ z <;> simpa [h] using hq
  · cases e
def tupLen (v : D) (lo hi : Int) : Bool := match v with
  | .tuple l => decide (lo ≤ l.length) && decide ((l.length : Int) ≤ hi)
  | _ => false
def g_is_tuple_of : List D → Option Rv
  | [v, .int lo, .int hi] => some (.d (.bool (tupLen v lo hi)))
  | _ => none
@[simp] theorem g_is_tuple_of_eq {v : D} {lo hi : Int} : g_is_tuple_of [v, .int lo, .int hi] = some (.d (.bool (tupLen v lo hi))) := rfl
abbrev f_is_tuple_of : FI := fnR 3 g_is_tuple_of
theorem r_is_tuple_of : Reads f_is_tuple_of 0 w_is_tuple_of := reads_R fun ds r e Q X hq => by
  unfold g_is_tuple_of at e
  split at e
  · rename_i v lo hi
    cases e
    simp [w_is_tuple_of]
    cases v <;> simp [tyD, isiB, tupLen] at hq ⊢ <;> try exact hq
    rename_i l
    by_cases h : lo ≤ l.length <;> simpa [h] using hq
  · cases e
def rowFits (n : Int) (v : D) : Bool := match v with
  | .tuple l => decide (n = l.length) && l.all fun d => isWh d (-1000000000) 1000000000
  | _ => false
def g_fits_row : List D → Option Rv
  | [.int n, v] => if n ≤ 3 then some (.d (.bool (rowFits n v))) else none
  | _ => none
@[simp] theorem g_fits_row_eq {n : Int} {v : D} : g_fits_row [.int n, v] = if n ≤ 3 then some (.d (.bool (rowFits n v))) else none := rfl
theorem bolsD_all (l : List D) (p : D → Bool) : bolsD (l.map fun d => .bool (p d)) = some (l.map p) := by
  have := bolsD_map (l.map p)
  rw [List.map_map] at this
  exact this
abbrev f_fits_row : FI := fnR 2 g_fits_row
theorem r_fits_row : Reads f_fits_row 1 (w_fits_row f_is_tuple_of f_is_whole) := reads_R fun ds r e Q X hq => by
  unfold g_fits_row at e
  split at e
  · rename_i n v
    split at e
    · rename_i hn
      cases e
      simp [w_fits_row]
      cases v with
      | tuple l =>
        by_cases h : n = l.length
        · subst h
          simp [tupLen]
          refine lc_map (fun d => .bool (isWh d (-1000000000) 1000000000)) l (fun d hd A B a => ?_) (by rw [sizeLine_eq]; omega) ?_
          · simp [a]
          · refine ⟨_, bolsD_all l _, ?_⟩
            simpa [rowFits, List.all_map] using hq
        · have h2 : ¬ (n ≤ l.length ∧ (l.length : Int) ≤ n) := by omega
          simp [tupLen, rowFits, h, h2] at hq ⊢
          exact hq
      | _ => simpa [tupLen, rowFits] using hq
    · cases e
  · cases e
/-! ### fits_leaf -/
/-- s the first item, l the others -/
def leafFits (n : Int) (s : Str) (l : List D) : Bool := if s = "most" then (match l with
  | [row, k] => rowFits n row && isWh k (-1000000000000) 1000000000000
  | _ => false) else (match l with
  | [m, row, k] => isWh m 1 1000000 && (rowFits n row && isWh k (-1000000000000) 1000000000000)
  | _ => false)
def g_fits_leaf : List D → Option Rv
  | [.int n, .tuple (.str s :: l)] => if n ≤ 3 ∧ (PyData.str s).canLay0 = true then some (.d (.bool (leafFits n s l))) else none
  | _ => none
abbrev f_fits_leaf : FI := fnR 2 g_fits_leaf
theorem r_fits_leaf : Reads f_fits_leaf 0 (w_fits_leaf f_fits_row f_is_whole) := reads_R fun ds r e Q X hq => by
  unfold g_fits_leaf at e
  split at e
  · rename_i n s l
    split at e
    · rename_i hn
      obtain ⟨hn, hs⟩ := hn
      cases e
      simp [w_fits_leaf, hs, hn]
      have no3 : ∀ {a b c : D} {l : List D}, ¬ (((a :: b :: c :: l).length : Int) + 1 = 3) := fun {a b c l} z => by simp only [List.length_cons] at z; omega
      by_cases h : s = "most"
      · rcases l with _ | ⟨a, _ | ⟨b, _ | ⟨c, l⟩⟩⟩
        · simpa [leafFits, h] using hq
        · simpa [leafFits, h] using hq
        · simp [leafFits, h] at hq ⊢
          cases e : rowFits n a <;> simpa [e] using hq
        · rw [if_pos h, if_neg no3]
          simpa [leafFits, h] using hq
      · rcases l with _ | ⟨a, _ | ⟨b, _ | ⟨c, _ | ⟨d, l⟩⟩⟩⟩
        · simpa [leafFits, h] using hq
        · simpa [leafFits, h] using hq
        · simpa [leafFits, h] using hq
        · simp [leafFits, h] at hq ⊢
          cases e : isWh a 1 1000000 <;> cases e2 : rowFits n b <;> simpa [e, e2] using hq
        · rw [if_neg h, if_neg (fun z => by simp only [List.length_cons] at z; omega)]
          simpa [leafFits, h] using hq
    · cases e
  · cases e
/-! ### parts_of, fits_knot -/
/-- the parts of a knot: the first item, the others -/
def g_parts_of : List D → Option Rv
  | [.tuple (.str s :: x :: l)] => if (PyData.str s).canLay0 = true then (if s = "not" then some (.d (.tuple (x :: l))) else some (.d x)) else none
  | _ => none
abbrev f_parts_of : FI := fnR 1 g_parts_of
theorem r_parts_of : Reads f_parts_of 0 w_parts_of := reads_R fun ds r e Q X hq => by
  unfold g_parts_of at e
  split at e
  · rename_i s x l
    split at e
    · rename_i hs
      simp [w_parts_of, hs]
      split at e
      · rename_i h
        cases e
        simpa [h] using hq
      · rename_i h
        cases e
        simpa [h] using hq
    · cases e
  · cases e
def knot1 : List D → Bool
  | [x] => tupLen x 0 4000
  | _ => false
def knotFits (s : Str) (l : List D) : Bool := if s = "not" then l.length == 1 else decide (s = "and" ∨ s = "or") && knot1 l
def g_fits_knot : List D → Option Rv
  | [.tuple (.str s :: l)] => if (PyData.str s).canLay0 = true then some (.d (.bool (knotFits s l))) else none
  | _ => none
abbrev f_fits_knot : FI := fnR 1 g_fits_knot
theorem r_fits_knot : Reads f_fits_knot 0 (w_fits_knot f_is_tuple_of) := reads_R fun ds r e Q X hq => by
  unfold g_fits_knot at e
  split at e
  · rename_i s l
    split at e
    · rename_i hs
      cases e
      simp [w_fits_knot, hs]
      by_cases h : s = "not"
      · rcases l with _ | ⟨a, _ | ⟨b, l⟩⟩
        · simpa [knotFits, h] using hq
        · simpa [knotFits, h] using hq
        · simp only [knotFits, h, if_true] at hq ⊢
          have e1 : decide (((a :: b :: l).length : Int) + 1 = 2) = false := decide_eq_false (fun z => by simp only [List.length_cons] at z; omega)
          have e2 : ((a :: b :: l).length == 1) = false := by simp
          rw [e1]
          rw [e2] at hq
          exact hq
      · rw [if_neg h]
        unfold knotFits at hq
        rw [if_neg h] at hq
        by_cases e : s = "and" ∨ s = "or"
        · rw [if_pos e]
          rw [decide_eq_true e] at hq
          rcases l with _ | ⟨a, _ | ⟨b, l⟩⟩
          · simpa [knot1] using hq
          · simpa [knot1] using hq
          · rw [if_neg (fun z => by simp only [List.length_cons] at z; omega)]
            simpa [knot1] using hq
        · rw [if_neg e]
          rw [decide_eq_false e] at hq
          simpa using hq
    · cases e
  · cases e
/-! ### fits_test -/
/-- what is still to be looked at -/
def encS (st : List (D × Int)) : List D := st.map fun p => .tuple [p.1, .int p.2]
/-- the parts of a knot that is one -/
def partsD (v : D) : List D := match v with
  | .tuple (.str s :: x :: l) => if s = "not" then x :: l else (match x with
    | .tuple m => m
    | _ => [])
  | _ => []
/-- the loop of fits_test; the last of the list comes first -/
def fitsLoop (n : Int) : Nat → List (D × Int) → Nat → Bool
  | 0, _, _ => false
  | f + 1, st, many => match st.getLast? with
    | none => true
    | some (one, deep) => if many + 1 > 4000 ∨ deep > 12 ∨ tupLen one 2 4 = false then false else (match one with
      | .tuple (.str s :: l) => if s = "most" ∨ s = "div" then (if leafFits n s l = true then fitsLoop n f st.dropLast (many + 1) else false)
        else (if knotFits s l = true then fitsLoop n f (st.dropLast ++ (partsD one).map fun p => (p, deep + 1)) (many + 1) else false)
      | _ => false)
def testFits (n : Int) (v : D) : Bool := fitsLoop n 4002 [(v, 1)] 0
def g_fits_test : List D → Option Rv
  | [.int n, v] => if n ≤ 3 ∧ v.canLay0 = true then some (.d (.bool (testFits n v))) else none
  | _ => none
abbrev f_fits_test : FI := fnR 2 g_fits_test
theorem encS_lay : ∀ {st : List (D × Int)}, (∀ p ∈ st, p.1.canLay0 = true) → PyData.canLayAll0 (encS st) = true
  | [], _ => rfl
  | p :: st, h => by
    show PyData.canLayAll0 (.tuple [p.1, .int p.2] :: encS st) = true
    simp [PyData.canLayAll0, PyData.canLay0, h p List.mem_cons_self, encS_lay fun q hq => h q (List.mem_cons_of_mem _ hq)]
theorem lay_parts {v : D} (h : v.canLay0 = true) : ∀ p ∈ partsD v, p.canLay0 = true := by
  have all : ∀ {l : List D}, PyData.canLayAll0 l = true → ∀ p ∈ l, p.canLay0 = true := by
    intro l
    induction l with
    | nil => exact fun _ p hp => by cases hp
    | cons x l ih =>
      intro h p hp
      simp [PyData.canLayAll0] at h
      rcases List.mem_cons.mp hp with rfl | hp
      · exact h.1
      · exact ih h.2 p hp
  intro p hp
  unfold partsD at hp
  split at hp
  · rename_i s x l
    simp [PyData.canLay0, PyData.canLayAll0] at h
    split at hp
    · rcases List.mem_cons.mp hp with rfl | hp
      · exact h.2.1
      · exact all h.2.2 p hp
    · split at hp
      · rename_i m
        have h2 := h.2.1
        simp [PyData.canLay0] at h2
        exact all h2 p hp
      · cases hp
  · cases hp
theorem parts_ok {s : Str} {l : List D} (hs : (PyData.str s).canLay0 = true) (h : knotFits s l = true) : g_parts_of [.tuple (.str s :: l)] = some (.d (.tuple (partsD (.tuple (.str s :: l))))) ∧ (partsD (.tuple (.str s :: l))).length ≤ 4000 := by
  unfold knotFits at h
  by_cases hn : s = "not"
  · rw [if_pos hn] at h
    rcases l with _ | ⟨x, _ | ⟨y, l⟩⟩
    · simp at h
    · simp [g_parts_of, hs, hn, partsD]
    · simp at h
  · rw [if_neg hn, Bool.and_eq_true] at h
    rcases l with _ | ⟨x, _ | ⟨y, l⟩⟩
    · simp [knot1] at h
    · have h2 := h.2
      simp only [knot1] at h2
      cases x with
      | tuple m =>
        simp [tupLen] at h2
        simp [g_parts_of, hs, hn, partsD]
        omega
      | _ => simp [tupLen] at h2
    · simp [knot1] at h
structure Fst where
  st : List (D × Int)
  m : Nat
  a : Sl
  b : Sl
def Fst.S (n : Int) (v : D) (c : Fst) : SD := [.val (.int n), .val v, .own (.list (encS c.st)), .val (.int c.m), c.a, c.b, .un]
structure Fst.P (n : Int) (v : D) (c : Fst) : Prop where
  ha : freeSl (some c.a)
  hb : freeSl (some c.b)
  lay : ∀ p ∈ c.st, p.1.canLay0 = true
  run : fitsLoop n (4002 - c.m) c.st c.m = testFits n v
  le : c.m ≤ 4000
  len : c.st.length ≤ 1 + 4000 * c.m
theorem r_fits_test : Reads f_fits_test 5 (w_fits_test f_is_tuple_of f_fits_leaf f_fits_knot f_parts_of) := reads_R fun ds r e Q X hq => by
  unfold g_fits_test at e
  split at e
  · rename_i n v
    split at e
    · rename_i hn
      obtain ⟨hn, hv⟩ := hn
      cases e
      simp [w_fits_test]
      refine wh_gen (Fst.S n v) (fun c => 4002 - c.m) (Fst.P n v) ⟨[(v, 1)], 0, .un, .un⟩ ⟨trivial, trivial, fun p hp => by rw [List.mem_singleton.mp hp]; exact hv, rfl, Nat.zero_le _, by simp⟩ ?_
      rintro ⟨st, m, a, b⟩ ⟨ha, hb, lay, run, le, len⟩ nx hnx
      have lay2 := encS_lay lay
      dsimp only at ha hb lay run le len hnx lay2
      rcases List.eq_nil_or_concat st with rfl | ⟨st', p, rfl⟩
      · have e : (4002 - m) = (4001 - m) + 1 := by omega
        rw [e] at run
        simp [fitsLoop] at run
        simp [Fst.S, encS, PyData.canLay0, PyData.canLayAll0]
        rw [run] at hq
        exact hq
      · obtain ⟨one, deep⟩ := p
        have e : (4002 - m) = (4001 - m) + 1 := by omega
        rw [e] at run
        simp [fitsLoop] at run
        have le2 : PyData.canLay0 (.list (encS (st'.concat (one, deep)))) = true := by simpa [PyData.canLay0] using lay2
        have en : encS (st'.concat (one, deep)) = encS st' ++ [.tuple [one, .int deep]] := by simp [encS]
        rw [en] at le2
        simp only [whTurn_def, Fst.S, en]
        simp [le2, ha, hb]
        by_cases h1 : 4000 < m + 1
        · simp [h1] at run
          rw [if_pos (by omega)]
          rw [run] at hq
          exact hq
        rw [if_neg (by omega)]
        by_cases h2 : 12 < deep
        · simp [h1, h2] at run
          rw [if_pos h2]
          rw [run] at hq
          exact hq
        rw [if_neg h2]
        cases h3 : tupLen one 2 4
        · simp [h1, h2, h3] at run
          rw [run] at hq
          exact hq
        rw [if_pos rfl]
        cases one with
        | tuple l =>
          rcases l with _ | ⟨x, l⟩
          · simp [tupLen] at h3
          cases x with
          | str s =>
            have lay3 := lay (.tuple (.str s :: l), deep) (by simp)
            simp [PyData.canLay0, PyData.canLayAll0] at lay3
            have ls : (PyData.str s).canLay0 = true := by simp [PyData.canLay0, lay3]
            simp [h1, h2, h3] at run
            simp [tyD, isiB]
            by_cases h4 : s = "most" ∨ s = "div"
            · rw [if_pos h4]
              rw [if_pos h4] at run
              simp [g_fits_leaf, ls, hn]
              cases h5 : leafFits n s l
              · simp [h5] at run
                rw [run] at hq
                simpa using hq
              · simp [h5] at run
                simp
                have := hnx ⟨st', m + 1, .val (.tuple (.str s :: l)), .val (.int deep)⟩ ⟨trivial, trivial, fun p hp => lay p (by simp [hp]), by
                  rw [← run, show 4002 - (m + 1) = 4001 - m by omega], by dsimp only; omega, by
                  dsimp only
                  rw [List.length_concat] at len
                  omega⟩ (by dsimp only; omega)
                simpa [Fst.S] using this
            · rw [if_neg h4]
              rw [if_neg h4] at run
              simp [g_fits_knot, ls]
              cases h5 : knotFits s l
              · simp [h5] at run
                rw [run] at hq
                simpa using hq
              · simp [h5] at run
                obtain ⟨p1, p2⟩ := parts_ok ls h5
                simp [p1]
                have lp := lay_parts (lay (.tuple (.str s :: l), deep) (by simp))
                generalize partsD (.tuple (.str s :: l)) = parts at run p2 lp
                rw [List.length_concat] at len
                refine lc_map (fun d => .tuple [d, .int (deep + 1)]) parts (fun d hd A B a => ?_) (by rw [sl_eq]; omega) ?_
                · simpa using a
                · have e1 : (encS st').length = st'.length := by simp [encS]
                  have e2 : encS st' ++ parts.map (fun d => PyData.tuple [d, .int (deep + 1)]) = encS (st' ++ parts.map fun p => (p, deep + 1)) := by simp [encS, Function.comp_def]
                  simp [e1]
                  refine ⟨by omega, ?_⟩
                  rw [e2]
                  have := hnx ⟨st' ++ parts.map fun p => (p, deep + 1), m + 1, .val (.tuple (.str s :: l)), .val (.int deep)⟩ ⟨trivial, trivial, fun p hp => by
                      rcases List.mem_append.mp hp with hp | hp
                      · exact lay p (by simp [hp])
                      · obtain ⟨q, hq, rfl⟩ := List.mem_map.mp hp
                        exact lp q hq, by
                    rw [← run, show 4002 - (m + 1) = 4001 - m by omega], by dsimp only; omega, by
                    dsimp only
                    rw [List.length_append, List.length_map]
                    omega⟩ (by dsimp only; omega)
                  simpa [Fst.S] using this
          | _ =>
            simp [h1, h2, h3] at run
            rw [run] at hq
            simpa [tyD, isiB] using hq
        | _ => simp [tupLen] at h3
    · cases e
  · cases e
end DL
end L2
set_option Elab.async false
set_option maxRecDepth 100000
set_option maxHeartbeats 1000000
/-! Plain part 2: tests as trees; leaves_of, sum_at, leaf_at, test_at. -/
namespace L2
open PySem PySem.Spec PyProof.Rows
namespace DL
/-- a def that gives data, told by a relation -/
def fnT (n : Nat) (R : List D → Rv → Prop) : FI := ⟨n, none, fun ds Q _ => ∃ r, R ds r ∧ Q r .none⟩
@[simp] theorem fnT_n {n : Nat} {R : List D → Rv → Prop} : (fnT n R).n = n := rfl
@[simp] theorem fnT_ix {n : Nat} {R : List D → Rv → Prop} : (fnT n R).ix = none := rfl
@[simp] theorem fnT_sp {n : Nat} {R : List D → Rv → Prop} {ds : List D} {Q : Rv → D → Prop} {X : XW} : (fnT n R).sp ds Q X ↔ ∃ r, R ds r ∧ Q r .none := Iff.rfl
theorem reads_T {n m : Nat} {R : List D → Rv → Prop} {w : WS} (h : ∀ ds r, R ds r → ∀ (Q : Rv → Prop) X, Q r → w X ⟨fun _ => Q (.d .none), fun r _ => Q r, fun _ => False, fun _ => False⟩ (startD none m 0 ds)) : Reads (fnT n R) m w := fun ds Qd X hl hs => by
  obtain ⟨r, e, hq⟩ := hs
  exact h ds r e (fun r => Qd r .none) X hq

mutual
/-- a test -/
inductive Tt where
  | most (row : List Int) (k : Int)
  | div (m : Int) (row : List Int) (k : Int)
  | neg (t : Tt)
  | all (ts : Tts)
  | any (ts : Tts)
inductive Tts where
  | nil
  | cons (t : Tt) (ts : Tts)
end
abbrev encI (l : List Int) : D := .tuple (l.map .int)
mutual
def Tt.enc : Tt → D
  | .most row k => .tuple [.str "most", encI row, .int k]
  | .div m row k => .tuple [.str "div", .int m, encI row, .int k]
  | .neg t => .tuple [.str "not", t.enc]
  | .all ts => .tuple [.str "and", .tuple ts.enc]
  | .any ts => .tuple [.str "or", .tuple ts.enc]
def Tts.enc : Tts → List D
  | .nil => []
  | .cons t ts => t.enc :: ts.enc
end
/-- the sum of products -/
def dot : List Int → List Int → Int
  | x :: xs, y :: ys => x * y + dot xs ys
  | _, _ => 0
mutual
def Tt.at (p : List Int) : Tt → Bool
  | .most row k => decide (dot row p ≤ k)
  | .div m row k => decide ((dot row p + k) % m = 0)
  | .neg t => !t.at p
  | .all ts => ts.allAt p
  | .any ts => ts.anyAt p
def Tts.allAt (p : List Int) : Tts → Bool
  | .nil => true
  | .cons t ts => t.at p && ts.allAt p
def Tts.anyAt (p : List Int) : Tts → Bool
  | .nil => false
  | .cons t ts => t.at p || ts.anyAt p
end
mutual
def Tt.leaves : Tt → List Tt
  | .neg t => t.leaves
  | .all ts => ts.leaves
  | .any ts => ts.leaves
  | t => [t]
def Tts.leaves : Tts → List Tt
  | .nil => []
  | .cons t ts => t.leaves ++ ts.leaves
end
mutual
/-- how many tests are within, itself counted -/
def Tt.size : Tt → Nat
  | .neg t => t.size + 1
  | .all ts => ts.size + 1
  | .any ts => ts.size + 1
  | _ => 1
def Tts.size : Tts → Nat
  | .nil => 0
  | .cons t ts => t.size + ts.size
end
mutual
def Tt.deep : Tt → Nat
  | .neg t => t.deep + 1
  | .all ts => ts.deep + 1
  | .any ts => ts.deep + 1
  | _ => 1
def Tts.deep : Tts → Nat
  | .nil => 0
  | .cons t ts => max t.deep ts.deep
end
def Tts.len : Tts → Nat
  | .nil => 0
  | .cons _ ts => ts.len + 1
/-- a leaf of n letters -/
def leafOk (n : Nat) (R K : Int) : Tt → Prop
  | .most row k => row.length = n ∧ (∀ x ∈ row, -R ≤ x ∧ x ≤ R) ∧ -K ≤ k ∧ k ≤ K
  | .div m row k => (1 ≤ m ∧ m ≤ 1000000) ∧ row.length = n ∧ (∀ x ∈ row, -R ≤ x ∧ x ≤ R) ∧ -K ≤ k ∧ k ≤ K
  | _ => False
mutual
/-- a test of n letters -/
def Tt.ok (n : Nat) : Tt → Prop
  | .neg t => t.ok n
  | .all ts => ts.ok n ∧ ts.len ≤ 4000
  | .any ts => ts.ok n ∧ ts.len ≤ 4000
  | .most row k => leafOk n 1000000000 1000000000000 (.most row k)
  | .div m row k => leafOk n 1000000000 1000000000000 (.div m row k)
def Tts.ok (n : Nat) : Tts → Prop
  | .nil => True
  | .cons t ts => t.ok n ∧ ts.ok n
end
theorem Tts.enc_len : ∀ ts : Tts, ts.enc.length = ts.len
  | .nil => rfl
  | .cons t ts => congrArg Nat.succ (Tts.enc_len ts)

/-! ### sum_at -/
def g_sum_at (ds : List D) (r : Rv) : Prop := ∃ (a p : List Int), ds = [encI a, encI p] ∧ a.length ≤ 100 ∧ (∀ x ∈ a, -(2 ^ 64) < x ∧ x < 2 ^ 64) ∧ r = .d (.int (dot a p))
abbrev f_sum_at : FI := fnT 2 g_sum_at
theorem zip_ints : ∀ a p : List Int, zipD (a.map .int) (p.map .int) = (a.zip p).map fun q => .tuple [.int q.1, .int q.2]
  | [], _ => by simp [zipD]
  | x :: a, [] => by simp [zipD]
  | x :: a, y :: p => by simp [zipD, zip_ints a p]
theorem dot_zip : ∀ a p : List Int, ((a.zip p).map fun q => q.1 * q.2).sum = dot a p
  | [], p => by cases p <;> rfl
  | x :: a, [] => rfl
  | x :: a, y :: p => by simp [dot, dot_zip a p]
def prodD : D → D
  | .tuple [.int x, .int y] => .int (x * y)
  | d => d
theorem r_sum_at : Reads f_sum_at 2 w_sum_at := reads_T fun ds r e Q X hq => by
  obtain ⟨a, p, rfl, hl, hb, rfl⟩ := e
  simp [w_sum_at]
  have hlen : (zipD (a.map .int) (p.map .int)).length ≤ 100 := by
    rw [zipD_len, List.length_map, List.length_map]
    omega
  refine lc_map prodD _ (fun d hd A B a1 => ?_) (by rw [sl_eq]; omega) ?_
  · rw [zip_ints] at hd
    obtain ⟨q, hq, rfl⟩ := List.mem_map.mp hd
    have hx := hb q.1 (List.of_mem_zip hq).1
    have := mulOk_left (j := q.2) hx.1 hx.2
    simp [this]
    exact a1
  · have e : (zipD (a.map .int) (p.map .int)).map prodD = ((a.zip p).map fun q => q.1 * q.2).map .int := by
      rw [zip_ints]
      simp [prodD, Function.comp_def]
    rw [e]
    exact ⟨_, intsD_map _, by rw [dot_zip]; exact hq⟩
/-! ### leaf_at, test_at -/
def rowOk (row : List Int) : Prop := row.length ≤ 100 ∧ ∀ x ∈ row, -(2 ^ 64) < x ∧ x < 2 ^ 64
def isLeaf : Tt → Prop
  | .most row _ => rowOk row
  | .div m row _ => 1 ≤ m ∧ rowOk row
  | _ => False
def g_leaf_at (ds : List D) (r : Rv) : Prop := ∃ (t : Tt) (p : List Int), ds = [t.enc, encI p] ∧ isLeaf t ∧ r = .d (.bool (t.at p))
abbrev f_leaf_at : FI := fnT 2 g_leaf_at
theorem r_leaf_at : Reads f_leaf_at 0 (w_leaf_at f_sum_at) := reads_T fun ds r e Q X hq => by
  obtain ⟨t, p, rfl, hl, rfl⟩ := e
  cases t with
  | most row k =>
    simp [w_leaf_at, Tt.enc]
    exact ⟨_, ⟨row, p, rfl, hl.1, hl.2, rfl⟩, by simpa [Tt.at] using hq⟩
  | div m row k =>
    simp [w_leaf_at, Tt.enc]
    have hm : m ≠ 0 := by
      have := hl.1
      omega
    refine ⟨_, ⟨row, p, rfl, hl.2.1, hl.2.2, rfl⟩, ?_⟩
    have e : (dot row p + k).fmod m = (dot row p + k) % m := Int.fmod_eq_emod_of_nonneg _ (by have := hl.1; omega)
    simp [hm, e]
    simpa [Tt.at] using hq
  | _ => exact hl.elim
theorem isLeaf_of {n : Nat} {t : Tt} (h : t.ok n) (hn : n ≤ 100) (hl : (∃ row k, t = .most row k) ∨ ∃ m row k, t = .div m row k) : isLeaf t := by
  rcases hl with ⟨row, k, rfl⟩ | ⟨m, row, k, rfl⟩
  · simp only [Tt.ok, leafOk] at h
    refine ⟨by omega, fun x hx => ?_⟩
    have := h.2.1 x hx
    omega
  · simp only [Tt.ok, leafOk] at h
    refine ⟨by omega, by omega, fun x hx => ?_⟩
    have := h.2.2.1 x hx
    omega
def g_test_at (k : Nat) (ds : List D) (r : Rv) : Prop := ∃ (n : Nat) (t : Tt) (p : List Int), ds = [t.enc, encI p] ∧ n ≤ 100 ∧ t.ok n ∧ t.deep ≤ k ∧ r = .d (.bool (t.at p))
abbrev f_test_at (k : Nat) : FI := fnT 2 (g_test_at k)
theorem Tts.mem_enc : ∀ {ts : Tts} {d : D}, d ∈ ts.enc → ∃ t : Tt, d = t.enc ∧ t.deep ≤ ts.deep ∧ ∀ n, ts.ok n → t.ok n
  | .nil, d, h => by simp [Tts.enc] at h
  | .cons t ts, d, h => by
    simp only [Tts.enc, List.mem_cons] at h
    rcases h with rfl | h
    · exact ⟨t, rfl, Nat.le_max_left _ _, fun n h => h.1⟩
    · obtain ⟨u, e, h1, h2⟩ := Tts.mem_enc h
      exact ⟨u, e, Nat.le_trans h1 (Nat.le_max_right _ _), fun n h => h2 n h.2⟩
/-- what the run of the parts gives, as a list -/
def Tts.vals (p : List Int) : Tts → List Bool
  | .nil => []
  | .cons t ts => t.at p :: ts.vals p
theorem Tts.vals_all {p : List Int} : ∀ ts : Tts, (ts.vals p).all id = ts.allAt p
  | .nil => rfl
  | .cons t ts => by simp [Tts.vals, Tts.allAt, Tts.vals_all ts]
theorem Tts.vals_any {p : List Int} : ∀ ts : Tts, (ts.vals p).any id = ts.anyAt p
  | .nil => rfl
  | .cons t ts => by simp [Tts.vals, Tts.anyAt, Tts.vals_any ts]
/-- a comprehension over the parts of a knot -/
theorem lc_parts {X : XW} {vs : List Nat} {g : WG} {w : WE} {σ : SD} {Q : List D → SD → Prop} {p : List Int} : ∀ (ts : Tts) (acc : List D), (∀ t : Tt, t.deep ≤ ts.deep → (∀ n, ts.ok n → t.ok n) → ∀ (A : D → SD → Prop) (B : SD → Prop), A (.bool (t.at p)) σ → lcTurn X vs g wtYes w t.enc σ A B) → acc.length + ts.len ≤ sizeLine →
    Q (acc ++ (ts.vals p).map .bool) σ → lcD X vs g wtYes w Q ts.enc acc σ
  | .nil, acc, _, _, h => by
    show Q acc σ
    simpa [Tts.vals] using h
  | .cons t ts, acc, st, hl, h => by
    simp only [Tts.len] at hl
    refine st t (Nat.le_max_left _ _) (fun n h => h.1) (fun y σ3 => acc.length < sizeLine ∧ lcD X vs g wtYes w Q ts.enc (acc ++ [y]) σ3) (fun σ3 => lcD X vs g wtYes w Q ts.enc acc σ3) ⟨by omega, ?_⟩
    refine lc_parts ts (acc ++ [.bool (t.at p)]) (fun u h1 h2 => st u (Nat.le_trans h1 (Nat.le_max_right _ _)) fun n h => h2 n h.2) (by rw [List.length_append, List.length_singleton]; omega) ?_
    simpa [Tts.vals] using h
theorem r_test_at (k : Nat) : Reads (f_test_at (k + 1)) 1 (w_test_at f_leaf_at (f_test_at k)) := reads_T fun ds r e Q X hq => by
  obtain ⟨n, t, p, rfl, hn, ok, dp, rfl⟩ := e
  cases t with
  | most row c =>
    simp [w_test_at, Tt.enc]
    exact ⟨_, ⟨.most row c, p, rfl, isLeaf_of ok hn (.inl ⟨row, c, rfl⟩), rfl⟩, hq⟩
  | div m row c =>
    simp [w_test_at, Tt.enc]
    exact ⟨_, ⟨.div m row c, p, rfl, isLeaf_of ok hn (.inr ⟨m, row, c, rfl⟩), rfl⟩, hq⟩
  | neg t =>
    simp [w_test_at, Tt.enc]
    refine ⟨_, ⟨n, t, p, rfl, hn, ok, Nat.le_of_succ_le_succ dp, rfl⟩, ?_⟩
    simpa [Tt.at] using hq
  | all ts =>
    simp [w_test_at, Tt.enc]
    refine lc_parts (p := p) ts [] (fun t h1 h2 A B a => ?_) (by have := ok.2; rw [sl_eq]; simp; omega) ?_
    · simp
      exact ⟨_, ⟨n, t, p, rfl, hn, h2 n ok.1, Nat.le_trans h1 (Nat.le_of_succ_le_succ dp), rfl⟩, a⟩
    · refine ⟨_, bolsD_map _, ?_⟩
      rw [Tts.vals_all]
      exact hq
  | any ts =>
    simp [w_test_at, Tt.enc]
    refine lc_parts (p := p) ts [] (fun t h1 h2 A B a => ?_) (by have := ok.2; rw [sl_eq]; simp; omega) ?_
    · simp
      exact ⟨_, ⟨n, t, p, rfl, hn, h2 n ok.1, Nat.le_trans h1 (Nat.le_of_succ_le_succ dp), rfl⟩, a⟩
    · refine ⟨_, bolsD_map _, ?_⟩
      rw [Tts.vals_any]
      exact hq
theorem r_test_at0 {w : WS} : Reads (f_test_at 0) 1 w := reads_T fun ds r e Q X hq => by
  obtain ⟨n, t, p, rfl, hn, ok, dp, rfl⟩ := e
  cases t <;> simp [Tt.deep] at dp
/-! ### leaves_of -/
def sizeAll : List Tt → Nat
  | [] => 0
  | t :: l => t.size + sizeAll l
def leavesAll : List Tt → List Tt
  | [] => []
  | t :: l => t.leaves ++ leavesAll l
def Tts.toList : Tts → List Tt
  | .nil => []
  | .cons t ts => t :: ts.toList
theorem Tts.enc_list : ∀ ts : Tts, ts.enc = ts.toList.map Tt.enc
  | .nil => rfl
  | .cons t ts => by simp [Tts.enc, Tts.toList, Tts.enc_list ts]
theorem Tts.size_list : ∀ ts : Tts, ts.size = sizeAll ts.toList
  | .nil => rfl
  | .cons t ts => by simp [Tts.size, Tts.toList, sizeAll, Tts.size_list ts]
theorem Tts.leaves_list : ∀ ts : Tts, ts.leaves = leavesAll ts.toList
  | .nil => rfl
  | .cons t ts => by simp [Tts.leaves, Tts.toList, leavesAll, Tts.leaves_list ts]
theorem Tts.len_list : ∀ ts : Tts, ts.toList.length = ts.len
  | .nil => rfl
  | .cons t ts => by simp [Tts.toList, Tts.len, Tts.len_list ts]
theorem sizeAll_app : ∀ l m : List Tt, sizeAll (l ++ m) = sizeAll l + sizeAll m
  | [], m => by simp [sizeAll]
  | t :: l, m => by simp [sizeAll, sizeAll_app l m, Nat.add_assoc]
theorem leavesAll_app : ∀ l m : List Tt, leavesAll (l ++ m) = leavesAll l ++ leavesAll m
  | [], m => by simp [leavesAll]
  | t :: l, m => by simp [leavesAll, leavesAll_app l m]
theorem size_pos (t : Tt) : 1 ≤ t.size := by cases t <;> simp [Tt.size]
theorem len_size : ∀ l : List Tt, l.length ≤ sizeAll l
  | [] => Nat.le_refl _
  | t :: l => by
    have := len_size l
    have := size_pos t
    simp only [List.length_cons, sizeAll]
    omega
mutual
theorem Tt.leaves_size : ∀ t : Tt, t.leaves.length ≤ t.size
  | .most _ _ => by simp [Tt.leaves, Tt.size]
  | .div _ _ _ => by simp [Tt.leaves, Tt.size]
  | .neg t => by have := Tt.leaves_size t; simp only [Tt.leaves, Tt.size]; omega
  | .all ts => by have := Tts.leaves_size ts; simp only [Tt.leaves, Tt.size]; omega
  | .any ts => by have := Tts.leaves_size ts; simp only [Tt.leaves, Tt.size]; omega
theorem Tts.leaves_size : ∀ ts : Tts, ts.leaves.length ≤ ts.size
  | .nil => by simp [Tts.leaves]
  | .cons t ts => by
    have h1 := Tt.leaves_size t
    have h2 := Tts.leaves_size ts
    simp only [Tts.leaves, Tts.size, List.length_append]
    omega
end
def g_leaves_of (ds : List D) (r : Rv) : Prop := ∃ t : Tt, ds = [t.enc] ∧ t.size ≤ 1000000 ∧ t.enc.canLay0 = true ∧ r = .f (.list (t.leaves.map Tt.enc))
abbrev f_leaves_of : FI := fnT 1 g_leaves_of
theorem lay_all {l : List Tt} (h : ∀ t ∈ l, t.enc.canLay0 = true) : PyData.canLayAll0 (l.map Tt.enc) = true := by
  induction l with
  | nil => rfl
  | cons t l ih => simp [PyData.canLayAll0, h t List.mem_cons_self, ih fun u hu => h u (List.mem_cons_of_mem _ hu)]
theorem lay_ints : ∀ l : List Int, PyData.canLayAll0 (l.map .int) = true
  | [] => rfl
  | x :: l => by simp [PyData.canLayAll0, PyData.canLay0, lay_ints l]
mutual
theorem Tt.lay : ∀ t : Tt, t.enc.canLay0 = true
  | .most row k => by
    have := lay_most
    simp [PyData.canLay0] at this
    simp [Tt.enc, PyData.canLay0, PyData.canLayAll0, lay_ints, this]
  | .div m row k => by
    have := lay_div
    simp [PyData.canLay0] at this
    simp [Tt.enc, PyData.canLay0, PyData.canLayAll0, lay_ints, this]
  | .neg t => by
    have := lay_not
    simp [PyData.canLay0] at this
    simp [Tt.enc, PyData.canLay0, PyData.canLayAll0, this, Tt.lay t]
  | .all ts => by
    have := lay_and
    simp [PyData.canLay0] at this
    simp [Tt.enc, PyData.canLay0, PyData.canLayAll0, this, Tts.lay ts]
  | .any ts => by
    have := lay_or
    simp [PyData.canLay0] at this
    simp [Tt.enc, PyData.canLay0, PyData.canLayAll0, this, Tts.lay ts]
theorem Tts.lay : ∀ ts : Tts, PyData.canLayAll0 ts.enc = true
  | .nil => rfl
  | .cons t ts => by simp [Tts.enc, PyData.canLayAll0, Tt.lay t, Tts.lay ts]
end
/-- the parts of a test that is no leaf -/
def Tt.parts : Tt → List Tt
  | .neg t => [t]
  | .all ts => ts.toList
  | .any ts => ts.toList
  | _ => []
theorem seq_0 (n : Nat) : seqIndex? 0 (n + 1) = some 0 := by
  unfold seqIndex?
  have : (0 : Int) < ((n + 1 : Nat) : Int) := by omega
  simp
structure Lst where
  fo : List Tt
  li : List Tt
  a : Sl
def Lst.S (v : D) (c : Lst) : SD := [.val v, .own (.list (c.fo.map Tt.enc)), .own (.list (c.li.map Tt.enc)), c.a]
theorem r_leaves_of : Reads f_leaves_of 3 (w_leaves_of f_parts_of) := reads_T fun ds r e Q X hq => by
  obtain ⟨t, rfl, hz, _, rfl⟩ := e
  simp [w_leaves_of]
  have start : ([.val t.enc, .own (.list []), .own (.list [t.enc]), .un] : SD) = Lst.S t.enc ⟨[], [t], .un⟩ := rfl
  rw [start]
  refine wh_gen (Lst.S t.enc) (fun c => sizeAll c.li) (fun c => freeSl (some c.a) ∧ c.fo ++ leavesAll c.li = t.leaves ∧ sizeAll c.li ≤ 1000000) _ ⟨trivial, by simp [leavesAll], by simpa [sizeAll] using hz⟩ ?_
  rintro ⟨fo, li, a⟩ ⟨ha, hl, hs⟩ nx hnx
  dsimp only at ha hl hs hnx
  have lay2 : PyData.canLayAll0 (li.map Tt.enc) = true := lay_all fun t _ => t.lay
  have lay3 : PyData.canLay0 (.list (li.map Tt.enc)) = true := by simpa [PyData.canLay0] using lay2
  have flen : fo.length ≤ 1000000 := by
    have h1 := congrArg List.length hl
    rw [List.length_append] at h1
    have := t.leaves_size
    omega
  have slen : li.length ≤ 1000000 := Nat.le_trans (len_size li) hs
  cases li with
  | nil =>
    simp [Lst.S, PyData.canLay0, PyData.canLayAll0]
    simp [leavesAll] at hl
    rw [hl]
    exact hq
  | cons u li =>
    simp only [sizeAll] at hs
    simp at lay3
    simp [Lst.S, lay3, ha]
    refine ⟨0, seq_0 _, u.enc, rfl, ?_⟩
    have leaf : ∀ w : SD → Prop, w = nx → u.leaves = [u] → u.size = 1 → nx (Lst.S t.enc ⟨fo ++ [u], li, .val u.enc⟩) := fun w _ e1 e2 =>
      hnx ⟨fo ++ [u], li, .val u.enc⟩ ⟨trivial, by rw [← hl]; simp [leavesAll, e1], by dsimp only; omega⟩ (by simp only [sizeAll]; omega)
    have knot : ∀ ps : List Tt, u.leaves = leavesAll ps → u.size = sizeAll ps + 1 → nx (Lst.S t.enc ⟨fo, ps ++ li, .val u.enc⟩) := fun ps e1 e2 =>
      hnx ⟨fo, ps ++ li, .val u.enc⟩ ⟨trivial, by rw [← hl]; simp [leavesAll, leavesAll_app, e1], by dsimp only; rw [sizeAll_app]; omega⟩ (by simp only [sizeAll]; rw [sizeAll_app]; omega)
    rw [List.length_cons] at slen
    cases u with
    | most row k =>
      have := leaf nx rfl rfl rfl
      simp [Tt.enc]
      refine ⟨by omega, ?_⟩
      simpa [Lst.S, Tt.enc] using this
    | div m row k =>
      have := leaf nx rfl rfl rfl
      simp [Tt.enc]
      refine ⟨by omega, ?_⟩
      simpa [Lst.S, Tt.enc] using this
    | neg v =>
      have := knot [v] (by simp [Tt.leaves, leavesAll]) (by simp [Tt.size, sizeAll])
      simp [Tt.enc, g_parts_of]
      refine ⟨by omega, ?_⟩
      simpa [Lst.S, Tt.enc] using this
    | all ts =>
      have := knot ts.toList (by simp [Tt.leaves, Tts.leaves_list]) (by simp [Tt.size, Tts.size_list])
      have l1 := len_size ts.toList
      simp only [Tt.size, Tts.size_list] at hs
      simp [Tt.enc, g_parts_of, Tts.enc_list]
      refine ⟨by omega, ?_⟩
      simpa [Lst.S, Tt.enc, Tts.enc_list] using this
    | any ts =>
      have := knot ts.toList (by simp [Tt.leaves, Tts.leaves_list]) (by simp [Tt.size, Tts.size_list])
      have l1 := len_size ts.toList
      simp only [Tt.size, Tts.size_list] at hs
      simp [Tt.enc, g_parts_of, Tts.enc_list]
      refine ⟨by omega, ?_⟩
      simpa [Lst.S, Tt.enc, Tts.enc_list] using this
end DL
end L2
set_option Elab.async false
set_option maxRecDepth 100000
set_option maxHeartbeats 1000000
/-! Plain part 3: tests of one letter on parts: what slants.py does. -/
namespace L2
open PySem PySem.Spec PyProof.Rows
namespace DL
/-! ### breaks_of -/
def brkOf : Tt → Option Int
  | .most (c :: _) k => if c > 0 then some (k.fdiv c) else if c < 0 then some (-(k.fdiv (-c)) - 1) else none
  | _ => none
/-- the keys of a dict as they come -/
def addKey (l : List Int) (k : Int) : List Int := if k ∈ l then l else l ++ [k]
def keysOf : List Tt → List Int → List Int
  | [], acc => acc
  | t :: r, acc => match brkOf t with
    | some k => keysOf r (addKey acc k)
    | none => keysOf r acc
def brks (t : Tt) : List Int := sortI (keysOf t.leaves [])
def g_breaks_of (ds : List D) (r : Rv) : Prop := ∃ t : Tt, ds = [t.enc] ∧ t.ok 1 ∧ t.size ≤ 1000000 ∧ t.leaves.length < 64 ∧ r = .f (.list ((brks t).map .int))
abbrev f_breaks_of : FI := fnT 1 g_breaks_of
mutual
theorem Tt.leaves_ok {n : Nat} : ∀ {t : Tt}, t.ok n → ∀ u ∈ t.leaves, leafOk n 1000000000 1000000000000 u ∧ u.ok n
  | .most row k, h, u, hu => by
    simp [Tt.leaves] at hu
    subst hu
    exact ⟨h, h⟩
  | .div m row k, h, u, hu => by
    simp [Tt.leaves] at hu
    subst hu
    exact ⟨h, h⟩
  | .neg t, h, u, hu => Tt.leaves_ok (t := t) h u hu
  | .all ts, h, u, hu => Tts.leaves_ok (ts := ts) h.1 u hu
  | .any ts, h, u, hu => Tts.leaves_ok (ts := ts) h.1 u hu
theorem Tts.leaves_ok {n : Nat} : ∀ {ts : Tts}, ts.ok n → ∀ u ∈ ts.leaves, leafOk n 1000000000 1000000000000 u ∧ u.ok n
  | .nil, _, u, hu => by simp [Tts.leaves] at hu
  | .cons t ts, h, u, hu => by
    simp only [Tts.leaves, List.mem_append] at hu
    rcases hu with hu | hu
    · exact Tt.leaves_ok (t := t) h.1 u hu
    · exact Tts.leaves_ok (ts := ts) h.2 u hu
end
def kvD (l : List Int) : List (D × D) := l.map fun k => (.int k, .bool true)
theorem kv_put (l : List Int) (k : Int) : putD (kvD l) (.int k) (.bool true) = kvD (addKey l k) := by
  unfold putD addKey
  have e : ((kvD l).any fun p => beqK p.1 (.int k)) = decide (k ∈ l) := by
    induction l with
    | nil => rfl
    | cons x l ih =>
      have : kvD (x :: l) = (.int x, .bool true) :: kvD l := rfl
      rw [this, List.any_cons, ih]
      simp only [beqK, List.mem_cons]
      by_cases h : x = k
      · simp [h]
      · have h2 : ¬ k = x := fun z => h z.symm
        simp [h, h2]
  rw [e]
  by_cases h : k ∈ l
  · simp [h]
    unfold kvD
    rw [List.map_map]
    apply List.map_congr_left
    intro x _
    simp
  · simp [h, kvD]
theorem kv_key (l : List Int) : isKD (kvD l) := by
  cases l with
  | nil => trivial
  | cons x l => exact fun z => by cases z
theorem kv_ints (l : List Int) : intsD ((kvD l).map (·.1)) = some l := by
  have : (kvD l).map (·.1) = l.map .int := by simp [kvD, Function.comp_def]
  rw [this]
  exact intsD_map l
theorem keys_len : ∀ (l : List Tt) (acc : List Int), (keysOf l acc).length ≤ acc.length + l.length
  | [], acc => by simp [keysOf]
  | t :: l, acc => by
    unfold keysOf
    cases brkOf t with
    | none =>
      have := keys_len l acc
      simp only [List.length_cons]
      omega
    | some k =>
      have := keys_len l (addKey acc k)
      have h : (addKey acc k).length ≤ acc.length + 1 := by
        unfold addKey
        split <;> simp
      simp only [List.length_cons]
      omega
theorem div_ok {i j : Int} (h : j ≠ 0) (hb : j.natAbs < 2 ^ 64) : CDivA i j := ⟨h, by
  have h0 : (0 : Nat) < 64 := by decide
  have := PySem.Flt.log2_lt_of h0 hb
  omega⟩
theorem r_breaks_of : Reads f_breaks_of 2 (w_breaks_of f_leaves_of) := reads_T fun ds r e Q X hq => by
  obtain ⟨t, rfl, ok, hz, h64, rfl⟩ := e
  simp [w_breaks_of]
  refine .inl ⟨_, ⟨t, rfl, hz, t.lay, rfl⟩, ?_⟩
  simp
  refine for_inv (fun ds σ => ∃ l acc s, ds = l.map Tt.enc ∧ (∀ u ∈ l, leafOk 1 1000000000 1000000000000 u) ∧ freeSl (some s) ∧ acc.length + l.length < 64 ∧ keysOf l acc = keysOf t.leaves [] ∧ σ = [.val t.enc, .own (.dict (kvD acc)), s]) ?_ ?_ _ _
    ⟨t.leaves, [], .un, rfl, fun u hu => (Tt.leaves_ok ok u hu).1, trivial, by simpa using h64, rfl, rfl⟩
  · rintro d ds σ ⟨l, acc, s, e, lo, hs, hl, hk, rfl⟩ nx hnx
    rcases l with _ | ⟨u, l⟩
    · cases e
    simp only [List.map_cons, List.cons.injEq] at e
    obtain ⟨rfl, rfl⟩ := e
    have hu := lo u List.mem_cons_self
    have lo2 : ∀ u ∈ l, leafOk 1 1000000000 1000000000000 u := fun v hv => lo v (List.mem_cons_of_mem _ hv)
    rw [List.length_cons] at hl
    have al : ∀ k, (addKey acc k).length ≤ acc.length + 1 := fun k => by
      unfold addKey
      split <;> simp
    have fin : ∀ k, brkOf u = some k → nx [.val t.enc, .own (.dict (kvD (addKey acc k))), .val u.enc] := fun k hb => hnx _ ⟨l, addKey acc k, .val u.enc, rfl, lo2, trivial, by have := al k; omega, by
      rw [← hk]
      simp [keysOf, hb], rfl⟩
    have same : brkOf u = none → nx [.val t.enc, .own (.dict (kvD acc)), .val u.enc] := fun hb => hnx _ ⟨l, acc, .val u.enc, rfl, lo2, trivial, by omega, by
      rw [← hk]
      simp [keysOf, hb], rfl⟩
    have klen : (kvD acc).length < 16777216 := by
      simp only [kvD, List.length_map]
      omega
    cases u with
    | most row k =>
      simp only [leafOk] at hu
      rcases row with _ | ⟨c, _ | ⟨c2, row⟩⟩
      · simp at hu
      · have hc := hu.2.1 c (by simp)
        simp [Tt.enc, hs]
        by_cases h1 : 0 < c
        · have hb : brkOf (.most [c] k) = some (k.fdiv c) := by simp [brkOf, h1]
          have hd := div_ok (i := k) (j := c) (by omega) (by omega)
          simp [h1]
          refine ⟨kv_key acc, hd, _, .inl (k.fdiv c), rfl, rfl, kv_key acc, klen, ?_⟩
          have := fin _ hb
          rw [← kv_put] at this
          exact this
        · rw [if_neg h1]
          by_cases h2 : c < 0
          · have hb : brkOf (.most [c] k) = some (-(k.fdiv (-c)) - 1) := by simp [brkOf, h1, h2]
            have hd := div_ok (i := k) (j := -c) (by omega) (by omega)
            simp [h2]
            refine ⟨kv_key acc, hd, _, .inl (-(k.fdiv (-c)) - 1), rfl, rfl, kv_key acc, klen, ?_⟩
            have := fin _ hb
            rw [← kv_put] at this
            exact this
          · rw [if_neg h2]
            exact same (by simp [brkOf, h1, h2])
      · simp at hu
    | div m row k =>
      simp [Tt.enc, hs]
      exact same rfl
    | _ => exact hu.elim
  · rintro σ ⟨l, acc, s, e, lo, hs, hl, hk, rfl⟩
    have : l = [] := by
      cases l with
      | nil => rfl
      | cons u l => cases e
    subst this
    simp [keysOf] at hk
    simp
    show pSorted [.dict (kvD acc)] _
    refine ⟨acc, kv_ints acc, by simpa using hl, ?_⟩
    rw [hk]
    exact hq
/-! ### member_in, least_of, greatest_of -/
def encO : Option Int → D
  | none => .none
  | some i => .int i
@[simp] theorem encO_n : encO none = .none := rfl
@[simp] theorem encO_s {i : Int} : encO (some i) = .int i := rfl
def memberIn (lo hi : Option Int) (st re : Int) : Option Int := match lo with
  | some l => (match hi with
    | none => some (l + (re - l).fmod st)
    | some h => if l + (re - l).fmod st ≤ h then some (l + (re - l).fmod st) else none)
  | none => (match hi with
    | none => some re
    | some h => some (h - (h - re).fmod st))
def g_member_in (ds : List D) (r : Rv) : Prop := ∃ lo hi st re, ds = [encO lo, encO hi, .int st, .int re] ∧ st ≠ 0 ∧ r = .d (encO (memberIn lo hi st re))
abbrev f_member_in : FI := fnT 4 g_member_in
theorem r_member_in : Reads f_member_in 1 w_member_in := reads_T fun ds r e Q X hq => by
  obtain ⟨lo, hi, st, re, rfl, hs, rfl⟩ := e
  cases lo with
  | none =>
    cases hi with
    | none => simpa [w_member_in, memberIn] using hq
    | some h => simpa [w_member_in, memberIn, hs] using hq
  | some l =>
    cases hi with
    | none => simpa [w_member_in, memberIn, hs] using hq
    | some h =>
      simp [w_member_in, memberIn, hs] at hq ⊢
      split
      · rename_i h1
        simpa [h1] using hq
      · rename_i h1
        simpa [h1] using hq
def optMin : Option Int → Option Int → Option Int
  | none, b => b
  | a, none => a
  | some a, some b => some (if b < a then b else a)
def optMax : Option Int → Option Int → Option Int
  | none, b => b
  | a, none => a
  | some a, some b => some (if b > a then b else a)
def g_least_of (ds : List D) (r : Rv) : Prop := ∃ a b, ds = [encO a, encO b] ∧ r = .d (encO (optMin a b))
def g_greatest_of (ds : List D) (r : Rv) : Prop := ∃ a b, ds = [encO a, encO b] ∧ r = .d (encO (optMax a b))
abbrev f_least_of : FI := fnT 2 g_least_of
abbrev f_greatest_of : FI := fnT 2 g_greatest_of
theorem r_least_of : Reads f_least_of 0 w_least_of := reads_T fun ds r e Q X hq => by
  obtain ⟨a, b, rfl, rfl⟩ := e
  cases a <;> cases b <;> simpa [w_least_of, optMin, pMin] using hq
theorem r_greatest_of : Reads f_greatest_of 0 w_greatest_of := reads_T fun ds r e Q X hq => by
  obtain ⟨a, b, rfl, rfl⟩ := e
  cases a <;> cases b <;> simpa [w_greatest_of, optMax, pMax] using hq
/-! ### samples_in -/
structure Part where
  lo : Option Int
  hi : Option Int
  st : Int
  re : Int
def Part.enc (p : Part) : D := .tuple [encO p.lo, encO p.hi, .int p.st, .int p.re]
/-- the members of the stretches up to each of the bounds -/
def samples (p : Part) : List (Option Int) → Option Int → List Int
  | [], _ => []
  | e :: es, b => (memberIn (optMax p.lo b) (optMin p.hi e) p.st p.re).toList ++ samples p es (e.map (· + 1))
def g_samples_in (ds : List D) (r : Rv) : Prop := ∃ (p : Part) (bs : List Int), ds = [p.enc, .list (bs.map .int)] ∧ p.st ≠ 0 ∧ bs.length ≤ 1000 ∧ r = .f (.list ((samples p (bs.map some ++ [none]) none).map .int))
abbrev f_samples_in : FI := fnT 2 g_samples_in
theorem r_samples_in : Reads f_samples_in 8 (w_samples_in f_member_in f_greatest_of f_least_of) := reads_T fun ds r e Q X hq => by
  obtain ⟨p, bs, rfl, hst, hl, rfl⟩ := e
  simp [w_samples_in, Part.enc]
  refine ⟨by omega, ?_⟩
  have e1 : bs.map PyData.int ++ [PyData.none] = (bs.map some ++ [none]).map encO := by simp [Function.comp_def]
  rw [e1]
  refine for_inv (fun ds σ => ∃ (es : List (Option Int)) (b : Option Int) (acc : List Int) (s8 s9 : Sl), ds = es.map encO ∧ freeSl (some s8) ∧ freeSl (some s9) ∧ acc.length + es.length ≤ 1001 ∧ acc ++ samples p es b = samples p (bs.map some ++ [none]) none ∧
    σ = [.val p.enc, .val (.list (bs.map .int)), .val (encO p.lo), .val (encO p.hi), .val (.int p.st), .val (.int p.re), .own (.list (acc.map .int)), .val (encO b), s8, s9]) ?_ ?_ _ _
    ⟨bs.map some ++ [none], none, [], .un, .un, rfl, trivial, trivial, by simp; omega, rfl, rfl⟩
  · rintro d ds σ ⟨es, b, acc, s8, s9, e, h8, h9, hl2, hr, rfl⟩ nx hnx
    rcases es with _ | ⟨x, es⟩
    · cases e
    simp only [List.map_cons, List.cons.injEq] at e
    obtain ⟨rfl, rfl⟩ := e
    rw [List.length_cons] at hl2
    simp [h8, h9]
    refine ⟨_, ⟨_, _, rfl, rfl⟩, ?_⟩
    simp
    refine ⟨_, ⟨_, _, rfl, rfl⟩, ?_⟩
    simp
    refine ⟨_, ⟨_, _, _, _, rfl, hst, rfl⟩, ?_⟩
    simp [h9]
    have go : ∀ acc', acc' = acc ++ (memberIn (optMax p.lo b) (optMin p.hi x) p.st p.re).toList → ∀ b', b' = x.map (· + 1) → nx [.val p.enc, .val (.list (bs.map .int)), .val (encO p.lo), .val (encO p.hi), .val (.int p.st), .val (.int p.re), .own (.list (acc'.map .int)), .val (encO b'), .val (encO x), .val (encO (memberIn (optMax p.lo b) (optMin p.hi x) p.st p.re))] := by
      intro acc' ea b' eb
      refine hnx _ ⟨es, b', acc', .val (encO x), .val (encO (memberIn (optMax p.lo b) (optMin p.hi x) p.st p.re)), rfl, trivial, trivial, ?_, ?_, rfl⟩
      · rw [ea, List.length_append]
        have : (memberIn (optMax p.lo b) (optMin p.hi x) p.st p.re).toList.length ≤ 1 := by
          cases memberIn (optMax p.lo b) (optMin p.hi x) p.st p.re <;> simp
        omega
      · rw [← hr, ea, eb]
        simp [samples]
    cases hm : memberIn (optMax p.lo b) (optMin p.hi x) p.st p.re with
    | none =>
      rw [hm] at go
      have := go acc (by simp)
      cases x with
      | none => simpa using this none rfl
      | some x => simpa using this (some (x + 1)) rfl
    | some y =>
      rw [hm] at go
      have := go (acc ++ [y]) (by simp)
      have hl3 : acc.length < 16777216 := by omega
      cases x with
      | none => simpa [hl3] using this none rfl
      | some x => simpa [hl3] using this (some (x + 1)) rfl
  · rintro σ ⟨es, b, acc, s8, s9, e, h8, h9, hl2, hr, rfl⟩
    have : es = [] := by
      cases es with
      | nil => rfl
      | cons u l => cases e
    subst this
    simp [samples] at hr
    simp
    rw [hr]
    exact hq
/-! ### first_false -/
def firstFalse (t : Tt) (p : Part) : Option Int := (samples p ((brks t).map some ++ [none]) none).find? fun x => !t.at [x]
def g_first_false (k : Nat) (ds : List D) (r : Rv) : Prop := ∃ (t : Tt) (p : Part), ds = [t.enc, p.enc] ∧ t.ok 1 ∧ t.deep ≤ k ∧ t.size ≤ 1000000 ∧ t.leaves.length < 64 ∧ p.st ≠ 0 ∧ r = .d (encO (firstFalse t p))
abbrev f_first_false (k : Nat) : FI := fnT 2 (g_first_false k)
theorem brks_len (t : Tt) : (brks t).length ≤ t.leaves.length := by
  have h1 := (sortI_perm (keysOf t.leaves [])).length_eq
  have h2 := keys_len t.leaves []
  simp at h2
  unfold brks
  omega
theorem r_first_false (k : Nat) : Reads (f_first_false k) 1 (w_first_false f_samples_in f_breaks_of (f_test_at k)) := reads_T fun ds r e Q X hq => by
  obtain ⟨t, p, rfl, ok, dp, hz, h64, hst, rfl⟩ := e
  simp [w_first_false]
  refine ⟨_, ⟨t, rfl, ok, hz, h64, rfl⟩, ?_⟩
  simp
  refine ⟨_, ⟨p, brks t, rfl, hst, by have := brks_len t; omega, rfl⟩, ?_⟩
  simp
  refine for_inv (fun ds σ => ∃ (l : List Int) (s : Sl), ds = l.map .int ∧ freeSl (some s) ∧ l.find? (fun x => !t.at [x]) = firstFalse t p ∧ σ = [.val t.enc, .val p.enc, s]) ?_ ?_ _ _ ⟨_, .un, rfl, trivial, rfl, rfl⟩
  · rintro d ds σ ⟨l, s, e, hs, hf, rfl⟩ nx hnx
    rcases l with _ | ⟨x, l⟩
    · cases e
    simp only [List.map_cons, List.cons.injEq] at e
    obtain ⟨rfl, rfl⟩ := e
    simp [hs]
    refine ⟨_, ⟨1, t, [x], rfl, by omega, ok, dp, rfl⟩, ?_⟩
    simp [List.find?_cons] at hf
    cases h : t.at [x]
    · simp [h] at hf
      rw [← hf] at hq
      simpa using hq
    · simp [h] at hf
      simpa using hnx _ ⟨l, .val (.int x), rfl, trivial, hf, rfl⟩
  · rintro σ ⟨l, s, e, hs, hf, rfl⟩
    have : l = [] := by
      cases l with
      | nil => rfl
      | cons u l => cases e
    subst this
    simp at hf
    rw [← hf] at hq
    simpa using hq
/-! ### is_border, fits_part -/
def isBorder (v : D) : Bool := isN v || isWh v (-1000000000) 1000000000
def g_is_border : List D → Option Rv
  | [v] => if isDct v = false then some (.d (.bool (isBorder v))) else none
  | _ => none
abbrev f_is_border : FI := fnR 1 g_is_border
theorem r_is_border : Reads f_is_border 0 (w_is_border f_is_whole) := reads_R fun ds r e Q X hq => by
  unfold g_is_border at e
  split at e
  · rename_i v
    split at e
    · rename_i h
      cases e
      simp [w_is_border, h]
      cases h2 : isN v <;> simpa [isBorder, h2] using hq
    · cases e
  · cases e
def partFits (v : D) : Bool := match v with
  | .tuple [a, b, c, d] => isBorder a && (isBorder b && (match c with
    | .int s => isWh c 1 12 && isWh d 0 (s - 1)
    | _ => false))
  | _ => false
def noDct : D → Bool
  | .tuple l => l.all fun d => !isDct d
  | _ => true
def g_fits_part : List D → Option Rv
  | [v] => if noDct v = true then some (.d (.bool (partFits v))) else none
  | _ => none
abbrev f_fits_part : FI := fnR 1 g_fits_part
theorem r_fits_part : Reads f_fits_part 0 (w_fits_part f_is_tuple_of f_is_border f_is_whole) := reads_R fun ds r e Q X hq => by
  unfold g_fits_part at e
  split at e
  · rename_i v
    split at e
    · rename_i h
      cases e
      simp [w_fits_part]
      cases v with
      | tuple l =>
        rcases l with _ | ⟨a, _ | ⟨b, _ | ⟨c, _ | ⟨d, _ | ⟨e, l⟩⟩⟩⟩⟩
        · simpa [tupLen, partFits] using hq
        · simpa [tupLen, partFits] using hq
        · simpa [tupLen, partFits] using hq
        · simpa [tupLen, partFits] using hq
        · simp [noDct] at h
          simp [tupLen, g_is_border, h]
          cases h1 : isBorder a
          · simpa [partFits, h1] using hq
          · simp [h1]
            cases h2 : isBorder b
            · simpa [partFits, h1, h2] using hq
            · simp [h2]
              cases c with
              | int s =>
                cases h3 : isWh (.int s) 1 12
                · simpa [partFits, h1, h2, h3] using hq
                · simpa [partFits, h1, h2, h3] using hq
              | _ => simpa [partFits, h1, h2, isWh] using hq
        · have e1 : tupLen (.tuple (a :: b :: c :: d :: e :: l)) 4 4 = false := by
            simp [tupLen]
            omega
          rw [e1]
          simpa [partFits] using hq
      | _ => simpa [tupLen, partFits] using hq
    · cases e
  · cases e
/-! ### false_on -/
/-- all divisors divide the step -/
def stepOk (t : Tt) (st : Int) : Bool := t.leaves.all fun u => match u with
  | .div m _ _ => decide (st.fmod m = 0)
  | _ => true
/-- false_on: bad tests; a test and what is no part for it; a test and a part -/
def g_false_on (k : Nat) (ds : List D) (Q : Rv → D → Prop) (X : XW) : Prop :=
  (∃ v p, ds = [v, p] ∧ v.canLay0 = true ∧ testFits 1 v = false ∧ X "InvalidTest") ∨
  (∃ (t : Tt) (p : D), ds = [t.enc, p] ∧ testFits 1 t.enc = true ∧ noDct p = true ∧ partFits p = false ∧ X "InvalidPart") ∨
  (∃ (t : Tt) (p : Part), ds = [t.enc, p.enc] ∧ testFits 1 t.enc = true ∧ partFits p.enc = true ∧ t.ok 1 ∧ t.size ≤ 1000000 ∧ stepOk t p.st = false ∧ X "InvalidPart") ∨
  (∃ (t : Tt) (p : Part), ds = [t.enc, p.enc] ∧ testFits 1 t.enc = true ∧ partFits p.enc = true ∧ t.ok 1 ∧ t.deep ≤ k ∧ t.size ≤ 1000000 ∧ t.leaves.length < 64 ∧ stepOk t p.st = true ∧ Q (.d (encO (firstFalse t p))) .none)
abbrev f_false_on (k : Nat) : FI := ⟨2, none, g_false_on k⟩
theorem part_nd (p : Part) : noDct p.enc = true := by
  obtain ⟨lo, hi, st, re⟩ := p
  cases lo <;> cases hi <;> rfl
theorem part_st {p : Part} (h : partFits p.enc = true) : 1 ≤ p.st := by
  simp [Part.enc, partFits, isWh] at h
  omega
def divD (st : Int) : D → Bool
  | .tuple [_, .int m, _, _] => decide (st.fmod m = 0)
  | _ => true
theorem divD_all (t : Tt) (st : Int) (h : ∀ u ∈ t.leaves, leafOk 1 1000000000 1000000000000 u) : ((t.leaves.map Tt.enc).map (divD st)).all id = stepOk t st := by
  unfold stepOk
  generalize t.leaves = l at h
  induction l with
  | nil => rfl
  | cons u l ih =>
    have hu := h u List.mem_cons_self
    rw [List.map_cons, List.map_cons, List.all_cons, List.all_cons, ih fun v hv => h v (List.mem_cons_of_mem _ hv)]
    cases u with
    | most row k => rfl
    | div m row k => rfl
    | _ => exact hu.elim
theorem leaves_turn {t : Tt} {p : Part} (ok : t.ok 1) : ∀ d ∈ t.leaves.map Tt.enc, ∀ (A : D → SD → Prop) (B : SD → Prop), A (.bool (divD p.st d)) [.val t.enc, .val p.enc, .un] →
    lcTurn noX [2] (wgN 2) wtYes (weOr (w2 pEq (.ex (w2 pIx (.br 2) (.ex (wC (.int 0))))) (.ex (wC (.str "most")))) (w2 pEq (.ex (w2 pMod (.ex (w2 pIx (.br 1) (.ex (wC (.int 2))))) (.ex (w2 pIx (.br 2) (.ex (wC (.int 1))))))) (.ex (wC (.int 0))))) d [.val t.enc, .val p.enc, .un] A B := by
  intro d hd A B a
  obtain ⟨u, hu, rfl⟩ := List.mem_map.mp hd
  have lo := (Tt.leaves_ok ok u hu).1
  cases u with
  | most row k =>
    simp [Tt.enc, Part.enc] at a ⊢
    exact a
  | div m row k =>
    have hm : m ≠ 0 := by
      simp only [leafOk] at lo
      omega
    simp [Tt.enc, Part.enc, hm] at a ⊢
    exact a
  | _ => exact lo.elim
theorem r_false_on (k : Nat) : Reads (f_false_on k) 1 (w_false_on f_fits_test f_fits_part f_leaves_of (f_first_false k)) := by
  intro ds Q X hl h
  rcases h with ⟨v, p, rfl, h1, h2, h3⟩ | ⟨t, p, rfl, h1, h2, h3, h4⟩ | ⟨t, p, rfl, h1, h2, ok, hz, h3, h4⟩ | ⟨t, p, rfl, h1, h2, ok, dp, hz, h64, h3, h4⟩
  · simp [w_false_on, g_fits_test, h1, h2]
    exact h3
  · simp [w_false_on, g_fits_test, g_fits_part, h1, h2, h3, t.lay]
    exact h4
  · simp [w_false_on, g_fits_test, g_fits_part, h1, h2, t.lay, part_nd]
    refine ⟨_, ⟨t, rfl, hz, t.lay, rfl⟩, ?_⟩
    simp
    refine lc_map (fun d => .bool (divD p.st d)) _ (leaves_turn ok) (by have := t.leaves_size; rw [sl_eq, List.length_map]; omega) ⟨_, bolsD_all _ _, ?_⟩
    rw [divD_all t p.st fun u hu => (Tt.leaves_ok ok u hu).1, h3]
    simp
    exact h4
  · simp [w_false_on, g_fits_test, g_fits_part, h1, h2, t.lay, part_nd]
    refine ⟨_, ⟨t, rfl, hz, t.lay, rfl⟩, ?_⟩
    simp
    refine lc_map (fun d => .bool (divD p.st d)) _ (leaves_turn ok) (by have := t.leaves_size; rw [sl_eq, List.length_map]; omega) ⟨_, bolsD_all _ _, ?_⟩
    rw [divD_all t p.st fun u hu => (Tt.leaves_ok ok u hu).1, h3]
    simp
    exact ⟨_, ⟨t, p, rfl, ok, dp, hz, h64, by have := part_st h2; omega, rfl⟩, h4⟩
end DL
end L2
set_option Elab.async false
set_option maxRecDepth 100000
set_option maxHeartbeats 1000000
/-! Plain part 4: first_false answers right. -/
namespace L2
open PySem PySem.Spec PyProof.Rows
namespace DL
/-- the whole number is a member of the part -/
structure InPart (p : Part) (x : Int) : Prop where
  lo : ∀ l, p.lo = some l → l ≤ x
  hi : ∀ h, p.hi = some h → x ≤ h
  re : x % p.st = p.re
theorem mem_in {L H : Option Int} {st re s : Int} (hst : 1 ≤ st) (h0 : 0 ≤ re) (h1 : re < st) (e : memberIn L H st re = some s) : (∀ l, L = some l → l ≤ s) ∧ (∀ h, H = some h → s ≤ h) ∧ s % st = re := by
  have f : ∀ a : Int, a.fmod st = a % st := fun a => Int.fmod_eq_emod_of_nonneg _ (by omega)
  have nn : ∀ a : Int, 0 ≤ a % st := fun a => Int.emod_nonneg _ (by omega)
  have re0 : re % st = re := Int.emod_eq_of_lt h0 h1
  have up : ∀ l : Int, (l + (re - l) % st) % st = re := fun l => by
    rw [Int.add_emod_emod, show l + (re - l) = re by omega, re0]
  have dn : ∀ h : Int, (h - (h - re) % st) % st = re := fun h => by
    rw [Int.sub_emod_emod, show h - (h - re) = re by omega, re0]
  unfold memberIn at e
  split at e
  · rename_i l
    split at e
    · rename_i h
      cases e
      rw [f]
      exact ⟨fun l2 z => (by cases z; have := nn (re - l); omega), fun h z => (nomatch z), up l⟩
    · rename_i h
      split at e
      · rename_i hle
        cases e
        rw [f] at hle ⊢
        exact ⟨fun l2 z => (by cases z; have := nn (re - l); omega), fun h z => (by cases z; exact hle), up l⟩
      · cases e
  · split at e
    · cases e
      exact ⟨fun l z => (nomatch z), fun h z => (nomatch z), re0⟩
    · rename_i h
      cases e
      rw [f]
      exact ⟨fun l z => (nomatch z), fun h2 z => (by cases z; have := nn (h - re); omega), dn h⟩
theorem mem_is {L H : Option Int} {st re x : Int} (hst : 1 ≤ st) (hl : ∀ l, L = some l → l ≤ x) (hh : ∀ h, H = some h → x ≤ h) (hx : x % st = re) : ∃ s, memberIn L H st re = some s := by
  unfold memberIn
  split
  · rename_i l
    split
    · exact ⟨_, rfl⟩
    · rename_i h
      have h1 := hl l rfl
      have h2 := hh h rfl
      have : (re - l).fmod st ≤ x - l := by
        rw [Int.fmod_eq_emod_of_nonneg _ (by omega), ← hx, Int.emod_sub_emod]
        have d := Int.emod_add_mul_ediv (x - l) st
        have q : 0 ≤ (x - l) / st := Int.ediv_nonneg (by omega) (by omega)
        have := Int.mul_nonneg (show 0 ≤ st by omega) q
        omega
      rw [if_pos (by omega)]
      exact ⟨_, rfl⟩
  · split
    · exact ⟨_, rfl⟩
    · exact ⟨_, rfl⟩
theorem max_le {a b : Option Int} {x : Int} : (∀ l, optMax a b = some l → l ≤ x) ↔ (∀ l, a = some l → l ≤ x) ∧ (∀ l, b = some l → l ≤ x) := by
  cases a <;> cases b <;> simp [optMax]
  split <;> omega
theorem le_min {a b : Option Int} {x : Int} : (∀ l, optMin a b = some l → x ≤ l) ↔ (∀ l, a = some l → x ≤ l) ∧ (∀ l, b = some l → x ≤ l) := by
  cases a <;> cases b <;> simp [optMin]
  split <;> omega
/-- a part as it is to be -/
structure Part.ok (p : Part) : Prop where
  st : 1 ≤ p.st
  st2 : p.st ≤ 12
  r0 : 0 ≤ p.re
  r1 : p.re < p.st
theorem smp_in {p : Part} (hp : p.ok) : ∀ (es : List (Option Int)) (b : Option Int) (s : Int), s ∈ samples p es b → InPart p s
  | [], b, s, h => by cases h
  | e :: es, b, s, h => by
    simp only [samples, List.mem_append, Option.mem_toList] at h
    rcases h with h | h
    · have := mem_in hp.st hp.r0 hp.r1 (Option.mem_def.mp h)
      exact ⟨(max_le.mp this.1).1, (le_min.mp this.2.1).1, this.2.2⟩
    · exact smp_in hp es _ s h
theorem smp_all {p : Part} (hp : p.ok) {B : List Int} {x : Int} (hx : InPart p x) : ∀ (rest : List Int) (b : Option Int), rest.Pairwise (· ≤ ·) → (∀ v ∈ B, v ∈ rest ∨ ∃ b', b = some b' ∧ v < b') → (∀ b', b = some b' → b' ≤ x) → (∀ b', b = some b' → ∀ r ∈ rest, b' ≤ r + 1) →
    ∃ s ∈ samples p (rest.map some ++ [none]) b, ∀ v ∈ B, (x ≤ v ↔ s ≤ v)
  | [], b, _, hB, hb, _ => by
    obtain ⟨s, hs⟩ := mem_is (L := optMax p.lo b) (H := optMin p.hi none) hp.st (max_le.mpr ⟨hx.lo, hb⟩) (le_min.mpr ⟨hx.hi, fun l z => by cases z⟩) hx.re
    have m := mem_in hp.st hp.r0 hp.r1 hs
    refine ⟨s, by simp [samples, hs], fun v hv => ?_⟩
    rcases hB v hv with h | ⟨b', e, h⟩
    · cases h
    · have h1 := hb b' e
      have h2 := (max_le.mp m.1).2 b' e
      constructor <;> intro <;> omega
  | v0 :: rest, b, so, hB, hb, hr => by
    rw [List.pairwise_cons] at so
    by_cases h0 : x ≤ v0
    · obtain ⟨s, hs⟩ := mem_is (L := optMax p.lo b) (H := optMin p.hi (some v0)) hp.st (max_le.mpr ⟨hx.lo, hb⟩) (le_min.mpr ⟨hx.hi, fun l z => by cases z; exact h0⟩) hx.re
      have m := mem_in hp.st hp.r0 hp.r1 hs
      have hs0 : s ≤ v0 := (le_min.mp m.2.1).2 v0 rfl
      refine ⟨s, by simp [samples, hs], fun v hv => ?_⟩
      rcases hB v hv with h | ⟨b', e, h⟩
      · have : v0 ≤ v := by
          rcases List.mem_cons.mp h with rfl | h
          · exact Int.le_refl _
          · exact so.1 v h
        constructor <;> intro <;> omega
      · have h1 := hb b' e
        have h2 := (max_le.mp m.1).2 b' e
        constructor <;> intro <;> omega
    · obtain ⟨s, hs, hv⟩ := smp_all hp hx rest (some (v0 + 1)) so.2 (fun v hv => by
        rcases hB v hv with h | ⟨b', e, h⟩
        · rcases List.mem_cons.mp h with rfl | h
          · exact .inr ⟨_, rfl, by omega⟩
          · exact .inl h
        · have := hr b' e v0 List.mem_cons_self
          exact .inr ⟨_, rfl, by omega⟩) (fun b' e => by cases e; omega) (fun b' e r hr => by cases e; have := so.1 r hr; omega)
      refine ⟨s, ?_, hv⟩
      simp only [List.map_cons, List.cons_append, samples, List.mem_append]
      exact .inr hs
/-! ### a test is alike on a stretch -/
theorem le_fdiv {c k x : Int} (hc : 0 < c) : c * x ≤ k ↔ x ≤ k.fdiv c := by
  rw [Int.fdiv_eq_ediv_of_nonneg _ (by omega), Int.le_ediv_iff_mul_le hc, Int.mul_comm]
def divOk (st : Int) (u : Tt) : Bool := match u with
    | .div m _ _ => decide (st.fmod m = 0)
    | _ => true
theorem leaf_same {u : Tt} {x s st : Int} (hu : leafOk 1 1000000000 1000000000000 u) (hb : ∀ v, brkOf u = some v → (x ≤ v ↔ s ≤ v)) (hm : x % st = s % st) (hd : divOk st u = true) : u.at [x] = u.at [s] := by
  cases u with
  | most row k =>
    simp only [leafOk] at hu
    rcases row with _ | ⟨c, _ | ⟨c2, row⟩⟩
    · simp at hu
    · simp only [Tt.at, dot, Int.add_zero]
      apply decide_eq_decide.mpr
      by_cases h1 : 0 < c
      · rw [le_fdiv h1, le_fdiv h1]
        exact hb _ (by simp [brkOf, h1])
      · by_cases h2 : c < 0
        · have hb2 := hb (-(k.fdiv (-c)) - 1) (by simp [brkOf, h1, h2])
          have e : ∀ y : Int, c * y ≤ k ↔ ¬ (y ≤ -(k.fdiv (-c)) - 1) := fun y => by
            have := le_fdiv (c := -c) (k := k) (x := -y) (by omega)
            rw [Int.neg_mul_neg] at this
            rw [this]
            omega
          rw [e, e, hb2]
        · have : c = 0 := by omega
          subst this
          simp
    · simp at hu
  | div m row k =>
    simp only [leafOk] at hu
    rcases row with _ | ⟨c, _ | ⟨c2, row⟩⟩
    · simp at hu
    · simp only [Tt.at, dot, Int.add_zero]
      apply decide_eq_decide.mpr
      have hd2 : st.fmod m = 0 := by simpa [divOk] using hd
      rw [Int.fmod_eq_emod_of_nonneg _ (by omega)] at hd2
      have d1 : m ∣ st := Int.dvd_of_emod_eq_zero hd2
      have d2 : st ∣ x - s := Int.dvd_of_emod_eq_zero (by rw [Int.sub_emod, hm]; simp)
      have d3 : m ∣ (c * x + k) - (c * s + k) := by
        have : (c * x + k) - (c * s + k) = c * (x - s) := by rw [Int.mul_sub]; omega
        rw [this]
        exact Int.dvd_trans (Int.dvd_trans d1 d2) (Int.dvd_mul_left _ _)
      have e : (c * x + k) % m = (c * s + k) % m := Int.emod_eq_emod_iff_emod_sub_eq_zero.mpr (Int.emod_eq_zero_of_dvd d3)
      rw [e]
    · simp at hu
  | _ => exact hu.elim
mutual
theorem Tt.same {x s : Int} : ∀ t : Tt, (∀ u ∈ t.leaves, u.at [x] = u.at [s]) → t.at [x] = t.at [s]
  | .most row k, h => h _ (by simp [Tt.leaves])
  | .div m row k, h => h _ (by simp [Tt.leaves])
  | .neg t, h => by simp only [Tt.at, Tt.same t h]
  | .all ts, h => by simp only [Tt.at, (Tts.same ts h).1]
  | .any ts, h => by simp only [Tt.at, (Tts.same ts h).2]
theorem Tts.same {x s : Int} : ∀ ts : Tts, (∀ u ∈ ts.leaves, u.at [x] = u.at [s]) → ts.allAt [x] = ts.allAt [s] ∧ ts.anyAt [x] = ts.anyAt [s]
  | .nil, _ => ⟨rfl, rfl⟩
  | .cons t ts, h => by
    have h1 := Tt.same t fun u hu => h u (by simp [Tts.leaves, hu])
    have h2 := Tts.same ts fun u hu => h u (by simp [Tts.leaves, hu])
    simp only [Tts.allAt, Tts.anyAt, h1, h2.1, h2.2, and_self]
end
theorem mem_keys : ∀ {l : List Tt} {acc : List Int} {v : Int}, (v ∈ acc ∨ ∃ u ∈ l, brkOf u = some v) → v ∈ keysOf l acc
  | [], acc, v, h => by
    rcases h with h | ⟨u, hu, _⟩
    · exact h
    · cases hu
  | t :: l, acc, v, h => by
    have sub : ∀ k, v ∈ acc → v ∈ addKey acc k := fun k hv => by
      unfold addKey
      split
      · exact hv
      · simp [hv]
    unfold keysOf
    split
    · rename_i k e
      apply mem_keys
      rcases h with h | ⟨u, hu, hb⟩
      · exact .inl (sub k h)
      · rcases List.mem_cons.mp hu with rfl | hu
        · rw [e] at hb
          cases hb
          refine .inl ?_
          unfold addKey
          split
          · assumption
          · simp
        · exact .inr ⟨u, hu, hb⟩
    · rename_i e
      apply mem_keys
      rcases h with h | ⟨u, hu, hb⟩
      · exact .inl h
      · rcases List.mem_cons.mp hu with rfl | hu
        · rw [e] at hb
          cases hb
        · exact .inr ⟨u, hu, hb⟩
theorem mem_brks {t u : Tt} {v : Int} (hu : u ∈ t.leaves) (hb : brkOf u = some v) : v ∈ brks t :=
  (sortI_perm _).mem_iff.mpr (mem_keys (.inr ⟨u, hu, hb⟩))
theorem at_same {t : Tt} {x s st : Int} (ok : t.ok 1) (hs : stepOk t st = true) (hm : x % st = s % st) (hb : ∀ v ∈ brks t, (x ≤ v ↔ s ≤ v)) : t.at [x] = t.at [s] :=
  t.same fun u hu => leaf_same (Tt.leaves_ok ok u hu).1 (fun v e => hb v (mem_brks hu e)) hm (by
    exact List.all_eq_true.mp hs u hu)
theorem ff_some {t : Tt} {p : Part} {x : Int} (hp : p.ok) (h : firstFalse t p = some x) : InPart p x ∧ t.at [x] = false := by
  unfold firstFalse at h
  have h1 := List.mem_of_find?_eq_some h
  have h2 := List.find?_some h
  exact ⟨smp_in hp _ _ _ h1, by simpa using h2⟩
theorem ff_none {t : Tt} {p : Part} (hp : p.ok) (ok : t.ok 1) (hs : stepOk t p.st = true) (h : firstFalse t p = none) {x : Int} (hx : InPart p x) : t.at [x] = true := by
  unfold firstFalse at h
  obtain ⟨s, h1, h2⟩ := smp_all (B := brks t) hp hx (brks t) none (sortI_sorted _) (fun v hv => .inl hv) (fun b e => by cases e) (fun b e => by cases e)
  have h3 := List.find?_eq_none.mp h s h1
  have h4 := smp_in hp _ _ _ h1
  rw [at_same ok hs (hx.re.trans h4.re.symm) h2]
  simpa using h3
end DL
end L2
set_option Elab.async false
set_option maxRecDepth 100000
set_option maxHeartbeats 1000000
/-! Plain part 5: the law's own dice. -/
namespace L2
open PySem PySem.Spec PyProof.Rows
namespace DL
/-- the cup: two numbers -/
def CupOk (c : D) : Prop := ∃ a b : Int, c = .list [.int a, .int b] ∧ 0 ≤ a ∧ 0 ≤ b ∧ b < 4294967296
/-- a def that has the cup for its first parameter, and may give what R tells -/
def fnC (n : Nat) (P : List D → Prop) (R : List D → Rv → Prop) : FI := ⟨n, some 0, fun ds Q _ => ∃ c r, ds = c :: r ∧ CupOk c ∧ P r ∧ ∀ v c', CupOk c' → R r v → Q v c'⟩
section
variable {n m : Nat} {P : List D → Prop} {R : List D → Rv → Prop}
@[simp] theorem fnC_n : (fnC n P R).n = n := rfl
@[simp] theorem fnC_ix : (fnC n P R).ix = some 0 := rfl
@[simp] theorem fnC_sp {c : D} {r : List D} {Q : Rv → D → Prop} {X : XW} : (fnC n P R).sp (c :: r) Q X ↔ CupOk c ∧ P r ∧ ∀ v c', CupOk c' → R r v → Q v c' := by
  constructor
  · rintro ⟨c2, r2, e, h⟩
    cases e
    exact h
  · intro h
    exact ⟨c, r, rfl, h⟩
theorem reads_C {w : WS} (h : ∀ c r, CupOk c → P r → ∀ (Q : Rv → D → Prop) X, (∀ v c', CupOk c' → R r v → Q v c') → w X ⟨fun σ => Q (.d .none) (ioC (some 0) σ), fun v σ => Q v (ioC (some 0) σ), fun _ => False, fun _ => False⟩ (.io c :: startD (some 0) m 1 r)) : Reads (fnC n P R) m w := fun ds Qd X hl hs => by
  obtain ⟨c, r, rfl, hc, hp, hq⟩ := hs
  exact h c r hc hp Qd X hq
end
@[simp] theorem ix2_0 : ixN 2 0 = some 0 := by decide
@[simp] theorem ix2_1 : ixN 2 1 = some 1 := by decide
def pRoll (r : List D) : Prop := ∃ many : Int, r = [.int many] ∧ 0 < many ∧ many < 4611686018427387904
def rRoll (r : List D) (v : Rv) : Prop := ∃ many k : Int, r = [.int many] ∧ v = .d (.int k) ∧ 0 ≤ k ∧ k < many
abbrev f__law_roll : FI := fnC 2 pRoll rRoll
theorem r__law_roll : Reads f__law_roll 2 w__law_roll := reads_C fun c r hc hp Q X hq => by
  obtain ⟨a, b, rfl, ha, hb, hb2⟩ := hc
  obtain ⟨many, rfl, h0, h1⟩ := hp
  have hm : many ≠ 0 := by omega
  have fm : ∀ x m : Int, 0 < m → x.fmod m = x % m := fun x m h => Int.fmod_eq_emod_of_nonneg _ (by omega)
  have nn : ∀ x m : Int, 0 < m → 0 ≤ x % m := fun x m h => Int.emod_nonneg _ (by omega)
  have lt : ∀ x m : Int, 0 < m → x % m < m := fun x m h => Int.emod_lt_of_pos _ h
  have dv : ∀ x, CDivA x many := fun x => div_ok hm (by omega)
  simp [w__law_roll]
  by_cases h : 0 < a
  · rw [if_pos h]
    simp [hm, dv]
    exact hq _ _ ⟨_, _, rfl, Int.fdiv_nonneg (by omega) (by omega), hb, hb2⟩ ⟨many, _, rfl, rfl, by rw [fm _ _ h0]; exact nn _ _ h0, by rw [fm _ _ h0]; exact lt _ _ h0⟩
  · rw [if_neg h]
    have m1 : IntMulOk b 31069 := mulOk_right (by omega) (by omega)
    have hb' : ∀ x : Int, 0 ≤ x.fmod 2147483489 ∧ x.fmod 2147483489 < 2147483489 := fun x => by
      rw [fm _ _ (by omega)]
      exact ⟨nn _ _ (by omega), lt _ _ (by omega)⟩
    have h2 := hb' (b * 31069 + 8017)
    have m2 : IntMulOk ((b * 31069 + 8017).fmod 2147483489) ((b * 31069 + 8017).fmod 2147483489 + 241) := mulOk_left (by omega) (by omega)
    have d2 : ∀ x, CDivA x 829 := fun x => div_ok (by omega) (by omega)
    simp [m1, m2, d2, hm]
    exact hq _ _ ⟨_, _, rfl, ha, h2.1, by omega⟩ ⟨many, _, rfl, rfl, by rw [fm _ _ h0]; exact nn _ _ h0, by rw [fm _ _ h0]; exact lt _ _ h0⟩
def pSome (r : List D) : Prop := ∃ l : List D, r = [.list l] ∧ l ≠ [] ∧ l.length < 1000000
def rSome (r : List D) (v : Rv) : Prop := ∃ (l : List D) (d : D), r = [.list l] ∧ d ∈ l ∧ v = .d d
abbrev f__law_some : FI := fnC 2 pSome rSome
theorem r__law_some : Reads f__law_some 0 (w__law_some f__law_roll) := reads_C fun c r hc hp Q X hq => by
  obtain ⟨l, rfl, h0, h1⟩ := hp
  have hl : 0 < l.length := List.length_pos_iff.mpr h0
  simp [w__law_some, hc]
  refine ⟨⟨_, rfl, by omega, by omega⟩, ?_⟩
  rintro v c' hc' ⟨many, k, e, rfl, k0, k1⟩
  cases e
  simp
  have hk : k.toNat < l.length := by omega
  refine ⟨l[k.toNat], ?_, ?_⟩
  · have := at_nat hk
    rw [Int.toNat_of_nonneg k0] at this
    rw [this, List.getElem?_eq_getElem hk]
  · exact hq _ _ hc' ⟨l, _, rfl, List.getElem_mem hk, rfl⟩
def g__law_cup (ds : List D) (Q : Rv → D → Prop) (_ : XW) : Prop := ∃ ns : List Int, ds = [.list (ns.map .int)] ∧ ns.length < 16777216 ∧ ∀ c, CupOk c → Q (.f c) .none
abbrev f__law_cup : FI := ⟨1, none, g__law_cup⟩
@[simp] theorem cpow_18 : CPow 10 18 := ⟨by decide, by decide, by decide⟩
@[simp] theorem cpow_12 : CPow 10 12 := ⟨by decide, by decide, by decide⟩
@[simp] theorem cpow_9 : CPow 10 9 := ⟨by decide, by decide, by decide⟩
@[simp] theorem cpow_6 : CPow 10 6 := ⟨by decide, by decide, by decide⟩
theorem r__law_cup : Reads f__law_cup 1 w__law_cup := by
  rintro ds Q X hl ⟨ns, rfl, hn, hq⟩
  have fin : ∀ z : Int, 0 ≤ z → (∀ c : D, CupOk c → Q (.f c) .none) → ∃ d, atI [PyData.int (if 1000000000000000000 ≤ z then z.fdiv 79 else 0), PyData.int ((z * 293 + 2903).fmod 2077503127 + 179)] 0 = some d := fun z _ _ => ⟨_, at_0⟩
  have cup : ∀ z : Int, 0 ≤ z → ∀ a, (a = z.fdiv 79 ∨ a = 0) → CupOk (.list [.int a, .int ((z * 293 + 2903).fmod 2077503127 + 179)]) := fun z hz a ha => by
    rw [Int.fmod_eq_emod_of_nonneg _ (by omega)]
    refine ⟨_, _, rfl, ?_, ?_, ?_⟩
    · rcases ha with rfl | rfl
      · exact Int.fdiv_nonneg hz (by omega)
      · omega
    · have := Int.emod_nonneg (z * 293 + 2903) (show (2077503127 : Int) ≠ 0 by omega)
      omega
    · have := Int.emod_lt_of_pos (z * 293 + 2903) (show (0 : Int) < 2077503127 by omega)
      omega
  have m1 : ∀ x : Int, IntMulOk x 293 := fun x => mulOk_right (by omega) (by omega)
  have d2 : ∀ x, CDivA x 79 := fun x => div_ok (by omega) (by omega)
  have ex : ∃ z rest, ns.map PyData.int ++ [PyData.int 0] = .int z :: rest := by
    cases ns with
    | nil => exact ⟨0, [], rfl⟩
    | cons z r => exact ⟨z, r.map .int ++ [.int 0], rfl⟩
  obtain ⟨z, rest, ez⟩ := ex
  simp [w__law_cup]
  refine ⟨by omega, ?_⟩
  rw [ez]
  simp [m1, d2]
  have hz : 0 ≤ (if z < 0 then -z else z) := by split <;> omega
  generalize (if z < 0 then -z else z) = y at hz
  split
  · exact hq _ (cup y hz _ (.inl rfl))
  · exact hq _ (cup y hz _ (.inr rfl))
end DL
end L2
set_option Elab.async false
set_option maxRecDepth 100000
set_option maxHeartbeats 1000000
/-! Plain part 6: the law's own reading of tests and parts. -/
namespace L2
open PySem PySem.Spec PyProof.Rows
namespace DL
/-! ### leaves -/
def g__law_leaves (k : Nat) (ds : List D) (r : Rv) : Prop := ∃ t : Tt, ds = [t.enc] ∧ t.deep ≤ k ∧ t.size ≤ 1000000 ∧ r = .f (.list (t.leaves.map Tt.enc))
abbrev f__law_leaves (k : Nat) : FI := fnT 1 (g__law_leaves k)
def deepAll (k : Nat) (l : List Tt) : Prop := ∀ t ∈ l, t.deep ≤ k
theorem Tts.deep_list {k : Nat} : ∀ {ts : Tts}, ts.deep ≤ k → deepAll k ts.toList
  | .nil, _ => fun t h => by cases h
  | .cons t ts, h => fun u hu => by
    simp only [Tts.deep] at h
    rcases List.mem_cons.mp hu with rfl | hu
    · omega
    · exact Tts.deep_list (ts := ts) (by omega) u hu
theorem r__law_leaves (k : Nat) : Reads (f__law_leaves (k + 1)) 2 (w__law_leaves (f__law_leaves k)) := reads_T fun ds r e Q X hq => by
  obtain ⟨t, rfl, dp, hz, rfl⟩ := e
  have loop : ∀ (D' : EndsD) (ps : List Tt) (s1 s2 : Sl) (tl : SD), freeSl (some s2) → deepAll k ps → sizeAll ps ≤ 1000000 → ∀ (acc : List Tt), acc.length + sizeAll ps ≤ 1000000 → (∀ s2 : Sl, D'.nx [.val t.enc, .own (.list ((acc ++ leavesAll ps).map Tt.enc)), s2]) →
      forD X D' (wgN 2) (wSeq (wSet 1 (w2 pAdd (.br 1) (.ex (wCall (f__law_leaves k) [.br 2])))) wNx) (ps.map Tt.enc) [.val t.enc, .own (.list (acc.map Tt.enc)), s2] := by
    intro D' ps s1 s2 tl hs2 hd hz acc hacc hfin
    refine for_inv (fun ds σ => ∃ (l acc' : List Tt) (s : Sl), ds = l.map Tt.enc ∧ freeSl (some s) ∧ deepAll k l ∧ sizeAll l ≤ 1000000 ∧ acc'.length + sizeAll l ≤ 1000000 ∧ acc' ++ leavesAll l = acc ++ leavesAll ps ∧ σ = [.val t.enc, .own (.list (acc'.map Tt.enc)), s]) ?_ ?_ _ _ ⟨ps, acc, s2, rfl, hs2, hd, hz, hacc, rfl, rfl⟩
    · rintro d ds σ ⟨l, acc', s, e, hs, hd, hz, ha, hl, rfl⟩ nx hnx
      rcases l with _ | ⟨u, l⟩
      · cases e
      simp only [List.map_cons, List.cons.injEq] at e
      obtain ⟨rfl, rfl⟩ := e
      simp only [sizeAll] at hz ha
      have h1 := u.leaves_size
      simp [hs]
      refine ⟨_, ⟨u, rfl, hd u List.mem_cons_self, by omega, rfl⟩, ?_⟩
      simp
      refine ⟨by omega, ?_⟩
      have := hnx _ ⟨l, acc' ++ u.leaves, .val u.enc, rfl, trivial, fun v hv => hd v (List.mem_cons_of_mem _ hv), by omega, by rw [List.length_append]; omega, by rw [← hl]; simp [leavesAll], rfl⟩
      simpa using this
    · rintro σ ⟨l, acc', s, e, hs, hd, hz, ha, hl, rfl⟩
      have : l = [] := by
        cases l with
        | nil => rfl
        | cons u l => cases e
      subst this
      simp [leavesAll] at hl
      subst hl
      exact hfin s
  cases t with
  | most row c => simpa [w__law_leaves, Tt.enc, Tt.leaves] using hq
  | div m row c => simpa [w__law_leaves, Tt.enc, Tt.leaves] using hq
  | neg t =>
    simp only [Tt.size] at hz
    simp only [Tt.deep] at dp
    simp [w__law_leaves, Tt.enc]
    have := loop ⟨fun σ1 => wMv 1 X σ1 fun r σ2 => Q r, fun r _ => Q r, fun _ => False, fun _ => False⟩ [t] .un .un [] trivial (fun u hu => by rw [List.mem_singleton.mp hu]; omega) (by simp [sizeAll]; omega) [] (by simp [sizeAll]; omega) (fun s2 => by simpa [leavesAll, Tt.leaves] using hq)
    simpa [Tt.enc] using this
  | all ts =>
    simp only [Tt.size, Tts.size_list] at hz
    simp only [Tt.deep] at dp
    simp [w__law_leaves, Tt.enc, Tts.enc_list]
    have := loop ⟨fun σ1 => wMv 1 X σ1 fun r σ2 => Q r, fun r _ => Q r, fun _ => False, fun _ => False⟩ ts.toList .un .un [] trivial (Tts.deep_list (by omega)) (by omega) [] (by simp; omega) (fun s2 => by simpa [Tt.leaves, Tts.leaves_list] using hq)
    simpa [Tt.enc, Tts.enc_list] using this
  | any ts =>
    simp only [Tt.size, Tts.size_list] at hz
    simp only [Tt.deep] at dp
    simp [w__law_leaves, Tt.enc, Tts.enc_list]
    have := loop ⟨fun σ1 => wMv 1 X σ1 fun r σ2 => Q r, fun r _ => Q r, fun _ => False, fun _ => False⟩ ts.toList .un .un [] trivial (Tts.deep_list (by omega)) (by omega) [] (by simp; omega) (fun s2 => by simpa [Tt.leaves, Tts.leaves_list] using hq)
    simpa [Tt.enc, Tts.enc_list] using this
theorem r__law_leaves0 {w : WS} : Reads (f__law_leaves 0) 2 w := reads_T fun ds r e Q X hq => by
  obtain ⟨t, rfl, dp, _⟩ := e
  cases t <;> simp [Tt.deep] at dp
/-! ### the value of a test -/
theorem r__law_sum : Reads f_sum_at 2 w__law_sum := r_sum_at
@[simp] theorem in_no {l : List Bool} {Q : Rv → Prop} : pIn true (.bool false) (.list (l.map .bool)) Q ↔ Q (.d (.bool (l.all id))) := by
  have e : ((l.map PyData.bool).any fun y => eqF y (.bool false)) = !l.all id := by
    induction l with
    | nil => rfl
    | cons b l ih =>
      rw [List.map_cons, List.any_cons, ih]
      cases b <;> simp [eqF]
  unfold pIn
  simp [flatD, e]
@[simp] theorem in_yes {l : List Bool} {Q : Rv → Prop} : pIn false (.bool true) (.list (l.map .bool)) Q ↔ Q (.d (.bool (l.any id))) := by
  have e : ((l.map PyData.bool).any fun y => eqF y (.bool true)) = l.any id := by
    induction l with
    | nil => rfl
    | cons b l ih =>
      rw [List.map_cons, List.any_cons, ih]
      cases b <;> simp [eqF]
  unfold pIn
  simp [flatD, e]
abbrev f__law_test_at (k : Nat) : FI := fnT 2 (g_test_at k)
theorem r__law_test_at (k : Nat) : Reads (f__law_test_at (k + 1)) 2 (w__law_test_at f_sum_at (f__law_test_at k)) := reads_T fun ds r e Q X hq => by
  obtain ⟨n, t, p, rfl, hn, ok, dp, rfl⟩ := e
  cases t with
  | most row c =>
    have hl := isLeaf_of ok hn (.inl ⟨row, c, rfl⟩)
    simp [w__law_test_at, Tt.enc]
    exact ⟨_, ⟨row, p, rfl, hl.1, hl.2, rfl⟩, by simpa [Tt.at] using hq⟩
  | div m row c =>
    have hl := isLeaf_of ok hn (.inr ⟨m, row, c, rfl⟩)
    have hm : m ≠ 0 := by
      have := hl.1
      omega
    simp [w__law_test_at, Tt.enc]
    refine ⟨_, ⟨row, p, rfl, hl.2.1, hl.2.2, rfl⟩, ?_⟩
    have e : (dot row p + c).fmod m = (dot row p + c) % m := Int.fmod_eq_emod_of_nonneg _ (by have := hl.1; omega)
    simp [hm, e]
    simpa [Tt.at] using hq
  | neg t =>
    simp [w__law_test_at, Tt.enc]
    refine ⟨_, ⟨n, t, p, rfl, hn, ok, Nat.le_of_succ_le_succ dp, rfl⟩, ?_⟩
    simpa [Tt.at] using hq
  | all ts =>
    simp [w__law_test_at, Tt.enc]
    refine lc_parts (p := p) ts [] (fun t h1 h2 A B a => ?_) (by have := ok.2; rw [sl_eq]; simp; omega) ?_
    · simp
      exact ⟨_, ⟨n, t, p, rfl, hn, h2 n ok.1, Nat.le_trans h1 (Nat.le_of_succ_le_succ dp), rfl⟩, a⟩
    · simp
      rw [Tts.vals_all]
      exact hq
  | any ts =>
    simp [w__law_test_at, Tt.enc]
    refine lc_parts (p := p) ts [] (fun t h1 h2 A B a => ?_) (by have := ok.2; rw [sl_eq]; simp; omega) ?_
    · simp
      exact ⟨_, ⟨n, t, p, rfl, hn, h2 n ok.1, Nat.le_trans h1 (Nat.le_of_succ_le_succ dp), rfl⟩, a⟩
    · simp
      rw [Tts.vals_any]
      exact hq
/-! ### parts -/
def inB (p : Part) (x : Int) : Bool := (match p.lo with
  | none => true
  | some l => decide (l ≤ x)) && ((match p.hi with
  | none => true
  | some h => decide (x ≤ h)) && decide (x.fmod p.st = p.re))
theorem inB_iff {p : Part} (hp : p.ok) {x : Int} : inB p x = true ↔ InPart p x := by
  obtain ⟨lo, hi, st, re⟩ := p
  have e : x.fmod st = x % st := Int.fmod_eq_emod_of_nonneg _ (by have := hp.st; dsimp only at this; omega)
  unfold inB
  dsimp only
  rw [e]
  constructor
  · intro h
    refine ⟨fun l z => ?_, fun u z => ?_, ?_⟩
    · dsimp only at z; subst z; simp at h; omega
    · dsimp only at z; subst z; simp at h; omega
    · simp at h; exact h.2.2
  · rintro ⟨h1, h2, h3⟩
    dsimp only at h1 h2 h3
    cases lo <;> cases hi <;> simp_all
def g__law_in (ds : List D) (r : Rv) : Prop := ∃ (p : Part) (x : Int), ds = [p.enc, .int x] ∧ p.st ≠ 0 ∧ r = .d (.bool (inB p x))
abbrev f__law_in : FI := fnT 2 g__law_in
theorem r__law_in : Reads f__law_in 4 w__law_in := reads_T fun ds r e Q X hq => by
  obtain ⟨⟨lo, hi, st, re⟩, x, rfl, hs, rfl⟩ := e
  dsimp only at hs
  simp [w__law_in, Part.enc]
  unfold inB at hq
  cases lo with
  | none =>
    cases hi with
    | none => simpa [hs] using hq
    | some h => by_cases h2 : x ≤ h <;> simpa [hs, h2] using hq
  | some l =>
    by_cases h1 : l ≤ x
    · cases hi with
      | none => simpa [hs, h1] using hq
      | some h => by_cases h2 : x ≤ h <;> simpa [hs, h1, h2] using hq
    · simpa [h1] using hq
/-! ### is_told -/
def isTold (o : Option Int) (due : List Int) (t : Tt) (p : Part) : Bool := match o with
  | none => due.isEmpty
  | some x => !due.isEmpty && (inB p x && !t.at [x])
def g__law_is_told (k : Nat) (ds : List D) (r : Rv) : Prop := ∃ (o : Option Int) (due : List Int) (t : Tt) (p : Part), ds = [encO o, .list (due.map .int), t.enc, p.enc] ∧ t.ok 1 ∧ t.deep ≤ k ∧ p.st ≠ 0 ∧ r = .d (.bool (isTold o due t p))
abbrev f__law_is_told (k : Nat) : FI := fnT 4 (g__law_is_told k)
theorem r__law_is_told (k : Nat) : Reads (f__law_is_told k) 0 (w__law_is_told f__law_in (f__law_test_at k)) := reads_T fun ds r e Q X hq => by
  obtain ⟨o, due, t, p, rfl, ok, dp, hst, rfl⟩ := e
  have lay : (PyData.list (due.map .int)).canLay0 = true := by simp [PyData.canLay0, lay_ints]
  have emp : (due.map PyData.int).isEmpty = due.isEmpty := by cases due <;> rfl
  simp [w__law_is_told, lay, emp]
  cases due with
  | nil =>
    cases o with
    | none => simpa [isTold] using hq
    | some x => simpa [isTold] using hq
  | cons y due =>
    cases o with
    | none => simpa [isTold] using hq
    | some x =>
      simp [tyD, isiB]
      refine ⟨_, ⟨p, x, rfl, hst, rfl⟩, ?_⟩
      cases h1 : inB p x
      · simpa [isTold, h1] using hq
      · simp
        refine ⟨_, ⟨1, t, [x], rfl, by omega, ok, dp, rfl⟩, ?_⟩
        simpa [isTold, h1] using hq
end DL
end L2
set_option Elab.async false
set_option maxRecDepth 100000
set_option maxHeartbeats 1000000
/-! Plain part 7: the tests the law makes. -/
namespace L2
open PySem PySem.Spec PyProof.Rows
namespace DL
section
variable {X : XW} {vs : List Nat} {g : WG} {t : WT} {w : WE} {Q : List D → SD → Prop}
theorem lc_inv (I : List D → List D → SD → Prop) (st : ∀ d ds acc σ, I (d :: ds) acc σ → ∀ (A : D → SD → Prop) (B : SD → Prop), (∀ y σ', I ds (acc ++ [y]) σ' → A y σ') → (∀ σ', I ds acc σ' → B σ') → lcTurn X vs g t w d σ A B) (hl : ∀ ds acc σ, I ds acc σ → acc.length ≤ sizeLine) (fin : ∀ acc σ, I [] acc σ → Q acc σ) :
    ∀ (items acc : List D) (σ : SD), I items acc σ → lcD X vs g t w Q items acc σ
  | [], acc, σ, h => fin acc σ h
  | d :: ds, acc, σ, h => st d ds acc σ h (fun y σ3 => acc.length < sizeLine ∧ lcD X vs g t w Q ds (acc ++ [y]) σ3) (fun σ3 => lcD X vs g t w Q ds acc σ3) (fun y σ' h' => ⟨by
      have := hl _ _ _ h'
      rw [List.length_append, List.length_singleton] at this
      omega, lc_inv I st hl fin ds _ _ h'⟩) (fun σ' h' => lc_inv I st hl fin ds _ _ h')
end
/-- a leaf that the law makes -/
def genLeaf (n : Nat) (lead most : Int) (divs : List Int) : Tt → Prop
  | .most row k => row.length = n ∧ (∀ x ∈ row, -lead ≤ x ∧ x ≤ lead) ∧ -most ≤ k ∧ k ≤ most
  | .div m row k => m ∈ divs ∧ row.length = n ∧ (∀ x ∈ row, -lead ≤ x ∧ x ≤ lead) ∧ -most ≤ k ∧ k ≤ most
  | _ => False
structure GenP (n : Nat) (lead most : Int) (divs : List Int) : Prop where
  n : n ≤ 3
  l0 : 1 ≤ lead
  l1 : lead ≤ 1000
  m0 : 0 ≤ most
  m1 : most ≤ 1000000000000
  d0 : ∀ m ∈ divs, 1 ≤ m ∧ m ≤ 1000000
  d1 : divs.length < 1000
def pLeaf (r : List D) : Prop := ∃ (n : Nat) (lead most : Int) (divs : List Int), r = [.int n, .int lead, .int most, .list (divs.map .int)] ∧ GenP n lead most divs
def rLeaf (r : List D) (v : Rv) : Prop := ∃ (n : Nat) (lead most : Int) (divs : List Int) (t : Tt), r = [.int n, .int lead, .int most, .list (divs.map .int)] ∧ v = .d t.enc ∧ genLeaf n lead most divs t
abbrev f__law_leaf : FI := fnC 5 pLeaf rLeaf
@[simp] theorem emp_ints {l : List Int} : (l.map PyData.int).isEmpty = l.isEmpty := by cases l <;> rfl
theorem r__law_leaf : Reads f__law_leaf 3 (w__law_leaf f__law_roll f__law_some) := reads_C fun c r hc hp Q X hq => by
  obtain ⟨n, lead, most, divs, rfl, gp⟩ := hp
  obtain ⟨hn, l0, l1, m0, m1, d0, d1⟩ := gp
  have ml : ∀ x : Int, IntMulOk 2 x := fun x => mulOk_left (by omega) (by omega)
  have lay : (PyData.list (divs.map .int)).canLay0 = true := by simp [PyData.canLay0, lay_ints]
  simp [w__law_leaf]
  refine ⟨by omega, ?_⟩
  refine lc_inv (fun ds acc σ => ∃ (c : D) (is : List Nat) (row : List Int), CupOk c ∧ ds = is.map (fun i => .int (i : Nat)) ∧ row.length + is.length = n ∧ (∀ x ∈ row, -lead ≤ x ∧ x ≤ lead) ∧ acc = row.map .int ∧
    σ = [.io c, .val (.int n), .val (.int lead), .val (.int most), .val (.list (divs.map .int)), .un, .un, .un]) ?_ ?_ ?_ _ _ _ ⟨c, List.range n, [], hc, ?_, by simp, fun x hx => (by cases hx), rfl, rfl⟩
  · rintro d ds acc σ ⟨c, is, row, hc, e, hl, hr, rfl, rfl⟩ A B hA hB
    rcases is with _ | ⟨i, is⟩
    · cases e
    simp only [List.map_cons, List.cons.injEq] at e
    obtain ⟨rfl, rfl⟩ := e
    rw [List.length_cons] at hl
    have go : ∀ c' (x : Int), CupOk c' → -lead ≤ x → x ≤ lead → A (.int x) [.io c', .val (.int n), .val (.int lead), .val (.int most), .val (.list (divs.map .int)), .un, .un, .un] := fun c' x hc' h1 h2 => hA _ _ ⟨c', is, row ++ [x], hc', rfl, by rw [List.length_append, List.length_singleton]; omega, fun y hy => by
      rcases List.mem_append.mp hy with hy | hy
      · exact hr y hy
      · rw [List.mem_singleton.mp hy]
        exact ⟨h1, h2⟩, by simp, rfl⟩
    by_cases hi : i = 0
    · subst hi
      simp [ml, hc]
      refine ⟨⟨_, rfl, by omega, by omega⟩, ?_⟩
      rintro v c' hc' ⟨many, k, e, rfl, k0, k1⟩
      cases e
      simp
      exact go c' _ hc' (by omega) (by omega)
    · have hi2 : ¬ (i : Int) = 0 := by omega
      simp [hi, hc]
      refine ⟨⟨_, rfl, by simp, by simp⟩, ?_⟩
      rintro v c' hc' ⟨l, d, e, hd, rfl⟩
      cases e
      simp at hd
      rcases hd with rfl | rfl | rfl | rfl | rfl
      all_goals
        simp
        exact go c' _ hc' (by omega) (by omega)
  · rintro ds acc σ ⟨c, is, row, hc, e, hl, hr, rfl, rfl⟩
    rw [List.length_map, sl_eq]
    omega
  · rintro acc σ ⟨c, is, row, hc, e, hl, hr, rfl, rfl⟩
    have : is = [] := by
      cases is with
      | nil => rfl
      | cons u l => cases e
    subst this
    simp at hl
    simp [ml, hc]
    refine ⟨⟨_, rfl, by omega, by omega⟩, ?_⟩
    rintro v c' hc' ⟨many, k, e, rfl, k0, k1⟩
    cases e
    simp [lay]
    have mostT : ∀ c2, CupOk c2 → Q (.d (.tuple [.str "most", .tuple (row.map .int), .int (k - most)])) c2 := fun c2 hc2 => hq _ _ hc2 ⟨n, lead, most, divs, .most row (k - most), rfl, rfl, hl, hr, by omega, by omega⟩
    by_cases hd : divs = []
    · rw [if_pos hd]
      exact mostT c' hc'
    · rw [if_neg hd]
      simp [hc']
      refine ⟨⟨_, rfl, by omega, by omega⟩, ?_⟩
      rintro v c2 hc2 ⟨many, k2, e, rfl, k20, k21⟩
      cases e
      simp
      by_cases h2 : k2 = 0
      · simp [h2, hc2]
        refine ⟨⟨_, rfl, by simpa using hd, by rw [List.length_map]; omega⟩, ?_⟩
        rintro v c3 hc3 ⟨l, d, e, hd, rfl⟩
        cases e
        obtain ⟨m, hm, rfl⟩ := List.mem_map.mp hd
        simp
        exact hq _ _ hc3 ⟨n, lead, most, divs, .div m row (k - most), rfl, rfl, hm, hl, hr, by omega, by omega⟩
      · simp [h2]
        exact mostT c2 hc2
  · simp [rangeD, List.range_eq_range']
/-- a test that the law makes of so many leaves -/
structure GenT (n : Nat) (lead most : Int) (divs : List Int) (L : Nat) (t : Tt) : Prop where
  lv : ∀ u ∈ t.leaves, genLeaf n lead most divs u
  ok : t.ok n
  deep : t.deep ≤ 2 * L
  size : t.size + 2 ≤ 4 * L
  len : t.leaves.length ≤ L
theorem genLeaf_ok {n : Nat} {lead most : Int} {divs : List Int} {t : Tt} (gp : GenP n lead most divs) (h : genLeaf n lead most divs t) : t.ok n ∧ t.deep = 1 ∧ t.size = 1 ∧ t.leaves = [t] := by
  obtain ⟨hn, l0, l1, m0, m1, d0, d1⟩ := gp
  cases t with
  | most row k =>
    obtain ⟨h1, h2, h3, h4⟩ := h
    exact ⟨⟨h1, fun x hx => by have := h2 x hx; omega, by omega, by omega⟩, rfl, rfl, rfl⟩
  | div m row k =>
    obtain ⟨h0, h1, h2, h3, h4⟩ := h
    exact ⟨⟨d0 m h0, h1, fun x hx => by have := h2 x hx; omega, by omega, by omega⟩, rfl, rfl, rfl⟩
  | _ => exact h.elim
section
variable {n : Nat} {lead most : Int} {divs : List Int} {t t1 t2 : Tt} {L L1 L2 : Nat}
theorem gen_leaf (gp : GenP n lead most divs) (h : genLeaf n lead most divs t) (hL : 1 ≤ L) : GenT n lead most divs L t ∧ GenT n lead most divs L (.neg t) := by
  obtain ⟨h1, h2, h3, h4⟩ := genLeaf_ok gp h
  refine ⟨⟨fun u hu => ?_, h1, by omega, by omega, by rw [h4]; exact hL⟩, ⟨fun u hu => ?_, h1, by simp only [Tt.deep]; omega, by simp only [Tt.size]; omega, by simp only [Tt.leaves, h4]; exact hL⟩⟩
  · rw [h4] at hu
    rw [List.mem_singleton.mp hu]
    exact h
  · simp only [Tt.leaves, h4] at hu
    rw [List.mem_singleton.mp hu]
    exact h
theorem gen_two (g1 : GenT n lead most divs L1 t1) (g2 : GenT n lead most divs L2 t2) (h1 : 1 ≤ L1) (h2 : 1 ≤ L2) : GenT n lead most divs (L1 + L2) (.all (.cons t1 (.cons t2 .nil))) ∧ GenT n lead most divs (L1 + L2) (.any (.cons t1 (.cons t2 .nil))) ∧
    GenT n lead most divs (L1 + L2) (.neg (.all (.cons t1 (.cons t2 .nil)))) ∧ GenT n lead most divs (L1 + L2) (.neg (.any (.cons t1 (.cons t2 .nil)))) := by
  obtain ⟨a1, a2, a3, a4, a5⟩ := g1
  obtain ⟨b1, b2, b3, b4, b5⟩ := g2
  refine ⟨⟨?_, ?_, ?_, ?_, ?_⟩, ⟨?_, ?_, ?_, ?_, ?_⟩, ⟨?_, ?_, ?_, ?_, ?_⟩, ⟨?_, ?_, ?_, ?_, ?_⟩⟩
  all_goals first
    | (intro u hu
       simp only [Tt.leaves, Tts.leaves, List.append_nil, List.mem_append] at hu
       rcases hu with hu | hu
       · exact a1 u hu
       · exact b1 u hu)
    | exact ⟨⟨a2, b2, trivial⟩, by simp [Tts.len]⟩
    | (simp only [Tt.deep, Tts.deep]; omega)
    | (simp only [Tt.size, Tts.size]; omega)
    | (simp only [Tt.leaves, Tts.leaves, List.append_nil, List.length_append]; omega)
end
def pTest (k : Nat) (r : List D) : Prop := ∃ (n L : Nat) (lead most : Int) (divs : List Int), r = [.int n, .int L, .int lead, .int most, .list (divs.map .int)] ∧ 1 ≤ L ∧ L ≤ k ∧ L < 1000 ∧ GenP n lead most divs
def rTest (r : List D) (v : Rv) : Prop := ∃ (n L : Nat) (lead most : Int) (divs : List Int) (t : Tt), r = [.int n, .int L, .int lead, .int most, .list (divs.map .int)] ∧ v = .d t.enc ∧ GenT n lead most divs L t
abbrev f__law_test (k : Nat) : FI := fnC 6 (pTest k) rTest
theorem ints_inj {l m : List Int} (h : l.map PyData.int = m.map PyData.int) : l = m := by
  have := congrArg intsD h
  rw [intsD_map, intsD_map] at this
  exact Option.some.inj this
theorem r__law_test (k : Nat) : Reads (f__law_test (k + 1)) 4 (w__law_test f__law_roll f__law_leaf (f__law_test k) f__law_some) := reads_C fun c r hc hp Q X hq => by
  obtain ⟨n, L, lead, most, divs, rfl, hL, hk, hL2, gp⟩ := hp
  have one : ∀ c, CupOk c → (wSeq (wSet 6 (wCall f__law_leaf [.br 0, .br 1, .br 3, .br 4, .br 5]))
    (wSeq (wRet (weIf (wtB (w2 pEq (.ex (wCall f__law_roll [.br 0, .ex (wC (.int 5))])) (.ex (wC (.int 0))))) (wTup [.ex (wC (.str "not")), .ex (wN 6)]) (wN 6)))
    wNx)) X ⟨fun _ => False, fun v σ => Q v (ioC (some 0) σ), fun _ => False, fun _ => False⟩ [.io c, .val (.int n), .val (.int L), .val (.int lead), .val (.int most), .val (.list (divs.map .int)), .un, .un, .un, .un] := by
    intro c hc
    simp [hc]
    refine ⟨⟨n, lead, most, divs, rfl, gp⟩, ?_⟩
    rintro v c' hc' ⟨n', lead', most', divs', t, e, rfl, gl⟩
    simp only [List.cons.injEq, PyData.int.injEq, PyData.list.injEq, and_true] at e
    obtain ⟨e1, rfl, rfl, e2⟩ := e
    have e1 := Int.ofNat.inj e1
    have e2 := ints_inj e2
    subst e1 e2
    obtain ⟨q1, q2⟩ := gen_leaf gp gl hL
    simp [hc']
    refine ⟨⟨_, rfl, by simp, by simp⟩, ?_⟩
    rintro v c2 hc2 ⟨many, k2, e, rfl, k20, k21⟩
    cases e
    by_cases h2 : k2 = 0
    · simp [h2]
      exact hq _ _ hc2 ⟨n, L, lead, most, divs, .neg t, rfl, rfl, q2⟩
    · simp [h2]
      exact hq _ _ hc2 ⟨n, L, lead, most, divs, t, rfl, rfl, q1⟩
  have two : ∀ c, CupOk c → 2 ≤ L → (wSeq (wSet 7 (w2 pAdd (.ex (wC (.int 1))) (.ex (wCall f__law_roll [.br 0, .ex (w2 pSub (.br 2) (.ex (wC (.int 1))))]))))
    (wSeq (wSet 8 (wTup [.ex (wCall (f__law_test k) [.br 0, .br 1, .br 7, .br 3, .br 4, .br 5]), .ex (wCall (f__law_test k) [.br 0, .br 1, .ex (w2 pSub (.br 2) (.br 7)), .br 3, .br 4, .br 5])]))
    (wSeq (wSet 9 (wTup [.ex (wCall f__law_some [.br 0, .ex (wLst [.ex (wC (.str "and")), .ex (wC (.str "and")), .ex (wC (.str "or"))])]), .ex (wN 8)]))
    (wSeq (wRet (weIf (wtAnd (wtB (w2 pLt (.br 2) (.ex (wC (.int 3))))) (wtB (w2 pEq (.ex (wCall f__law_roll [.br 0, .ex (wC (.int 8))])) (.ex (wC (.int 0)))))) (wTup [.ex (wC (.str "not")), .ex (wN 9)]) (wN 9)))
    wNx)))) X ⟨fun σ => Q (.d .none) (ioC (some 0) σ), fun v σ => Q v (ioC (some 0) σ), fun _ => False, fun _ => False⟩ [.io c, .val (.int n), .val (.int L), .val (.int lead), .val (.int most), .val (.list (divs.map .int)), .un, .un, .un, .un] := by
    intro c hc h2
    simp [hc]
    refine ⟨⟨_, rfl, by omega, by omega⟩, ?_⟩
    rintro v c1 hc1 ⟨many, k1, e, rfl, k10, k11⟩
    cases e
    obtain ⟨f, hf⟩ : ∃ f : Nat, 1 + k1 = (f : Int) := ⟨(1 + k1).toNat, by omega⟩
    simp [hc1]
    rw [hf]
    refine ⟨⟨n, f, lead, most, divs, rfl, by omega, by omega, by omega, gp⟩, ?_⟩
    rintro v c2 hc2 ⟨n', L1, lead', most', divs', t1, e, rfl, g1⟩
    simp only [List.cons.injEq, PyData.int.injEq, PyData.list.injEq, and_true] at e
    obtain ⟨e1, e3, rfl, rfl, e2⟩ := e
    have e1 := Int.ofNat.inj e1
    have e3 := Int.ofNat.inj e3
    have e2 := ints_inj e2
    subst e1 e2 e3
    simp [hc2]
    obtain ⟨f2, hf2⟩ : ∃ f2 : Nat, (L : Int) - f = (f2 : Int) := ⟨L - f, by omega⟩
    rw [hf2]
    refine ⟨⟨n, f2, lead, most, divs, rfl, by omega, by omega, by omega, gp⟩, ?_⟩
    rintro v c3 hc3 ⟨n', L2, lead', most', divs', t2, e, rfl, g2⟩
    simp only [List.cons.injEq, PyData.int.injEq, PyData.list.injEq, and_true] at e
    obtain ⟨e1, e3, rfl, rfl, e2⟩ := e
    have e1 := Int.ofNat.inj e1
    have e3 := Int.ofNat.inj e3
    have e2 := ints_inj e2
    subst e1 e2 e3
    obtain ⟨ga, go, gna, gno⟩ := gen_two g1 g2 (by omega) (by omega)
    have eL : f + f2 = L := by omega
    rw [eL] at ga go gna gno
    have fin : ∀ (s : Str) (tt : Tt) c3, CupOk c3 → tt.enc = .tuple [.str s, .tuple [t1.enc, t2.enc]] → GenT n lead most divs L tt → GenT n lead most divs L (.neg tt) →
      (wSeq (wRet (weIf (wtAnd (wtB (w2 pLt (.br 2) (.ex (wC (.int 3))))) (wtB (w2 pEq (.ex (wCall f__law_roll [.br 0, .ex (wC (.int 8))])) (.ex (wC (.int 0)))))) (wTup [.ex (wC (.str "not")), .ex (wN 9)]) (wN 9)))
    wNx) X ⟨fun σ => Q (.d .none) (ioC (some 0) σ), fun v σ => Q v (ioC (some 0) σ), fun _ => False, fun _ => False⟩ [.io c3, .val (.int n), .val (.int L), .val (.int lead), .val (.int most), .val (.list (divs.map .int)), .un, .val (.int f), .val (.tuple [t1.enc, t2.enc]), .val (.tuple [.str s, .tuple [t1.enc, t2.enc]])] := by
      intro s tt c3 hc3 es q1 q2
      simp
      by_cases h3 : (L : Int) < 3
      · simp [h3, hc3]
        refine ⟨⟨_, rfl, by simp, by simp⟩, ?_⟩
        rintro v c4 hc4 ⟨many, k4, e, rfl, k40, k41⟩
        cases e
        by_cases h4 : k4 = 0
        · simp [h4]
          exact hq _ _ hc4 ⟨n, L, lead, most, divs, .neg tt, rfl, by rw [Tt.enc, es], q2⟩
        · simp [h4]
          exact hq _ _ hc4 ⟨n, L, lead, most, divs, tt, rfl, by rw [es], q1⟩
      · simp [h3]
        exact hq _ _ hc3 ⟨n, L, lead, most, divs, tt, rfl, by rw [es], q1⟩
    simp [hc3]
    refine ⟨⟨_, rfl, by simp, by simp⟩, ?_⟩
    rintro v c4 hc4 ⟨l, d, e, hd, rfl⟩
    cases e
    simp at hd
    rcases hd with rfl | rfl
    · have := fin "and" (.all (.cons t1 (.cons t2 .nil))) c4 hc4 rfl ga gna
      simp at this ⊢
      exact this
    · have := fin "or" (.any (.cons t1 (.cons t2 .nil))) c4 hc4 rfl go gno
      simp at this ⊢
      exact this
  simp only [w__law_test, s_seq, s_if, s_tor]
  by_cases h2 : L < 2
  · have h2' : (L : Int) < 2 := by omega
    simp [h2']
    have := one c hc
    simp at this
    exact this
  · have h2' : ¬ (L : Int) < 2 := by omega
    simp [h2', hc]
    refine ⟨⟨_, rfl, by simp, by simp⟩, ?_⟩
    rintro v c' hc' ⟨many, k', e, rfl, k0, k1⟩
    cases e
    by_cases h3 : k' = 0
    · simp [h3]
      have := one c' hc'
      simp at this
      exact this
    · simp [h3]
      have := two c' hc' (by omega)
      simp at this
      exact this
end DL
end L2
set_option Elab.async false
set_option maxRecDepth 100000
set_option maxHeartbeats 1000000
/-! Plain part 8: period, window, places. -/
namespace L2
open PySem PySem.Spec PyProof.Rows
namespace DL
def goods (t : Tt) : List Nat := (List.range 12).filter fun j => stepOk t (1 + (j : Nat))
def h__law_period (k : Nat) (ds : List D) (r : Rv) : Prop := ∃ (t : Tt) (j : Nat) (l : List Nat), ds = [t.enc] ∧ t.ok 1 ∧ t.deep ≤ k ∧ t.size ≤ 1000000 ∧ goods t = j :: l ∧ r = .d (.int (1 + (j : Nat)))
abbrev f__law_period (k : Nat) : FI := fnT 1 (h__law_period k)
def badD (x : Int) : D → Bool
  | .tuple [_, .int m, _, _] => !decide (x.fmod m = 0)
  | _ => false
def goodD (t : Tt) : D → Option D
  | .int x => if stepOk t x = true then some (.int x) else none
  | _ => none
theorem bad_filter {t : Tt} (ok : t.ok 1) (x : Int) : (t.leaves.map Tt.enc).filterMap (fun d => if badD x d = true then some d else none) = (t.leaves.filter fun u => badD x u.enc).map Tt.enc ∧ ((t.leaves.filter fun u => badD x u.enc).isEmpty = stepOk t x) := by
  have h : ∀ u ∈ t.leaves, leafOk 1 1000000000 1000000000000 u := fun u hu => (Tt.leaves_ok ok u hu).1
  unfold stepOk
  generalize t.leaves = l at h
  induction l with
  | nil => exact ⟨rfl, rfl⟩
  | cons u l ih =>
    obtain ⟨h1, h2⟩ := ih fun v hv => h v (List.mem_cons_of_mem _ hv)
    have hu := h u List.mem_cons_self
    rw [List.map_cons, List.filterMap_cons, h1, List.filter_cons, List.all_cons, ← h2]
    cases u with
    | most row k => simp [Tt.enc, badD]
    | div m row k =>
      by_cases hm : x.fmod m = 0
      · simp [Tt.enc, badD, hm]
      · simp [Tt.enc, badD, hm]
    | _ => exact hu.elim
theorem r__law_period (k : Nat) : Reads (f__law_period k) 3 (w__law_period (f__law_leaves k)) := reads_T fun ds r e Q X hq => by
  obtain ⟨t, j, l, rfl, ok, dp, hz, hg, rfl⟩ := e
  have hls := t.leaves_size
  simp [w__law_period]
  refine lc_filter (goodD t) _ (fun d hd A B a => ?_) (by rw [sl_eq, rangeD_len]; decide) ?_
  · unfold rangeD at hd
    obtain ⟨i, hi, rfl⟩ := List.mem_map.mp hd
    obtain ⟨b1, b2⟩ := bad_filter ok (1 + (i : Nat))
    simp only [goodD] at a
    simp
    refine ⟨_, ⟨t, rfl, dp, hz, rfl⟩, ?_⟩
    simp
    refine lc_filter (fun d => if badD (1 + (i : Nat)) d = true then some d else none) _ (fun d hd A B a => ?_) (by rw [sl_eq, List.length_map]; omega) ?_
    · obtain ⟨u, hu, rfl⟩ := List.mem_map.mp hd
      have lo := (Tt.leaves_ok ok u hu).1
      cases u with
      | most row c => simpa [Tt.enc, badD] using a
      | div m row c =>
        have hm : m ≠ 0 := by
          simp only [leafOk] at lo
          omega
        by_cases h0 : (1 + (i : Int)).fmod m = 0
        · simpa [Tt.enc, badD, hm, h0] using a
        · simpa [Tt.enc, badD, hm, h0] using a
      | _ => exact lo.elim
    · rw [b1]
      have lay : (PyData.list ((t.leaves.filter fun u => badD (1 + (i : Nat)) u.enc).map Tt.enc)).canLay0 = true := by
        simp only [PyData.canLay0]
        exact lay_all fun u _ => u.lay
      have em : ((t.leaves.filter fun u => badD (1 + (i : Nat)) u.enc).map Tt.enc = []) ↔ stepOk t (1 + (i : Nat)) = true := by
        rw [← b2, List.map_eq_nil_iff, List.isEmpty_iff]
      refine ⟨lay, ?_⟩
      simp only [em]
      cases hs : stepOk t (1 + (i : Nat))
      · simpa [hs] using a
      · simpa [hs] using a
  · have e : ∀ L : List Nat, (L.map fun (i : Nat) => PyData.int (1 + (i : Nat))).filterMap (goodD t) = (L.filter fun j => stepOk t (1 + (j : Nat))).map fun (i : Nat) => PyData.int (1 + (i : Nat)) := by
      intro L
      induction L with
      | nil => rfl
      | cons i L ih =>
        rw [List.map_cons, List.filterMap_cons, ih, List.filter_cons]
        cases hs : stepOk t (1 + (i : Nat)) <;> simp [goodD, hs]
    have e2 : (rangeD 1 12).filterMap (goodD t) = .int (1 + (j : Nat)) :: l.map fun (i : Nat) => PyData.int (1 + (i : Nat)) := by
      have := e (List.range 12)
      rw [show (List.range 12).filter (fun j => stepOk t (1 + (j : Nat))) = goods t from rfl, hg] at this
      exact this
    have e3 : (13 - 1 : Int).toNat = 12 := rfl
    simp only [e3, e2]
    simp
    exact hq
end DL
end L2
set_option Elab.async false
set_option maxRecDepth 100000
set_option maxHeartbeats 1000000
/-! Plain part 9: the window. -/
namespace L2
open PySem PySem.Spec PyProof.Rows
namespace DL
/-- a statement by itself: keeps simp off the rest -/
theorem seq_k {s s' : WS} {X : XW} {D' : EndsD} {σ : SD} (h : ∀ k : SD → Prop, (∀ σ1, s' X D' σ1 → k σ1) → s X { D' with nx := k } σ) : wSeq s s' X D' σ := h _ fun _ h => h
/-! ### the window -/
def mn (i j : Int) : Int := if j < i then j else i
def mx (i j : Int) : Int := if j > i then j else i
theorem q_mn {i j : Int} {Q : Rv → Prop} : pMin [.int i, .int j] Q ↔ Q (.d (.int (mn i j))) := Iff.rfl
theorem q_mx {i j : Int} {Q : Rv → Prop} : pMax [.int i, .int j] Q ↔ Q (.d (.int (mx i j))) := Iff.rfl
def win0 (lo hi : Option Int) : Int × Int := ((match lo with
  | none => -200
  | some l => mx l (-200)), (match hi with
  | none => 200
  | some h => mn h 200))
def win1 (lo hi : Option Int) (p : Int × Int) : Int × Int := match lo with
  | none => p
  | some l => if l > 200 then (l, match hi with
    | none => l + 60
    | some h => mn h (l + 60)) else p
def win2 (lo hi : Option Int) (p : Int × Int) : Int × Int := match hi with
  | none => p
  | some h => if h < -200 then (match lo with
    | none => h - 60
    | some l => mx l (h - 60), h) else p
def win (lo hi : Option Int) : Int × Int := win2 lo hi (win1 lo hi (win0 lo hi))
def smallO : Option Int → Prop
  | none => True
  | some x => -10000000000 ≤ x ∧ x ≤ 10000000000
def g__law_window (ds : List D) (r : Rv) : Prop := ∃ lo hi, ds = [encO lo, encO hi] ∧ smallO lo ∧ smallO hi ∧ RgOk (win lo hi).1 ((win lo hi).2 + 1) ∧ r = .f (.list (rangeD (win lo hi).1 ((win lo hi).2 + 1 - (win lo hi).1).toNat))
abbrev f__law_window : FI := fnT 2 g__law_window
theorem r__law_window : Reads f__law_window 2 w__law_window := reads_T fun ds r e Q X hq => by
  obtain ⟨lo, hi, rfl, sl, sh, rg, rfl⟩ := e
  have fin : ∀ a b : Int, (a, b) = win lo hi → RgOk a (b + 1) ∧ Q (.f (.list (rangeD a (b + 1 - a).toNat))) := fun a b e => by
    rw [← e] at rg hq
    exact ⟨rg, hq⟩
  clear rg hq
  cases lo with
  | none =>
    cases hi with
    | none =>
      have := fin (-200) 200 rfl
      unfold w__law_window
      iterate 3
        refine seq_k fun k hk => ?_
        simp []
        refine hk _ ?_
        clear hk
        clear k
      simp
      exact this
    | some h =>
      by_cases h1 : h < -200
      · have := fin (h - 60) h (by simp [win, win1, win2, h1])
        unfold w__law_window
        iterate 3
          refine seq_k fun k hk => ?_
          simp [h1, q_mn]
          refine hk _ ?_
          clear hk
          clear k
        simp
        exact this
      · have := fin (-200) (mn h 200) (by simp [win, win0, win1, win2, h1])
        unfold w__law_window
        iterate 3
          refine seq_k fun k hk => ?_
          simp [h1, q_mn]
          refine hk _ ?_
          clear hk
          clear k
        simp
        exact this
  | some l =>
    by_cases h0 : 200 < l
    · cases hi with
      | none =>
        have := fin l (l + 60) (by simp [win, win1, win2, h0])
        unfold w__law_window
        iterate 3
          refine seq_k fun k hk => ?_
          simp [h0, q_mx]
          refine hk _ ?_
          clear hk
          clear k
        simp
        exact this
      | some h =>
        by_cases h1 : h < -200
        · have := fin (mx l (h - 60)) h (by simp [win, win2, h1])
          unfold w__law_window
          iterate 3
            refine seq_k fun k hk => ?_
            simp [h0, h1, q_mn, q_mx]
            refine hk _ ?_
            clear hk
            clear k
          simp
          exact this
        · have := fin l (mn h (l + 60)) (by simp [win, win1, win2, h0, h1])
          unfold w__law_window
          iterate 3
            refine seq_k fun k hk => ?_
            simp [h0, h1, q_mn, q_mx]
            refine hk _ ?_
            clear hk
            clear k
          simp
          exact this
    · cases hi with
      | none =>
        have := fin (mx l (-200)) 200 (by simp [win, win0, win1, win2, h0])
        unfold w__law_window
        iterate 3
          refine seq_k fun k hk => ?_
          simp [h0, q_mx]
          refine hk _ ?_
          clear hk
          clear k
        simp
        exact this
      | some h =>
        by_cases h1 : h < -200
        · have := fin (mx l (h - 60)) h (by simp [win, win2, h1])
          unfold w__law_window
          iterate 3
            refine seq_k fun k hk => ?_
            simp [h0, h1, q_mn, q_mx]
            refine hk _ ?_
            clear hk
            clear k
          simp
          exact this
        · have := fin (mx l (-200)) (mn h 200) (by simp [win, win0, win1, win2, h0, h1])
          unfold w__law_window
          iterate 3
            refine seq_k fun k hk => ?_
            simp [h0, h1, q_mn, q_mx]
            refine hk _ ?_
            clear hk
            clear k
          simp
          exact this
end DL
end L2
set_option Elab.async false
set_option maxRecDepth 100000
set_option maxHeartbeats 1000000
/-! Plain part 10: the places. -/
namespace L2
open PySem PySem.Spec PyProof.Rows
namespace DL
def placeOf : Tt → Option Int
  | .most (c :: _) k => if c = 0 then none else some (k.fdiv c)
  | _ => none
def placeList (t : Tt) (p : Part) : List Int := 0 :: (p.lo.toList ++ p.hi.toList) ++ t.leaves.filterMap placeOf
def near (x : Int) : List Int := (List.range 29).map fun i => x - 14 + (i : Nat)
def placesAll (t : Tt) (p : Part) : List Int := (srtSet (placeList t p)).flatMap near
def g__law_places (k : Nat) (ds : List D) (r : Rv) : Prop := ∃ (t : Tt) (p : Part), ds = [t.enc, p.enc] ∧ t.ok 1 ∧ t.deep ≤ k ∧ t.size ≤ 1000 ∧ smallO p.lo ∧ smallO p.hi ∧ r = .f (.list ((placesAll t p).map .int))
abbrev f__law_places (k : Nat) : FI := fnT 2 (g__law_places k)
theorem srtSet_len (l : List Int) : (srtSet l).length ≤ l.length := by
  unfold srtSet
  rw [(sortI_perm _).length_eq]
  exact ded_len l
theorem near_rg (x : Int) : rangeD (x - 14) (x + 15 - (x - 14)).toNat = (near x).map .int := by
  have e : (x + 15 - (x - 14)).toNat = 29 := by omega
  rw [e]
  unfold rangeD near
  rw [List.map_map]
  rfl
theorem fdiv_bd {k c : Int} (hc : 0 < c) (h0 : -1000000000000 ≤ k) (h1 : k ≤ 1000000000000) : -1000000000000 ≤ k.fdiv c ∧ k.fdiv c ≤ 1000000000000 := by
  constructor
  · rw [← le_fdiv hc]
    omega
  · have : ¬ (1000000000001 ≤ k.fdiv c) := by
      rw [← le_fdiv hc]
      omega
    omega
theorem place_bd {t : Tt} {p : Part} (ok : t.ok 1) (sl : smallO p.lo) (sh : smallO p.hi) : ∀ x ∈ placeList t p, -10000000000000 ≤ x ∧ x ≤ 10000000000000 := by
  intro x hx
  simp only [placeList, List.mem_append, List.mem_cons, Option.mem_toList, List.mem_filterMap] at hx
  rcases hx with (rfl | h | h) | ⟨u, hu, e⟩
  · omega
  · rw [h] at sl
    simp only [smallO] at sl
    omega
  · rw [h] at sh
    simp only [smallO] at sh
    omega
  · have lo := (Tt.leaves_ok ok u hu).1
    cases u with
    | most row k =>
      simp only [leafOk] at lo
      rcases row with _ | ⟨c, row⟩
      · simp [placeOf] at e
      · simp only [placeOf] at e
        split at e
        · cases e
        · rename_i h0
          cases e
          by_cases hc : 0 < c
          · have := fdiv_bd (k := k) hc (by omega) (by omega)
            omega
          · have := fdiv_bd (k := -k) (c := -c) (by omega) (by omega) (by omega)
            rw [Int.neg_fdiv_neg] at this
            omega
    | _ => simp [placeOf] at e
theorem r__law_places (k : Nat) : Reads (f__law_places k) 5 (w__law_places (f__law_leaves k)) := reads_T fun ds r e Q X hq => by
  obtain ⟨t, p, rfl, ok, dp, hz, sl, sh, rfl⟩ := e
  have hbd := place_bd ok sl sh
  have hls := t.leaves_size
  unfold w__law_places
  refine seq_k fun K hk => ?_
  simp [Part.enc]
  refine lc_filter (fun d => if isN d = true then none else some d) _ (fun d hd A B a => ?_) (by rw [sl_eq]; simp) ?_
  · simp at hd
    rcases hd with rfl | rfl
    · cases h : p.lo with
      | none => rw [h] at a; simpa using a
      | some l => rw [h] at a; simpa using a
    · cases h : p.hi with
      | none => rw [h] at a; simpa using a
      | some l => rw [h] at a; simpa using a
  have e1 : List.filterMap (fun d => if isN d = true then none else some d) [encO p.lo, encO p.hi] = (p.lo.toList ++ p.hi.toList).map .int := by
    cases p.lo <;> cases p.hi <;> simp
  simp only [e1]
  have e2 : (p.lo.toList ++ p.hi.toList).length ≤ 2 := by
    cases p.lo <;> cases p.hi <;> simp
  generalize hb : p.lo.toList ++ p.hi.toList = base at e2
  simp
  refine ⟨by omega, ?_⟩
  refine hk _ ?_
  clear hk
  clear K
  refine seq_k fun K hk => ?_
  simp
  refine ⟨_, ⟨t, rfl, dp, by omega, rfl⟩, ?_⟩
  simp
  refine for_inv (fun ds σ => ∃ (l : List Tt) (acc : List Int) (s : Sl), ds = l.map Tt.enc ∧ (∀ u ∈ l, leafOk 1 1000000000 1000000000000 u) ∧ freeSl (some s) ∧ acc.length + l.length ≤ 2000 ∧ acc ++ l.filterMap placeOf = placeList t p ∧
    σ = [.val t.enc, .val p.enc, .own (.list (acc.map .int)), .own (.list []), s, .un, .un]) ?_ ?_ _ _ ⟨t.leaves, 0 :: base, .un, rfl, fun u hu => (Tt.leaves_ok ok u hu).1, trivial, by rw [List.length_cons]; omega, by rw [← hb]; rfl, rfl⟩
  · rintro d ds σ ⟨l, acc, s, e, lo, hs, hl, he, rfl⟩ nx hnx
    rcases l with _ | ⟨u, l⟩
    · cases e
    simp only [List.map_cons, List.cons.injEq] at e
    obtain ⟨rfl, rfl⟩ := e
    have hu := lo u List.mem_cons_self
    have lo2 : ∀ u ∈ l, leafOk 1 1000000000 1000000000000 u := fun v hv => lo v (List.mem_cons_of_mem _ hv)
    rw [List.length_cons] at hl
    have same : placeOf u = none → nx [.val t.enc, .val p.enc, .own (.list (acc.map .int)), .own (.list []), .val u.enc, .un, .un] := fun h => hnx _ ⟨l, acc, .val u.enc, rfl, lo2, trivial, by omega, by rw [← he, List.filterMap_cons, h], rfl⟩
    have more : ∀ x, placeOf u = some x → nx [.val t.enc, .val p.enc, .own (.list ((acc ++ [x]).map .int)), .own (.list []), .val u.enc, .un, .un] := fun x h => hnx _ ⟨l, acc ++ [x], .val u.enc, rfl, lo2, trivial, by rw [List.length_append, List.length_singleton]; omega, by rw [← he, List.filterMap_cons, h]; simp, rfl⟩
    cases u with
    | most row k =>
      simp only [leafOk] at hu
      rcases row with _ | ⟨c, _ | ⟨c2, row⟩⟩
      · simp at hu
      · have hc := hu.2.1 c (by simp)
        simp [Tt.enc, hs]
        by_cases h0 : c = 0
        · have := same (by simp [placeOf, h0])
          simp [Tt.enc] at this
          simpa [h0] using this
        · have := more (k.fdiv c) (by simp [placeOf, h0])
          have hd := div_ok (i := k) (j := c) h0 (by omega)
          simp [Tt.enc] at this
          simp [h0, hd]
          exact ⟨by omega, this⟩
      · simp at hu
    | div m row k =>
      have := same rfl
      simp [Tt.enc] at this
      simpa [Tt.enc, hs] using this
    | _ => exact hu.elim
  · rintro σ ⟨l, acc, s, e, lo, hs, hl, he, rfl⟩
    have : l = [] := by
      cases l with
      | nil => rfl
      | cons u l => cases e
    subst this
    simp at he
    subst he
    refine hk _ ?_
    clear hk
    clear K
    refine seq_k fun K hk => ?_
    simp
    refine ⟨_, intsD_map _, by simp at hl; omega, ?_⟩
    refine for_inv (fun ds σ => ∃ (l acc : List Int) (s2 : Sl), ds = l.map .int ∧ freeSl (some s2) ∧ acc.length + 29 * l.length ≤ 1000000 ∧ (∀ x ∈ l, x ∈ placeList t p) ∧ acc ++ l.flatMap near = placesAll t p ∧
      σ = [.val t.enc, .val p.enc, .own (.list ((placeList t p).map .int)), .own (.list (acc.map .int)), s, s2, .un]) ?_ ?_ _ _ ⟨srtSet (placeList t p), [], .un, rfl, trivial, ?_, fun x hx => (srtSet_mem x _).mp hx, rfl, rfl⟩
    · rintro d ds σ ⟨l, acc, s2, e, hs2, hl2, hm, he, rfl⟩ nx hnx
      rcases l with _ | ⟨x, l⟩
      · cases e
      simp only [List.map_cons, List.cons.injEq] at e
      obtain ⟨rfl, rfl⟩ := e
      rw [List.length_cons] at hl2
      simp [hs2]
      rw [near_rg]
      have hn : (near x).length = 29 := by simp [near]
      have hx := hbd x (hm x List.mem_cons_self)
      refine ⟨⟨by omega, by omega, by omega, by omega, by omega⟩, ?_⟩
      simp only [List.length_map]
      refine ⟨by omega, ?_⟩
      have := hnx _ ⟨l, acc ++ near x, .val (.int x), rfl, trivial, by rw [List.length_append]; omega, fun y hy => hm y (List.mem_cons_of_mem _ hy), by rw [← he]; simp, rfl⟩
      simpa using this
    · rintro σ ⟨l, acc, s2, e, hs2, hl2, hm, he, rfl⟩
      have : l = [] := by
        cases l with
        | nil => rfl
        | cons u l => cases e
      subst this
      simp at he
      subst he
      refine hk _ ?_
      simp
      exact hq
    · have := srtSet_len (placeList t p)
      simp at hl ⊢
      omega
end DL
end L2
set_option Elab.async false
set_option maxRecDepth 100000
set_option maxHeartbeats 1000000
/-! Plain part 11: the great tests. -/
namespace L2
open PySem PySem.Spec PyProof.Rows
namespace DL
def Tts.of : List Tt → Tts
  | [] => .nil
  | t :: l => .cons t (Tts.of l)
theorem Tts.of_list : ∀ l : List Tt, (Tts.of l).toList = l
  | [] => rfl
  | t :: l => by simp [Tts.of, Tts.toList, Tts.of_list l]
theorem Tts.of_enc (l : List Tt) : (Tts.of l).enc = l.map Tt.enc := by rw [Tts.enc_list, Tts.of_list]
theorem Tts.of_len (l : List Tt) : (Tts.of l).len = l.length := by rw [← Tts.len_list, Tts.of_list]
/-- a leaf of the great tests -/
def bigLeaf : Tt → Prop
  | .most row k => ∃ c : Int, row = [c] ∧ -1000000000 ≤ c ∧ c ≤ 1000000000 ∧ -1000000000000 ≤ k ∧ k ≤ 1000000000000
  | .div m row k => (m = 2 ∨ m = 3) ∧ ∃ c : Int, row = [c] ∧ -1000000000 ≤ c ∧ c ≤ 1000000000 ∧ -1000000000000 ≤ k ∧ k ≤ 1000000000000
  | _ => False
theorem bigLeaf_ok {t : Tt} (h : bigLeaf t) : t.ok 1 ∧ t.deep = 1 ∧ t.size = 1 ∧ t.leaves = [t] := by
  cases t with
  | most row k =>
    obtain ⟨c, rfl, h1, h2, h3, h4⟩ := h
    exact ⟨⟨rfl, fun x hx => by rw [List.mem_singleton.mp hx]; omega, by omega, by omega⟩, rfl, rfl, rfl⟩
  | div m row k =>
    obtain ⟨hm, c, rfl, h1, h2, h3, h4⟩ := h
    exact ⟨⟨by omega, rfl, fun x hx => by rw [List.mem_singleton.mp hx]; omega, by omega, by omega⟩, rfl, rfl, rfl⟩
  | _ => exact h.elim
theorem of_big : ∀ {l : List Tt}, (∀ u ∈ l, bigLeaf u) → (Tts.of l).ok 1 ∧ (Tts.of l).deep ≤ 1 ∧ (Tts.of l).size = l.length ∧ (Tts.of l).leaves = l
  | [], _ => ⟨trivial, by simp [Tts.of, Tts.deep], rfl, rfl⟩
  | t :: l, h => by
    obtain ⟨a1, a2, a3, a4⟩ := bigLeaf_ok (h t List.mem_cons_self)
    obtain ⟨b1, b2, b3, b4⟩ := of_big fun u hu => h u (List.mem_cons_of_mem _ hu)
    refine ⟨⟨a1, b1⟩, ?_, ?_, ?_⟩
    · simp only [Tts.of, Tts.deep]; omega
    · simp only [Tts.of, Tts.size, List.length_cons]; omega
    · simp only [Tts.of, Tts.leaves, a4, b4, List.singleton_append]
structure Great (t : Tt) : Prop where
  lv : ∀ u ∈ t.leaves, bigLeaf u
  ok : t.ok 1
  deep : t.deep ≤ 3
  size : t.size ≤ 5
  len : t.leaves.length ≤ 3
theorem great_of {l : List Tt} (h : ∀ u ∈ l, bigLeaf u) (hl : l.length ≤ 3) : Great (.all (Tts.of l)) ∧ Great (.any (Tts.of l)) ∧ Great (.neg (.all (Tts.of l))) := by
  obtain ⟨b1, b2, b3, b4⟩ := of_big h
  have hle : (Tts.of l).len ≤ 4000 := by rw [Tts.of_len]; omega
  refine ⟨⟨?_, ⟨b1, hle⟩, ?_, ?_, ?_⟩, ⟨?_, ⟨b1, hle⟩, ?_, ?_, ?_⟩, ⟨?_, ⟨b1, hle⟩, ?_, ?_, ?_⟩⟩
  all_goals first
    | (intro u hu; simp only [Tt.leaves, b4] at hu; exact h u hu)
    | (simp only [Tt.deep]; omega)
    | (simp only [Tt.size]; omega)
    | (simp only [Tt.leaves, b4]; omega)
def rGreat (r : List D) (v : Rv) : Prop := ∃ t : Tt, r = [] ∧ v = .d t.enc ∧ Great t
abbrev f__law_great : FI := fnC 1 (fun r => r = []) rGreat
theorem r__law_great : Reads f__law_great 4 (w__law_great f__law_roll f__law_some) := reads_C fun c r hc hp Q X hq => by
  subst hp
  unfold w__law_great
  refine seq_k fun K hk => ?_
  simp
  refine hk _ ?_
  clear hk
  clear K
  refine seq_k fun K hk => ?_
  simp [hc]
  refine ⟨⟨_, rfl, by simp, by simp⟩, ?_⟩
  rintro v c1 hc1 ⟨many, k1, e, rfl, k10, k11⟩
  cases e
  simp
  refine ⟨by omega, ?_⟩
  refine for_inv (fun ds σ => ∃ (c : D) (l : List Tt) (s2 s3 s4 : Sl), CupOk c ∧ freeSl (some s2) ∧ freeSl (some s3) ∧ freeSl (some s4) ∧ l.length + ds.length ≤ 3 ∧ (∀ u ∈ l, bigLeaf u) ∧
    σ = [.io c, .val (.tuple (l.map Tt.enc)), s2, s3, s4]) ?_ ?_ _ _ ⟨c1, [], .un, .un, .un, hc1, trivial, trivial, trivial, by rw [rangeD_len]; simp; omega, fun u hu => (by cases hu), rfl⟩
  · rintro d ds σ ⟨c, l, s2, s3, s4, hc, h2, h3, h4, hl, hb, rfl⟩ nx hnx
    rw [List.length_cons] at hl
    refine (forTurn_def).mpr ?_
    simp only [s_gN, s_noIo]
    refine ⟨h2, ?_⟩
    refine seq_k fun K hk => ?_
    simp [hc]
    refine ⟨⟨_, rfl, by simp, by simp⟩, ?_⟩
    rintro v c1 hc1 ⟨many, k1, e, rfl, k10, k11⟩
    cases e
    simp [hc1]
    refine ⟨⟨_, rfl, by simp, by simp⟩, ?_⟩
    rintro v c2 hc2 ⟨m, d, e, hd, rfl⟩
    cases e
    have hd2 : ∃ x : Int, d = .int x ∧ -1000000000 ≤ x ∧ x ≤ 1000000000 := by
      simp at hd
      rcases hd with rfl | rfl | rfl | rfl | rfl | rfl <;> exact ⟨_, rfl, by omega, by omega⟩
    obtain ⟨x, rfl, x0, x1⟩ := hd2
    clear hd
    simp [h3]
    refine hk _ ?_
    clear hk
    clear K
    refine seq_k fun K hk => ?_
    have m2 : IntMulOk 2 1000000000000 := mulOk_left (by omega) (by omega)
    simp [hc2, m2]
    refine ⟨⟨_, rfl, by simp, by simp⟩, ?_⟩
    rintro v c3 hc3 ⟨many, k3, e, rfl, k30, k31⟩
    cases e
    simp [hc3]
    refine ⟨⟨_, rfl, by simp, by simp⟩, ?_⟩
    rintro v c4 hc4 ⟨m, d, e, hd, rfl⟩
    cases e
    have hd2 : ∃ z : Int, d = .int z ∧ -1000000000000 ≤ z ∧ z ≤ 1000000000000 := by
      simp at hd
      rcases hd with rfl | rfl | rfl | rfl | rfl <;> exact ⟨_, rfl, by omega, by omega⟩
    obtain ⟨z, rfl, z0, z1⟩ := hd2
    clear hd
    simp [h4]
    refine hk _ ?_
    clear hk
    clear K
    have more : ∀ c (u : Tt), CupOk c → bigLeaf u → nx [.io c, .val (.tuple ((l ++ [u]).map Tt.enc)), .val d, .val (.tuple [.int x]), .val (.int z)] := fun c u hc hu => hnx _ ⟨c, l ++ [u], .val d, .val (.tuple [.int x]), .val (.int z), hc, trivial, trivial, trivial, by rw [List.length_append, List.length_singleton]; omega, fun v hv => by
      rcases List.mem_append.mp hv with hv | hv
      · exact hb v hv
      · rw [List.mem_singleton.mp hv]; exact hu, rfl⟩
    simp [hc4]
    refine ⟨⟨_, rfl, by simp, by simp⟩, ?_⟩
    rintro v c5 hc5 ⟨many, k5, e, rfl, k50, k51⟩
    cases e
    by_cases h5 : k5 = 0
    · simp [h5, hc5]
      refine ⟨⟨_, rfl, by simp, by simp⟩, ?_⟩
      rintro v c6 hc6 ⟨m, d6, e, hd, rfl⟩
      cases e
      have hd2 : ∃ q : Int, d6 = .int q ∧ (q = 2 ∨ q = 3) := by
        simp at hd
        rcases hd with rfl | rfl
        · exact ⟨2, rfl, .inl rfl⟩
        · exact ⟨3, rfl, .inr rfl⟩
      obtain ⟨q, rfl, hq2⟩ := hd2
      have := more c6 (.div q [x] z) hc6 ⟨hq2, x, rfl, x0, x1, z0, z1⟩
      simp [Tt.enc] at this
      simp
      exact ⟨by omega, this⟩
    · have := more c5 (.most [x] z) hc5 ⟨x, rfl, x0, x1, z0, z1⟩
      simp [Tt.enc] at this
      simp [h5]
      exact ⟨by omega, this⟩
  · rintro σ ⟨c, l, s2, s3, s4, hc, h2, h3, h4, hl, hb, rfl⟩
    refine hk _ ?_
    obtain ⟨g1, g2, g3⟩ := great_of hb (by simpa using hl)
    simp [hc]
    refine ⟨⟨_, rfl, by simp, by simp⟩, ?_⟩
    rintro v c2 hc2 ⟨m, d, e, hd, rfl⟩
    cases e
    simp at hd
    rcases hd with rfl | rfl | rfl
    · exact hq _ _ hc2 ⟨_, rfl, by rw [Tt.enc, Tts.of_enc], g1⟩
    · exact hq _ _ hc2 ⟨_, rfl, by rw [Tt.enc, Tts.of_enc], g2⟩
    · exact hq _ _ hc2 ⟨_, rfl, by rw [Tt.enc, Tt.enc, Tts.of_enc], g3⟩
end DL
end L2
set_option Elab.async false
set_option maxRecDepth 100000
set_option maxHeartbeats 1000000
/-! Plain part 12: trees fit. -/
namespace L2
open PySem PySem.Spec PyProof.Rows
namespace DL
theorem rowFits_ok {n : Nat} {row : List Int} (h : row.length = n) (hb : ∀ x ∈ row, -1000000000 ≤ x ∧ x ≤ 1000000000) : rowFits n (encI row) = true := by
  simp [rowFits, h]
  intro x hx
  have := hb x hx
  simp [isWh]
  omega
theorem leafFits_ok {n : Nat} {t : Tt} (h : leafOk n 1000000000 1000000000000 t) : ∃ s l, t.enc = .tuple (.str s :: l) ∧ (s = "most" ∨ s = "div") ∧ leafFits n s l = true ∧ tupLen t.enc 2 4 = true := by
  cases t with
  | most row k =>
    simp only [leafOk] at h
    refine ⟨_, _, rfl, .inl rfl, ?_, by simp [Tt.enc, tupLen]⟩
    simp [leafFits, rowFits_ok h.1 h.2.1, isWh]
    omega
  | div m row k =>
    simp only [leafOk] at h
    refine ⟨_, _, rfl, .inr rfl, ?_, by simp [Tt.enc, tupLen]⟩
    simp [leafFits, rowFits_ok h.2.1 h.2.2.1, isWh]
    omega
  | _ => exact h.elim
/-- a tree to be looked at, so deep -/
def encT (st : List (Tt × Int)) : List (D × Int) := st.map fun p => (p.1.enc, p.2)
def sizeT (st : List (Tt × Int)) : Nat := sizeAll (st.map (·.1))
theorem sizeT_app (a b : List (Tt × Int)) : sizeT (a ++ b) = sizeT a + sizeT b := by
  unfold sizeT
  rw [List.map_append, sizeAll_app]
theorem sizeT_parts (l : List Tt) (d : Int) : sizeT (l.map fun u => (u, d)) = sizeAll l := by
  unfold sizeT
  rw [List.map_map]
  simp [Function.comp_def]
theorem encT_parts (l : List Tt) (d : Int) : encT (l.map fun u => (u, d)) = (l.map Tt.enc).map fun p => (p, d) := by
  unfold encT
  rw [List.map_map, List.map_map]
  rfl
theorem Tts.mem_list {n : Nat} : ∀ {ts : Tts}, ts.ok n → ∀ u ∈ ts.toList, u.ok n
  | .nil, _, u, h => by cases h
  | .cons t ts, h, u, hu => by
    rcases List.mem_cons.mp hu with rfl | hu
    · exact h.1
    · exact Tts.mem_list (ts := ts) h.2 u hu
/-- the parts of a tree that is no leaf -/
theorem knot_ok {n : Nat} {t : Tt} (ok : t.ok n) (hl : ∀ R K, ¬ leafOk n R K t) : ∃ s l, t.enc = .tuple (.str s :: l) ∧ ¬ (s = "most" ∨ s = "div") ∧ knotFits s l = true ∧ tupLen t.enc 2 4 = true ∧ partsD t.enc = t.parts.map Tt.enc ∧ t.size = sizeAll t.parts + 1 ∧
    (∀ u ∈ t.parts, u.ok n ∧ u.deep + 1 ≤ t.deep) := by
  cases t with
  | most row k => exact absurd ok (hl _ _)
  | div m row k => exact absurd ok (hl _ _)
  | neg t =>
    refine ⟨_, _, rfl, by simp, by simp [knotFits], by simp [Tt.enc, tupLen], by simp [Tt.enc, partsD, Tt.parts], by simp [Tt.parts, Tt.size, sizeAll], fun u hu => ?_⟩
    rw [List.mem_singleton.mp hu]
    exact ⟨ok, Nat.le_refl _⟩
  | all ts =>
    have := ok.2
    refine ⟨_, _, rfl, by simp, by simp [knotFits, knot1, tupLen, Tts.enc_len]; omega, by simp [Tt.enc, tupLen], by simp [Tt.enc, partsD, Tt.parts, Tts.enc_list], by simp [Tt.parts, Tt.size, Tts.size_list], fun u hu => ?_⟩
    exact ⟨Tts.mem_list ok.1 u hu, by have := Tts.deep_list (Nat.le_refl ts.deep) u hu; simp only [Tt.deep]; omega⟩
  | any ts =>
    have := ok.2
    refine ⟨_, _, rfl, by simp, by simp [knotFits, knot1, tupLen, Tts.enc_len]; omega, by simp [Tt.enc, tupLen], by simp [Tt.enc, partsD, Tt.parts, Tts.enc_list], by simp [Tt.parts, Tt.size, Tts.size_list], fun u hu => ?_⟩
    exact ⟨Tts.mem_list ok.1 u hu, by have := Tts.deep_list (Nat.le_refl ts.deep) u hu; simp only [Tt.deep]; omega⟩
theorem fits_loop {n : Nat} : ∀ (f : Nat) (st : List (Tt × Int)) (many : Nat), (∀ p ∈ st, p.1.ok n ∧ p.2 + p.1.deep ≤ 13) → sizeT st + many ≤ 4000 → sizeT st < f → fitsLoop n f (encT st) many = true
  | 0, st, many, _, _, h => absurd h (by omega)
  | f + 1, st, many, hs, hm, hf => by
    rcases List.eq_nil_or_concat st with rfl | ⟨st', p, rfl⟩
    · simp [fitsLoop, encT]
    · obtain ⟨t, d⟩ := p
      rw [List.concat_eq_append] at *
      obtain ⟨ok, hd⟩ := hs (t, d) (by simp)
      dsimp only at ok hd
      have en : encT (st' ++ [(t, d)]) = encT st' ++ [(t.enc, d)] := by simp [encT]
      have ez : sizeT (st' ++ [(t, d)]) = sizeT st' + t.size := by
        rw [sizeT_app]
        simp [sizeT, sizeAll]
      have sp := size_pos t
      have dpos : 1 ≤ t.deep := by cases t <;> simp [Tt.deep]
      rw [ez] at hm hf
      have rest : ∀ p ∈ st', p.1.ok n ∧ p.2 + p.1.deep ≤ 13 := fun p hp => hs p (by simp [hp])
      unfold fitsLoop
      rw [en]
      simp only [List.getLast?_append, List.getLast?_singleton, Option.some_or, List.dropLast_concat]
      by_cases hl : leafOk n 1000000000 1000000000000 t
      · obtain ⟨s, l, e1, e2, e3, e4⟩ := leafFits_ok hl
        rw [if_neg (by rw [e4]; simp; omega), e1]
        simp only [e2, e3, if_true]
        exact fits_loop f st' (many + 1) rest (by omega) (by omega)
      · have hl2 : ∀ R K, ¬ leafOk n R K t := fun R K z => by
          cases t with
          | most row k => exact hl ok
          | div m row k => exact hl ok
          | _ => exact z
        obtain ⟨s, l, e1, e2, e3, e4, e5, e6, e7⟩ := knot_ok ok hl2
        rw [if_neg (by rw [e4]; simp; omega)]
        have e8 := e5
        rw [e1] at e8
        rw [e1]
        simp only [e2, e3, if_true, if_false]
        rw [e8, ← encT_parts]
        have : encT st' ++ encT (t.parts.map fun u => (u, d + 1)) = encT (st' ++ t.parts.map fun u => (u, d + 1)) := by simp [encT]
        rw [this]
        refine fits_loop f _ (many + 1) (fun p hp => ?_) (by rw [sizeT_app, sizeT_parts]; omega) (by rw [sizeT_app, sizeT_parts]; omega)
        rcases List.mem_append.mp hp with hp | hp
        · exact rest p hp
        · obtain ⟨u, hu, rfl⟩ := List.mem_map.mp hp
          have := e7 u hu
          exact ⟨this.1, by dsimp only; omega⟩
theorem fits_ok {n : Nat} {t : Tt} (ok : t.ok n) (hd : t.deep ≤ 12) (hz : t.size ≤ 4000) : testFits n t.enc = true :=
  fits_loop 4002 [(t, 1)] 0 (fun p hp => by rw [List.mem_singleton.mp hp]; exact ⟨ok, by dsimp only; omega⟩) (by simp [sizeT, sizeAll]; omega) (by simp [sizeT, sizeAll]; omega)
theorem bad_none {n : Int} : testFits n .none = false := by simp [testFits, fitsLoop, tupLen]
theorem bad_row : testFits 1 (.tuple [.str "most", .tuple [.int 1, .int 1], .int 0]) = false := by simp [testFits, fitsLoop, tupLen, leafFits, rowFits]
theorem bad_div : testFits 1 (.tuple [.str "div", .int 0, .tuple [.int 1], .int 0]) = false := by simp [testFits, fitsLoop, tupLen, leafFits, isWh]
theorem bad_or {d : D} : testFits 1 (.tuple [.str "or", .list [d]]) = false := by simp [testFits, fitsLoop, tupLen, knotFits, knot1]
end DL
end L2
set_option Elab.async false
set_option maxRecDepth 100000
set_option maxHeartbeats 1000000
/-! Plain part 13: the window and the places are enough. -/
namespace L2
open PySem PySem.Spec PyProof.Rows
namespace DL
theorem gr_of (x : Int) : ∀ l : List Int, (∀ z ∈ l, ¬ z ≤ x) ∨ ∃ m ∈ l, m ≤ x ∧ ∀ z ∈ l, z ≤ x → z ≤ m
  | [] => .inl fun z h => by cases h
  | y :: l => by
    rcases gr_of x l with h | ⟨m, hm, h1, h2⟩
    · by_cases hy : y ≤ x
      · refine .inr ⟨y, by simp, hy, fun z hz hx => ?_⟩
        rcases List.mem_cons.mp hz with rfl | hz
        · exact Int.le_refl _
        · exact absurd hx (h z hz)
      · refine .inl fun z hz => ?_
        rcases List.mem_cons.mp hz with rfl | hz
        · exact hy
        · exact h z hz
    · by_cases hy : y ≤ x ∧ m < y
      · refine .inr ⟨y, by simp, hy.1, fun z hz hx => ?_⟩
        rcases List.mem_cons.mp hz with rfl | hz
        · exact Int.le_refl _
        · have := h2 z hz hx
          omega
      · refine .inr ⟨m, by simp [hm], h1, fun z hz hx => ?_⟩
        rcases List.mem_cons.mp hz with rfl | hz
        · omega
        · exact h2 z hz hx
theorem ls_of (x : Int) (l : List Int) : (∀ z ∈ l, ¬ x ≤ z) ∨ ∃ m ∈ l, x ≤ m ∧ ∀ z ∈ l, x ≤ z → m ≤ z := by
  rcases gr_of (-x) (l.map fun z => -z) with h | ⟨m, hm, h1, h2⟩
  · refine .inl fun z hz hx => h (-z) (List.mem_map.mpr ⟨z, hz, rfl⟩) (by omega)
  · obtain ⟨y, hy, rfl⟩ := List.mem_map.mp hm
    refine .inr ⟨y, hy, by omega, fun z hz hx => ?_⟩
    have := h2 (-z) (List.mem_map.mpr ⟨z, hz, rfl⟩) (by omega)
    omega
/-- from below, from above -/
theorem res_up {a x st : Int} (h1 : 1 ≤ st) (h2 : st ≤ 12) (h : a ≤ x) : ∃ y, a ≤ y ∧ y ≤ x ∧ y ≤ a + 11 ∧ y % st = x % st := by
  refine ⟨a + (x - a) % st, ?_, ?_, ?_, ?_⟩
  · have := Int.emod_nonneg (x - a) (show st ≠ 0 by omega)
    omega
  · have d := Int.emod_add_mul_ediv (x - a) st
    have q : 0 ≤ (x - a) / st := Int.ediv_nonneg (by omega) (by omega)
    have := Int.mul_nonneg (show 0 ≤ st by omega) q
    omega
  · have := Int.emod_lt_of_pos (x - a) (show 0 < st by omega)
    omega
  · rw [Int.add_emod_emod, show a + (x - a) = x by omega]
theorem res_dn {b x st : Int} (h1 : 1 ≤ st) (h2 : st ≤ 12) (h : x ≤ b) : ∃ y, x ≤ y ∧ y ≤ b ∧ b - 11 ≤ y ∧ y % st = x % st := by
  refine ⟨b - (b - x) % st, ?_, ?_, ?_, ?_⟩
  · have d := Int.emod_add_mul_ediv (b - x) st
    have q : 0 ≤ (b - x) / st := Int.ediv_nonneg (by omega) (by omega)
    have := Int.mul_nonneg (show 0 ≤ st by omega) q
    omega
  · have := Int.emod_nonneg (b - x) (show st ≠ 0 by omega)
    omega
  · have := Int.emod_lt_of_pos (b - x) (show 0 < st by omega)
    omega
  · rw [Int.sub_emod_emod, show b - (b - x) = x by omega]
/-! ### the window -/
structure WinOk (lo hi : Option Int) : Prop where
  l : ∀ l, lo = some l → l ≤ 100 ∨ 200 < l
  h : ∀ h, hi = some h → -100 ≤ h ∨ h < -200
theorem win_has {lo hi : Option Int} (w : WinOk lo hi) {st x : Int} (h1 : 1 ≤ st) (h2 : st ≤ 12) (hl : ∀ l, lo = some l → l ≤ x) (hh : ∀ h, hi = some h → x ≤ h) :
    ∃ y, ((win lo hi).1 ≤ y ∧ y ≤ (win lo hi).2) ∧ y % st = x % st ∧ (∀ l, lo = some l → l ≤ y) ∧ (∀ h, hi = some h → y ≤ h) ∧ ∀ v, -100 ≤ v → v ≤ 100 → (x ≤ v ↔ y ≤ v) := by
  obtain ⟨wl, wh⟩ := w
  by_cases hx : x < -200 ∨ 200 < x
  · rcases hx with hx | hx
    · -- far below
      cases hi with
      | none =>
        obtain ⟨y, y1, y2, y3, y4⟩ := res_up (a := -200 - 12 * (-200 - x)) h1 h2 (x := x) (by omega)
        obtain ⟨u, u1, u2, u3, u4⟩ := res_dn (b := -189) h1 h2 (x := x) (by omega)
        refine ⟨u, ?_, u4, fun l e => ?_, fun h e => (nomatch e), fun v v1 v2 => by omega⟩
        · cases lo with
          | none => simp [win, win0, win1, win2]; omega
          | some l =>
            have := hl l rfl
            simp only [win, win0, win1, win2, mx]
            rw [if_neg (by omega)]
            dsimp only
            split <;> omega
        · have := hl l e
          omega
      | some h =>
        have b1 := hh h rfl
        have b2 := wh h rfl
        by_cases hb : h < -200
        · obtain ⟨u, u1, u2, u3, u4⟩ := res_dn (b := h) h1 h2 (x := x) b1
          refine ⟨u, ?_, u4, fun l e => ?_, fun h e => (by cases e; exact u2), fun v v1 v2 => by omega⟩
          · cases lo with
            | none =>
              simp only [win, win2]
              rw [if_pos hb]
              dsimp only
              omega
            | some l =>
              have := hl l rfl
              simp only [win, win2, mx]
              rw [if_pos hb]
              dsimp only
              split <;> omega
          · have := hl l e
            omega
        · obtain ⟨u, u1, u2, u3, u4⟩ := res_dn (b := -189) h1 h2 (x := x) (by omega)
          refine ⟨u, ?_, u4, fun l e => ?_, fun h e => (by cases e; omega), fun v v1 v2 => by omega⟩
          · cases lo with
            | none =>
              simp only [win, win0, win1, win2, mn]
              rw [if_neg hb]
              dsimp only
              split <;> omega
            | some l =>
              have := hl l rfl
              simp only [win, win0, win1, win2, mx, mn]
              rw [if_neg hb, if_neg (by omega)]
              dsimp only
              split <;> split <;> omega
          · have := hl l e
            omega
    · -- far above
      cases lo with
      | none =>
        obtain ⟨u, u1, u2, u3, u4⟩ := res_up (a := 189) h1 h2 (x := x) (by omega)
        refine ⟨u, ?_, u4, fun l e => (nomatch e), fun h e => ?_, fun v v1 v2 => by omega⟩
        · cases hi with
          | none => simp [win, win0, win1, win2]; omega
          | some h =>
            have := hh h rfl
            simp only [win, win0, win1, win2, mn]
            rw [if_neg (by omega)]
            dsimp only
            split <;> omega
        · have := hh h e
          omega
      | some l =>
        have b1 := hl l rfl
        have b2 := wl l rfl
        by_cases hb : 200 < l
        · obtain ⟨u, u1, u2, u3, u4⟩ := res_up (a := l) h1 h2 (x := x) b1
          refine ⟨u, ?_, u4, fun l e => (by cases e; exact u1), fun h e => ?_, fun v v1 v2 => by omega⟩
          · cases hi with
            | none =>
              simp only [win, win1, win2]
              rw [if_pos hb]
              dsimp only
              omega
            | some h =>
              have := hh h rfl
              simp only [win, win1, win2, mn]
              rw [if_neg (by omega), if_pos hb]
              dsimp only
              split <;> omega
          · have := hh h e
            omega
        · obtain ⟨u, u1, u2, u3, u4⟩ := res_up (a := 189) h1 h2 (x := x) (by omega)
          refine ⟨u, ?_, u4, fun l e => (by cases e; omega), fun h e => ?_, fun v v1 v2 => by omega⟩
          · cases hi with
            | none =>
              simp only [win, win0, win1, win2, mx]
              rw [if_neg hb]
              dsimp only
              split <;> omega
            | some h =>
              have := hh h rfl
              simp only [win, win0, win1, win2, mx, mn]
              rw [if_neg (by omega), if_neg hb]
              dsimp only
              split <;> split <;> omega
          · have := hh h e
            omega
  · refine ⟨x, ?_, rfl, hl, hh, fun v _ _ => Iff.rfl⟩
    cases lo with
    | none =>
      cases hi with
      | none => simp [win, win0, win1, win2]; omega
      | some h =>
        have := hh h rfl
        simp only [win, win0, win1, win2, mn]
        rw [if_neg (by omega)]
        dsimp only
        split <;> omega
    | some l =>
      have := hl l rfl
      cases hi with
      | none =>
        simp only [win, win0, win1, win2, mx]
        rw [if_neg (by omega)]
        dsimp only
        split <;> omega
      | some h =>
        have := hh h rfl
        simp only [win, win0, win1, win2, mx, mn]
        rw [if_neg (by omega), if_neg (by omega)]
        dsimp only
        split <;> split <;> omega
/-! ### breaks -/
theorem keys_mem : ∀ {l : List Tt} {acc : List Int} {v : Int}, v ∈ keysOf l acc → v ∈ acc ∨ ∃ u ∈ l, brkOf u = some v
  | [], acc, v, h => .inl h
  | t :: l, acc, v, h => by
    unfold keysOf at h
    split at h
    · rename_i k e
      rcases keys_mem h with h | ⟨u, hu, hb⟩
      · unfold addKey at h
        split at h
        · exact .inl h
        · rcases List.mem_append.mp h with h | h
          · exact .inl h
          · rw [List.mem_singleton.mp h]
            exact .inr ⟨t, by simp, e⟩
      · exact .inr ⟨u, by simp [hu], hb⟩
    · rcases keys_mem h with h | ⟨u, hu, hb⟩
      · exact .inl h
      · exact .inr ⟨u, by simp [hu], hb⟩
theorem brks_mem {t : Tt} {v : Int} (h : v ∈ brks t) : ∃ u ∈ t.leaves, brkOf u = some v := by
  have := (sortI_perm _).mem_iff.mp h
  rcases keys_mem this with h | h
  · cases h
  · exact h
theorem fdiv_b {k c m : Int} (hc : 0 < c) (hm : 0 ≤ m) (h0 : -m ≤ k) (h1 : k ≤ m) : -m ≤ k.fdiv c ∧ k.fdiv c ≤ m := by
  have e : ∀ z : Int, 0 ≤ z → z ≤ c * z := fun z hz => by
    have := Int.mul_le_mul_of_nonneg_right (show (1 : Int) ≤ c by omega) hz
    omega
  constructor
  · rw [← le_fdiv hc, Int.mul_neg]
    have := e m hm
    omega
  · have : ¬ (m + 1 ≤ k.fdiv c) := by
      rw [← le_fdiv hc]
      have := e (m + 1) (by omega)
      omega
    omega
/-- a break's place lies beside it -/
theorem brk_place {u : Tt} {v : Int} (h : brkOf u = some v) : ∃ q, placeOf u = some q ∧ v ≤ q ∧ q ≤ v + 1 := by
  cases u with
  | most row k =>
    rcases row with _ | ⟨c, row⟩
    · simp [brkOf] at h
    · simp only [brkOf] at h
      split at h
      · rename_i h0
        cases h
        exact ⟨k.fdiv c, by simp [placeOf]; omega, by omega, by omega⟩
      · split at h
        · rename_i h0 h1
          cases h
          refine ⟨k.fdiv c, by simp [placeOf]; omega, ?_, ?_⟩
          · rw [← Int.neg_fdiv_neg k c, ← le_fdiv (by omega)]
            have : ¬ (k.fdiv (-c) + 1 ≤ k.fdiv (-c)) := by omega
            rw [← le_fdiv (by omega), Int.mul_add] at this
            rw [Int.mul_sub, Int.mul_neg]
            omega
          · rw [← Int.neg_fdiv_neg k c]
            have : ¬ (-(k.fdiv (-c)) - 1 + 1 + 1 ≤ (-k).fdiv (-c)) := by
              rw [← le_fdiv (by omega)]
              have : k.fdiv (-c) ≤ k.fdiv (-c) := by omega
              rw [← le_fdiv (by omega)] at this
              have e : (-c) * (-(k.fdiv (-c)) - 1 + 1 + 1) = -((-c) * k.fdiv (-c)) + (-c) := by
                rw [show -(k.fdiv (-c)) - 1 + 1 + 1 = -(k.fdiv (-c)) + 1 by omega, Int.mul_add, Int.mul_neg, Int.mul_one]
              rw [e]
              omega
            omega
        · cases h
  | _ => simp [brkOf] at h
theorem place_mem {t : Tt} {p : Part} {q : Int} (h : q ∈ placeList t p) {y : Int} (h1 : q - 14 ≤ y) (h2 : y ≤ q + 14) : y ∈ placesAll t p := by
  unfold placesAll
  rw [List.mem_flatMap]
  refine ⟨q, (srtSet_mem q _).mpr h, ?_⟩
  unfold near
  rw [List.mem_map]
  exact ⟨(y - (q - 14)).toNat, by rw [List.mem_range]; omega, by omega⟩
theorem place_lo {t : Tt} {p : Part} {l : Int} (h : p.lo = some l) : l ∈ placeList t p := by simp [placeList, h]
theorem place_hi {t : Tt} {p : Part} {l : Int} (h : p.hi = some l) : l ∈ placeList t p := by simp [placeList, h]
theorem place_brk {t : Tt} {p : Part} {v : Int} (h : v ∈ brks t) : ∃ q ∈ placeList t p, v ≤ q ∧ q ≤ v + 1 := by
  obtain ⟨u, hu, e⟩ := brks_mem h
  obtain ⟨q, e2, h1, h2⟩ := brk_place e
  refine ⟨q, ?_, h1, h2⟩
  simp only [placeList, List.mem_append, List.mem_filterMap]
  exact .inr ⟨u, hu, e2⟩
theorem place_has {t : Tt} {p : Part} {x : Int} (hp : p.ok) (ok : t.ok 1) (hs : stepOk t p.st = true) (hx : InPart p x) (hf : t.at [x] = false) : ∃ y ∈ placesAll t p, InPart p y ∧ t.at [y] = false := by
  obtain ⟨st1, st2, r0, r1⟩ := hp
  obtain ⟨xl, xh, xr⟩ := hx
  have fin : ∀ y, y ∈ placesAll t p → y % p.st = x % p.st → (∀ l, p.lo = some l → l ≤ y) → (∀ h, p.hi = some h → y ≤ h) → (∀ v ∈ brks t, (x ≤ v ↔ y ≤ v)) → ∃ y ∈ placesAll t p, InPart p y ∧ t.at [y] = false := fun y h1 h2 h3 h4 h5 =>
    ⟨y, h1, ⟨h3, h4, h2.trans xr⟩, by rw [← at_same ok hs h2.symm h5]; exact hf⟩
  rcases gr_of x (p.lo.toList ++ (brks t).map fun v => v + 1) with hn | ⟨b, hb, b1, b2⟩
  · have nl : p.lo = none := by
      cases e : p.lo with
      | none => rfl
      | some l => exact absurd (xl l e) (hn l (by simp [e]))
    have nb : ∀ v ∈ brks t, x ≤ v := fun v hv => by
      have := hn (v + 1) (by simp; exact .inr hv)
      omega
    rcases ls_of x (p.hi.toList ++ brks t) with hn2 | ⟨b, hb, b1, b2⟩
    · obtain ⟨y, y1, y2, y3, y4⟩ : ∃ y, 0 ≤ y ∧ y ≤ 11 ∧ True ∧ y % p.st = x % p.st := by
        refine ⟨x % p.st, Int.emod_nonneg _ (by omega), ?_, trivial, Int.emod_emod _ _⟩
        have := Int.emod_lt_of_pos x (show 0 < p.st by omega)
        omega
      have nh : p.hi = none := by
        cases e : p.hi with
        | none => rfl
        | some l => exact absurd (xh l e) (hn2 l (by simp [e]))
      refine fin y (place_mem (q := 0) (by simp [placeList]) (by omega) (by omega)) y4 (fun l e => by rw [nl] at e; cases e) (fun l e => by rw [nh] at e; cases e) fun v hv => ?_
      exact absurd (nb v hv) (hn2 v (by simp [hv]))
    · obtain ⟨y, y1, y2, y3, y4⟩ := res_dn st1 st2 b1
      refine fin y ?_ y4 (fun l e => by rw [nl] at e; cases e) (fun h e => ?_) fun v hv => ?_
      · rcases List.mem_append.mp hb with hb | hb
        · rw [Option.mem_toList] at hb
          exact place_mem (place_hi hb) (by omega) (by omega)
        · obtain ⟨q, hq, q1, q2⟩ := place_brk (p := p) hb
          exact place_mem hq (by omega) (by omega)
      · have := b2 h (by simp [e]) (xh h e)
        omega
      · have := nb v hv
        have := b2 v (by simp [hv]) this
        constructor <;> intro <;> omega
  · obtain ⟨y, y1, y2, y3, y4⟩ := res_up st1 st2 b1
    refine fin y ?_ y4 (fun l e => ?_) (fun h e => ?_) fun v hv => ?_
    · rcases List.mem_append.mp hb with hb | hb
      · rw [Option.mem_toList] at hb
        exact place_mem (place_lo hb) (by omega) (by omega)
      · obtain ⟨v, hv, rfl⟩ := List.mem_map.mp hb
        obtain ⟨q, hq, q1, q2⟩ := place_brk (p := p) hv
        exact place_mem hq (by omega) (by omega)
    · have := b2 l (by simp [e]) (xl l e)
      omega
    · have := xh h e
      omega
    · constructor
      · intro h
        omega
      · intro h
        by_cases hv2 : x ≤ v
        · exact hv2
        · have := b2 (v + 1) (by simp; exact .inr hv) (by omega)
          omega
/-! ### what is due -/
def dueOf (l : List Int) (t : Tt) (p : Part) : List Int := l.filter fun y => inB p y && !t.at [y]
def dueD (t : Tt) (p : Part) : D → Option D
  | .int y => if (inB p y && !t.at [y]) = true then some (.int y) else none
  | _ => none
theorem due_map (t : Tt) (p : Part) : ∀ l : List Int, (l.map .int).filterMap (dueD t p) = (dueOf l t p).map .int
  | [] => rfl
  | y :: l => by
    rw [List.map_cons, List.filterMap_cons, due_map t p l]
    unfold dueOf
    rw [List.filter_cons]
    cases h : (inB p y && !t.at [y]) <;> simp [dueD, h]
theorem told_ok {t : Tt} {p : Part} (hp : p.ok) (ok : t.ok 1) (hs : stepOk t p.st = true) {due : List Int} (h1 : ∀ y ∈ due, InPart p y ∧ t.at [y] = false) (h2 : ∀ x, InPart p x → t.at [x] = false → due ≠ []) : isTold (firstFalse t p) due t p = true := by
  cases e : firstFalse t p with
  | none =>
    cases due with
    | nil => rfl
    | cons y l =>
      obtain ⟨a, b⟩ := h1 y (by simp)
      rw [ff_none hp ok hs e a] at b
      cases b
  | some x =>
    obtain ⟨a, b⟩ := ff_some hp e
    have c := h2 x a b
    simp [isTold, (inB_iff hp).mpr a, b]
    exact c
theorem due_in {t : Tt} {p : Part} (hp : p.ok) {l : List Int} : ∀ y ∈ dueOf l t p, InPart p y ∧ t.at [y] = false := by
  intro y hy
  unfold dueOf at hy
  obtain ⟨_, h⟩ := List.mem_filter.mp hy
  rw [Bool.and_eq_true] at h
  exact ⟨(inB_iff hp).mp h.1, by simpa using h.2⟩
theorem due_ne {t : Tt} {p : Part} (hp : p.ok) {l : List Int} {y : Int} (hy : y ∈ l) (h1 : InPart p y) (h2 : t.at [y] = false) : dueOf l t p ≠ [] := by
  have : y ∈ dueOf l t p := List.mem_filter.mpr ⟨hy, by simp [(inB_iff hp).mpr h1, h2]⟩
  exact List.ne_nil_of_mem this
/-- the ints of a range -/
def rangeI (i : Int) (n : Nat) : List Int := (List.range n).map fun j => i + (j : Nat)
theorem rangeD_I (i : Int) (n : Nat) : rangeD i n = (rangeI i n).map .int := by
  unfold rangeD rangeI
  rw [List.map_map]
  rfl
theorem rangeI_mem {i y : Int} {n : Nat} : y ∈ rangeI i n ↔ i ≤ y ∧ y < i + (n : Nat) := by
  unfold rangeI
  rw [List.mem_map]
  constructor
  · rintro ⟨j, hj, rfl⟩
    rw [List.mem_range] at hj
    omega
  · rintro ⟨h1, h2⟩
    exact ⟨(y - i).toNat, by rw [List.mem_range]; omega, by omega⟩
theorem gen_brks {t : Tt} {lead most : Int} {divs : List Int} {L : Nat} (g : GenT 1 lead most divs L t) (hm : most ≤ 50) : ∀ v ∈ brks t, -100 ≤ v ∧ v ≤ 100 := by
  intro v hv
  obtain ⟨u, hu, e⟩ := brks_mem hv
  have lv := g.lv u hu
  cases u with
  | most row k =>
    obtain ⟨a1, a2, a3, a4⟩ := lv
    rcases row with _ | ⟨c, row⟩
    · simp at a1
    · simp only [brkOf] at e
      have m0 : 0 ≤ most := by omega
      split at e
      · rename_i h0
        cases e
        have := fdiv_b h0 m0 a3 a4
        omega
      · split at e
        · cases e
          have := fdiv_b (c := -c) (by omega) m0 a3 a4
          omega
        · cases e
  | _ => simp [brkOf] at e
theorem told_win {t : Tt} {p : Part} {lead most : Int} {divs : List Int} {L : Nat} (hp : p.ok) (ok : t.ok 1) (hs : stepOk t p.st = true) (g : GenT 1 lead most divs L t) (hm : most ≤ 50) (w : WinOk p.lo p.hi) :
    isTold (firstFalse t p) (dueOf (rangeI (win p.lo p.hi).1 ((win p.lo p.hi).2 + 1 - (win p.lo p.hi).1).toNat) t p) t p = true := by
  refine told_ok hp ok hs (due_in hp) fun x hx hf => ?_
  obtain ⟨y, ⟨y1, y2⟩, y3, y4, y5, y6⟩ := win_has w hp.st hp.st2 hx.lo hx.hi
  refine due_ne hp (y := y) (rangeI_mem.mpr ⟨y1, by omega⟩) ⟨y4, y5, y3.trans hx.re⟩ ?_
  rw [← at_same ok hs y3.symm fun v hv => (by have := gen_brks g hm v hv; exact y6 v this.1 this.2)]
  exact hf
theorem told_places {t : Tt} {p : Part} (hp : p.ok) (ok : t.ok 1) (hs : stepOk t p.st = true) : isTold (firstFalse t p) (dueOf (placesAll t p) t p) t p = true := by
  refine told_ok hp ok hs (due_in hp) fun x hx hf => ?_
  obtain ⟨y, y1, y2, y3⟩ := place_has hp ok hs hx hf
  exact due_ne hp y1 y2 y3
end DL
end L2
set_option Elab.async false
set_option maxRecDepth 100000
set_option maxHeartbeats 1000000
/-! Plain part 14: tests with great numbers. -/
namespace L2
open PySem PySem.Spec PyProof.Rows
namespace DL
theorem range_one : rangeD 1 12 = (rangeI 1 12).map .int := rangeD_I 1 12
def multD (P : Int) : D → Option D
  | .int x => if x.fmod P = 0 then some (.int x) else none
  | _ => none
def mults (P : Int) : List Int := (rangeI 1 12).filter fun x => decide (x.fmod P = 0)
theorem mult_map (P : Int) : ∀ l : List Int, (l.map .int).filterMap (multD P) = (l.filter fun x => decide (x.fmod P = 0)).map .int
  | [] => rfl
  | y :: l => by
    rw [List.map_cons, List.filterMap_cons, mult_map P l, List.filter_cons]
    by_cases h : y.fmod P = 0 <;> simp [multD, h]
theorem mults_mem {P x : Int} : x ∈ mults P ↔ (1 ≤ x ∧ x ≤ 12) ∧ x.fmod P = 0 := by
  unfold mults
  rw [List.mem_filter, rangeI_mem, decide_eq_true_eq]
  constructor <;> rintro ⟨⟨h1, h2⟩, h3⟩ <;> exact ⟨⟨h1, by omega⟩, h3⟩
theorem mults_ne {P : Int} (h1 : 1 ≤ P) (h2 : P ≤ 12) : mults P ≠ [] := List.ne_nil_of_mem (mults_mem.mpr ⟨⟨h1, h2⟩, Int.fmod_self⟩)
theorem mults_len (P : Int) : (mults P).length ≤ 12 := by
  have := List.length_filter_le (fun x => decide (x.fmod P = 0)) (rangeI 1 12)
  have e : (rangeI 1 12).length = 12 := by simp [rangeI]
  unfold mults
  omega
theorem step_mult {t : Tt} {P x : Int} (ok : t.ok 1) (hP : 1 ≤ P) (h : stepOk t P = true) (hx : x.fmod P = 0) : stepOk t x = true := by
  unfold stepOk at h ⊢
  rw [List.all_eq_true] at h ⊢
  intro u hu
  have h1 := h u hu
  have lo := (Tt.leaves_ok ok u hu).1
  cases u with
  | div m row k =>
    simp only [leafOk] at lo
    simp only [decide_eq_true_eq] at h1 ⊢
    rw [Int.fmod_eq_emod_of_nonneg _ (by omega)] at h1 hx ⊢
    exact Int.emod_eq_zero_of_dvd (Int.dvd_trans (Int.dvd_of_emod_eq_zero h1) (Int.dvd_of_emod_eq_zero hx))
  | _ => rfl
theorem goods_ne {t : Tt} {i : Nat} (hi : i < 12) (h : stepOk t (1 + (i : Nat)) = true) : ∃ j l, goods t = j :: l ∧ j < 12 ∧ stepOk t (1 + (j : Nat)) = true := by
  have m : i ∈ goods t := List.mem_filter.mpr ⟨List.mem_range.mpr hi, h⟩
  cases e : goods t with
  | nil => rw [e] at m; cases m
  | cons j l =>
    have : j ∈ goods t := by rw [e]; simp
    obtain ⟨h1, h2⟩ := List.mem_filter.mp this
    exact ⟨j, l, rfl, List.mem_range.mp h1, h2⟩
theorem great_goods {t : Tt} (g : Great t) : ∃ j l, goods t = j :: l ∧ j < 12 ∧ stepOk t (1 + (j : Nat)) = true := by
  refine goods_ne (i := 11) (by omega) ?_
  unfold stepOk
  rw [List.all_eq_true]
  intro u hu
  have := g.lv u hu
  cases u with
  | div m row k =>
    rcases this.1 with rfl | rfl <;> rfl
  | _ => rfl
theorem part_fits {p : Part} (hp : p.ok) (hl : ∀ l, p.lo = some l → -1000000000 ≤ l ∧ l ≤ 1000000000) (hh : ∀ h, p.hi = some h → -1000000000 ≤ h ∧ h ≤ 1000000000) : partFits p.enc = true := by
  obtain ⟨lo, hi, st, re⟩ := p
  obtain ⟨s1, s2, r0, r1⟩ := hp
  dsimp only at *
  have a : ∀ o : Option Int, (∀ l, o = some l → -1000000000 ≤ l ∧ l ≤ 1000000000) → isBorder (encO o) = true := fun o h => by
    cases o with
    | none => rfl
    | some l =>
      have := h l rfl
      simp [isBorder, isWh]
      omega
  simp [Part.enc, partFits, a lo hl, a hi hh, isWh]
  omega
theorem near_len : ∀ l : List Int, (l.flatMap near).length = 29 * l.length
  | [] => rfl
  | x :: l => by
    rw [List.flatMap_cons, List.length_append, near_len l, List.length_cons]
    simp [near]
    omega
theorem places_len (t : Tt) (p : Part) : (placesAll t p).length ≤ 29 * (placeList t p).length := by
  unfold placesAll
  rw [near_len]
  have := srtSet_len (placeList t p)
  omega
def rTrue (r : List D) (v : Rv) : Prop := v = .d (.bool true)
abbrev f__law_far : FI := fnC 1 (fun r => r = []) rTrue
theorem r__law_far (k : Nat) (hk3 : 3 ≤ k) : Reads f__law_far 6 (w__law_far f__law_great f__law_some f__law_roll (f__law_places k) (f__law_is_told k) (f_false_on k) (f__law_period k) f__law_in (f__law_test_at k)) := reads_C fun c r hc hp Q X hq => by
  subst hp
  unfold w__law_far
  refine seq_k fun K hk => ?_
  simp [hc]
  rintro v c1 hc1 ⟨t, -, rfl, g⟩
  simp
  refine hk _ ?_
  clear hk
  clear K
  obtain ⟨j, gl, gj, j12, sj⟩ := great_goods g
  have gd := g.deep
  have gz := g.size
  have gn := g.len
  refine seq_k fun K hk => ?_
  simp [hc1]
  refine lc_filter (multD (1 + (j : Nat))) _ (fun d hd A B a => ?_) (by rw [sl_eq, rangeD_len]; decide) ?_
  · rw [range_one] at hd
    obtain ⟨x, hx, rfl⟩ := List.mem_map.mp hd
    simp only [multD] at a
    have h0 : ¬ (1 + (j : Int) = 0) := by omega
    simp
    refine ⟨_, ⟨t, j, gl, rfl, g.ok, by omega, by omega, gj, rfl⟩, ?_⟩
    by_cases h : x.fmod (1 + (j : Nat)) = 0
    · simp [h] at a
      simpa [h0, h] using a
    · simp [h] at a
      simpa [h0, h] using a
  rw [range_one, mult_map]
  have mn0 := mults_ne (P := 1 + (j : Nat)) (by omega) (by omega)
  have ml := mults_len (1 + (j : Nat))
  rw [show (List.filter (fun x => decide (x.fmod (1 + (j : Nat)) = 0)) (rangeI 1 12)) = mults (1 + (j : Nat)) from rfl]
  generalize hms : mults (1 + (j : Nat)) = ms at mn0 ml
  simp [hc1]
  refine ⟨⟨_, rfl, by simpa using mn0, by simp; omega⟩, ?_⟩
  rintro v c2 hc2 ⟨m, d, e, hd, rfl⟩
  cases e
  obtain ⟨st, hst, rfl⟩ := List.mem_map.mp hd
  rw [← hms, mults_mem] at hst
  clear hd mn0 ml hms
  have sok := step_mult g.ok (by omega) sj hst.2
  simp
  refine hk _ ?_
  clear hk
  clear K
  refine seq_k fun K hk => ?_
  simp [hc2]
  refine ⟨⟨_, rfl, by simp, by simp⟩, ?_⟩
  rintro v c3 hc3 ⟨many, k1, e, rfl, k10, k11⟩
  cases e
  simp [hc3]
  refine ⟨⟨_, rfl, by simp, by simp⟩, ?_⟩
  rintro v c4 hc4 ⟨many, k2, e, rfl, k20, k21⟩
  cases e
  simp [hc4]
  refine ⟨⟨_, rfl, by simp, by simp⟩, ?_⟩
  rintro v c5 hc5 ⟨m, d, e, hd, rfl⟩
  cases e
  have hlo : ∃ lo : Option Int, d = encO lo ∧ ∀ l, lo = some l → -1000000000 ≤ l ∧ l ≤ 1000000000 := by
    simp at hd
    rcases hd with rfl | rfl | rfl | rfl
    · exact ⟨none, rfl, fun l e => by cases e⟩
    · exact ⟨some _, rfl, fun l e => by cases e; omega⟩
    · exact ⟨some _, rfl, fun l e => by cases e; omega⟩
    · exact ⟨some _, rfl, fun l e => by cases e; omega⟩
  obtain ⟨lo, rfl, hlo⟩ := hlo
  clear hd
  simp
  refine hk _ ?_
  clear hk
  clear K
  refine seq_k fun K hk => ?_
  simp [hc5]
  refine ⟨⟨_, rfl, by simp, by simp⟩, ?_⟩
  rintro v c6 hc6 ⟨many, k3, e, rfl, k30, k31⟩
  cases e
  simp [hc6]
  refine ⟨⟨_, rfl, by simp, by simp⟩, ?_⟩
  rintro v c7 hc7 ⟨m, d, e, hd, rfl⟩
  cases e
  have hhi : ∃ hi : Option Int, d = encO hi ∧ ∀ l, hi = some l → -1000000000 ≤ l ∧ l ≤ 1000000000 := by
    simp at hd
    rcases hd with rfl | rfl | rfl | rfl
    · exact ⟨none, rfl, fun l e => by cases e⟩
    · exact ⟨some _, rfl, fun l e => by cases e; omega⟩
    · exact ⟨some _, rfl, fun l e => by cases e; omega⟩
    · exact ⟨some _, rfl, fun l e => by cases e; omega⟩
  obtain ⟨hi, rfl, hhi⟩ := hhi
  clear hd
  simp [hc7]
  refine ⟨⟨_, rfl, by omega, by omega⟩, ?_⟩
  rintro v c8 hc8 ⟨many, re, e, rfl, r0, r1⟩
  cases e
  simp
  refine hk _ ?_
  clear hk
  clear K
  obtain ⟨p, hpe⟩ : ∃ p : Part, p = ⟨lo, hi, st, re⟩ := ⟨_, rfl⟩
  have enc : PyData.tuple [encO lo, encO hi, .int st, .int re] = p.enc := by rw [hpe]; rfl
  have hp : p.ok := by rw [hpe]; exact ⟨hst.1.1, hst.1.2, r0, r1⟩
  have hpl : p.lo = lo := by rw [hpe]
  have hph : p.hi = hi := by rw [hpe]
  have hps : p.st = st := by rw [hpe]
  have fits := part_fits hp (by rw [hpl]; exact hlo) (by rw [hph]; exact hhi)
  have sm : ∀ o : Option Int, (∀ l, o = some l → -1000000000 ≤ l ∧ l ≤ 1000000000) → smallO o := fun o h => by
    cases o with
    | none => trivial
    | some l =>
      have := h l rfl
      simp only [smallO]
      omega
  have sok2 : stepOk t p.st = true := by rw [hps]; exact sok
  have hst0 : p.st ≠ 0 := by have := hp.st; omega
  rw [enc]
  refine seq_k fun K hk => ?_
  simp
  refine ⟨_, ⟨t, p, rfl, g.ok, by omega, by omega, by rw [hpl]; exact sm _ hlo, by rw [hph]; exact sm _ hhi, rfl⟩, ?_⟩
  simp
  have pl : (placesAll t p).length ≤ 1000000 := by
    have h1 := places_len t p
    have h2 : (placeList t p).length ≤ 3 + t.leaves.length := by
      have := List.length_filterMap_le placeOf t.leaves
      have a : ∀ o : Option Int, o.toList.length ≤ 1 := fun o => by cases o <;> simp
      have := a p.lo
      have := a p.hi
      simp only [placeList, List.length_append, List.length_cons]
      omega
    omega
  refine lc_filter (dueD t p) _ (fun d hd A B a => ?_) (by rw [sl_eq, List.length_map]; omega) ?_
  · obtain ⟨y, hy, rfl⟩ := List.mem_map.mp hd
    simp only [dueD] at a
    simp
    refine ⟨_, ⟨p, y, rfl, hst0, rfl⟩, ?_⟩
    cases h1 : inB p y
    · simpa [h1] using a
    · simp
      refine ⟨_, ⟨1, t, [y], rfl, by omega, g.ok, by omega, rfl⟩, ?_⟩
      cases h2 : t.at [y] <;> simpa [h1, h2] using a
  rw [due_map]
  simp
  refine hk _ ?_
  clear hk
  clear K
  have tp := told_places hp g.ok sok2
  have tf := fits_ok g.ok (n := 1) (by omega) (by omega)
  simp
  refine .inr (.inr (.inr ⟨t, p, rfl, tf, fits, g.ok, by omega, by omega, by omega, sok2, ?_⟩))
  simp
  refine ⟨_, ⟨_, _, t, p, rfl, g.ok, by omega, hst0, rfl⟩, ?_⟩
  rw [tp]
  exact ⟨⟨rfl, rfl⟩, hq _ _ hc8 rfl⟩
end DL
end L2
set_option Elab.async false
set_option maxRecDepth 100000
set_option maxHeartbeats 1000000
/-! The head, part 1: a Hook with one more truth; facts about errors; defs never called. -/
namespace L2
open PySem PySem.Spec PyProof.Rows
namespace DL
/-! ### the Hook -/
abbrev AlQ : Type := He.AlD × Bool
def obsQ (n : Nat) (fa : List He.Fa) (fn : List He.DefD) (ex : PySem.W.Frag → Bool) (g : Addr → Option Obj) : AlQ := (He.obsD fa fn (He.frG g (He.asD g n)), ex (He.frG g (He.asD g n)))
structure SaysQ (fa : List He.Fa) (fn : List He.DefD) (ex : PySem.W.Frag → Bool) (K : PySem.W.Frag) : Prop where
  d : He.SaysD fa fn K
  more : ex K = true
def hookQ (n : Nat) (fa : List He.Fa) (fn : List He.DefD) (ex : PySem.W.Frag → Bool) : PySem.W.Hook where
  α := AlQ
  obs := fun s => obsQ n fa fn ex s.heap.get?
  val := fun _ => (He.valD fn, true)
  says := fun _ h => ∃ K : PySem.W.Frag, K.In h ∧ SaysQ fa fn ex K
  of := fun _ _ e => ⟨_, He.frG_in, ⟨congrArg (fun z : AlQ => z.1) e, congrArg (fun z : AlQ => z.2) e⟩⟩
  keeps := fun _ _ _ ⟨K, hK, c⟩ k => ⟨K, PySem.W.Frag.In.keeps hK k, c⟩
theorem obsQ_eq {n : Nat} {fa : List He.Fa} {fn : List He.DefD} {ex : PySem.W.Frag → Bool} {g : Addr → Option Obj} {s : Shared} (h : ∀ a, g a = s.heap.get? a) : obsQ n fa fn ex g = (hookQ n fa fn ex).obs s := by
  have e : g = s.heap.get? := funext h
  rw [e] <;> rfl
/-! ### errors -/
/-- what isinstance tells of errors, from a list -/
def tblOf (l : List (Str × Str × Bool)) (nm c : Str) : Option Bool := (l.find? fun p => decide (p.1 = nm) && decide (p.2.1 = c)).map (·.2.2)
def excB (K : PySem.W.Frag) (D : Addr) : Bool :=
  He.eqO (PySem.W.findIn K (.ref D) "__getattribute__") (some (some (.builtin "BaseException.__getattribute__"))) && (He.eqO (PySem.W.findIn K (.ref D) "__getattr__") (some none) &&
  (decide (PySem.W.subIn K (.ref D) (.type "BaseException") = some true) && (PySem.W.hasDictIn K D && (He.eqO (PySem.W.findIn K (.ref D) "__class__") (some (some (.builtin "object.__class__"))) &&
  (He.eqO (PySem.W.specialIn K (.builtin "object.__class__") "__get__") (some (some (.builtin "getset_descriptor.__get__"))) && (decide (PySem.W.takesIn K (.builtin "object.__class__") = some true) && decide (PySem.W.mroIn K D (.type "object") = some true)))))))
theorem excB_ok {K : PySem.W.Frag} {D : Addr} (h : excB K D = true) : ExcC K D := by
  unfold excB at h
  simp only [Bool.and_eq_true, decide_eq_true_eq] at h
  obtain ⟨h1, h2, h3, h4, h5, h6, h7, h8⟩ := h
  exact ⟨He.eqO_ok h1, He.eqO_ok h2, h3, h4, He.eqO_ok h5, He.eqO_ok h6, h7, h8⟩
def tabB (l : List (Str × Str × Bool)) (K : PySem.W.Frag) : Bool := l.all fun p => (He.Fa.glo p.1).ok K && ((He.Fa.glo p.2.1).ok K && (decide (PySem.W.exmOne K (.ref (He.ga K p.1)) (.ref (He.ga K p.2.1)) = some p.2.2) &&
  (decide (PySem.W.kitOne K (.ref (He.ga K p.1)) (.ref (He.ga K p.2.1)) = some p.2.2) && excB K (He.ga K p.1))))
theorem tabB_ok {l : List (Str × Str × Bool)} {K : PySem.W.Frag} {h : Heap} {mg : Str → Option Value} (X : K.In h) (G : h.Ns mainGlobals mg) (c : tabB l K = true) : ExF K mg (tblOf l) := by
  intro nm cl b e
  unfold tblOf at e
  cases q : l.find? fun p => decide (p.1 = nm) && decide (p.2.1 = cl) with
  | none => rw [q] at e; cases e
  | some p =>
    rw [q] at e
    cases e
    have h1 := List.mem_of_find?_eq_some q
    have h2 := List.find?_some q
    simp only [Bool.and_eq_true, decide_eq_true_eq] at h2
    obtain ⟨rfl, rfl⟩ := h2
    have h3 := List.all_eq_true.mp c p h1
    simp only [Bool.and_eq_true, decide_eq_true_eq] at h3
    obtain ⟨g1, g2, g3, g4, g5⟩ := h3
    exact ⟨_, _, He.glo_ok X G g1, He.glo_ok X G g2, g3, g4, excB_ok g5⟩
section
variable {P : Program} {w : World} {K : PySem.W.Frag} {mg : Str → Option Value} {base : Heap} {h : Heap} {x qual : Str} {params : Arguments} {body : List Stmt} {scope : Scope} {f : Addr} {fd : FuncData} {N ps : List Str} {k m : Nat} {fi : FI}
theorem glob_exc (X : K.In h) (G : h.Ns mainGlobals mg) {C : Str} (c1 : (He.Fa.glo C).ok K = true) (c2 : (He.Fa.exc C).ok K = true) : GlobOk P w K mg base k C .exc := by
  obtain ⟨h1, h2, h3, h4⟩ := He.exc_ok c2
  exact ⟨_, He.glo_ok X G c1, h1, h2, h3, h4⟩
theorem glob_int (X : K.In h) (G : h.Ns mainGlobals mg) {x : Str} {i : Int} (c : (He.Fa.int x i).ok K = true) : GlobOk P w K mg base k x (.cst (.int i)) := by
  obtain ⟨t, e⟩ := He.int_ok X G c
  exact ⟨.int i, _, e, ⟨t, rfl⟩, fun F => .int i⟩
theorem glob_blt (X : K.In h) (G : h.Ns mainGlobals mg) {x : Str} (c : (He.Fa.free x).ok K = true) : GlobOk P w K mg base k x .blt := He.free_ok X G c
/-- a def that nobody calls so -/
theorem glob_vac (F : FunD K x qual params body scope [] [] f fd) (hm : mg x = some (.ref f)) (S : FnScope N ps scope) (hb : Binds K fd ps []) (no : ∀ ds Q X, ds.length = fi.n → fi.sp ds Q X → False) : GlobOk P w K mg base (k + 1) x (.fn fi) := by
  refine ⟨f, fd, ps, F.ok S (fun vs H Q E h => ?_) (fun cdv A outer s H vs Q E hr h => ?_), hm, F.kp, hb⟩
  · obtain ⟨Fz, ds, Wx, Qd, g, hv, hd, args, hs, q, xo⟩ := h
    exact (no ds Qd Wx hd hs).elim
  · obtain ⟨Fz, ds, Wx, Qd, g, hv, hd, args, hs, q, xo⟩ := h
    exact (no ds Qd Wx hd hs).elim
end
end DL
end L2
set_option Elab.async false
set_option maxRecDepth 100000
set_option maxHeartbeats 1000000
/-! Plain part 15: errors. -/
namespace L2
open PySem PySem.Spec PyProof.Rows
namespace DL
abbrev tab55 : List (Str × Str × Bool) := [("InvalidTest", "CountError", true), ("InvalidTest", "InvalidTest", true), ("InvalidTest", "InvalidPart", false), ("InvalidPart", "CountError", true), ("InvalidPart", "InvalidTest", false), ("InvalidPart", "InvalidPart", true)]
theorem tab55_1 : tblOf tab55 "InvalidTest" "CountError" = some true := by decide +kernel
theorem tab55_2 : tblOf tab55 "InvalidTest" "InvalidTest" = some true := by decide +kernel
theorem tab55_3 : tblOf tab55 "InvalidTest" "InvalidPart" = some false := by decide +kernel
theorem tab55_4 : tblOf tab55 "InvalidPart" "CountError" = some true := by decide +kernel
theorem tab55_5 : tblOf tab55 "InvalidPart" "InvalidTest" = some false := by decide +kernel
theorem tab55_6 : tblOf tab55 "InvalidPart" "InvalidPart" = some true := by decide +kernel
def g__law_refused (ds : List D) (Q : Rv → D → Prop) (_ : XW) : Prop :=
  (∃ v p, ds = [v, p] ∧ v.canLay0 = true ∧ testFits 1 v = false ∧ Q (.f (.list [.bool true, .bool false])) .none) ∨
  (∃ (t : Tt) (p : D), ds = [t.enc, p] ∧ testFits 1 t.enc = true ∧ noDct p = true ∧ partFits p = false ∧ Q (.f (.list [.bool false, .bool true])) .none) ∨
  (∃ (t : Tt) (p : Part), ds = [t.enc, p.enc] ∧ testFits 1 t.enc = true ∧ partFits p.enc = true ∧ t.ok 1 ∧ t.size ≤ 1000000 ∧ stepOk t p.st = false ∧ Q (.f (.list [.bool false, .bool true])) .none)
abbrev f__law_refused : FI := ⟨2, none, g__law_refused⟩
/-- the reading of a def that catches -/
abbrev ReadsTry (fi : FI) (m : Nat) (tbl : Str → Str → Option Bool) (c : Str) (h : (Str → Option Bool) → Option HV) (w v : WS) : Prop := ∀ ds (Qd : Rv → D → Prop) X, ds.length = fi.n → fi.sp ds Qd X →
  w (xTry tbl c (fun nm => h (tbl nm)) (fun r => Qd r .none) X) ⟨v X ⟨fun σ => Qd (.d .none) .none, fun r σ => Qd r .none, fun _ => False, fun _ => False⟩, fun r σ => Qd r .none, fun _ => False, fun _ => False⟩ (startD fi.ix m 0 ds)
theorem r__law_refused (k : Nat) : ReadsTry f__law_refused 1 (tblOf tab55) "CountError" h__law_refused (w__law_refused (f_false_on k)) (v__law_refused (f_false_on k)) := by
  intro ds Q X hl h
  have a1 : (xTry (tblOf tab55) "CountError" (fun nm => h__law_refused (tblOf tab55 nm)) (fun r => Q r .none) X "InvalidTest") ↔ Q (.f (.list [.bool true, .bool false])) .none := by
    unfold xTry h__law_refused
    simp [tab55_1, tab55_2, tab55_3, hvL, HV.fits, HV.rv]
  have a2 : (xTry (tblOf tab55) "CountError" (fun nm => h__law_refused (tblOf tab55 nm)) (fun r => Q r .none) X "InvalidPart") ↔ Q (.f (.list [.bool false, .bool true])) .none := by
    unfold xTry h__law_refused
    simp [tab55_4, tab55_5, tab55_6, hvL, HV.fits, HV.rv]
  rcases h with ⟨v, p, rfl, h1, h2, h3⟩ | ⟨t, p, rfl, h1, h2, h3, h4⟩ | ⟨t, p, rfl, h1, h2, ok, hz, h3, h4⟩
  · simp [w__law_refused]
    exact .inl ⟨v, p, rfl, h1, h2, a1.mpr h3⟩
  · simp [w__law_refused]
    exact .inr (.inl ⟨t, p, rfl, h1, h2, h3, a2.mpr h4⟩)
  · simp [w__law_refused]
    exact .inr (.inr (.inl ⟨t, p, rfl, h1, h2, ok, hz, h3, a2.mpr h4⟩))
/-! ### lists of truths -/
@[simp] theorem ne_bb {a b c d : Bool} {Q : Rv → Prop} : pNe (.list [.bool a, .bool b]) (.list [.bool c, .bool d]) Q ↔ Q (.d (.bool (!(a == c && b == d)))) := by
  unfold pNe CmpOk
  cases a <;> cases b <;> cases c <;> cases d <;> simp [PyData.eqv, PyData.eqvAll, PyData.depth, PyData.depthAll, PyData.canLay0, PyData.canLayAll0]
@[simp] theorem eq_bb {a b c d : Bool} {Q : Rv → Prop} : pEq (.list [.bool a, .bool b]) (.list [.bool c, .bool d]) Q ↔ Q (.d (.bool (a == c && b == d))) := by
  unfold pEq CmpOk
  cases a <;> cases b <;> cases c <;> cases d <;> simp [PyData.eqv, PyData.eqvAll, PyData.depth, PyData.depthAll, PyData.canLay0, PyData.canLayAll0]
/-! ### written ones -/
theorem told_due {t : Tt} {p : Part} (hp : p.ok) (ok : t.ok 1) (hs : stepOk t p.st = true) {due : List Int} (h : due = [] ↔ ∀ x, InPart p x → t.at [x] = true) : isTold (firstFalse t p) due t p = true := by
  cases e : firstFalse t p with
  | none =>
    have := h.mpr fun x hx => ff_none hp ok hs e hx
    simp [isTold, this]
  | some x =>
    obtain ⟨a, b⟩ := ff_some hp e
    have c : due ≠ [] := fun z => by
      have := h.mp z x a
      rw [b] at this
      cases this
    simp [isTold, (inB_iff hp).mpr a, b]
    exact c
structure Asked (t : Tt) (p : Part) (b : Bool) : Prop where
  ok : t.ok 1
  deep : t.deep ≤ 3
  size : t.size ≤ 100
  len : t.leaves.length < 64
  pok : p.ok
  pf : partFits p.enc = true
  st : stepOk t p.st = true
  due : b = false ↔ ∀ x, InPart p x → t.at [x] = true
abbrev m1 (c k : Int) : Tt := .most [c] k
abbrev d1 (m c k : Int) : Tt := .div m [c] k
def manyT : Nat → Tts
  | 0 => .nil
  | n + 1 => .cons (m1 1 5) (manyT n)
theorem many_enc : ∀ n, (manyT n).enc = (List.replicate n [(m1 1 5).enc]).flatten
  | 0 => rfl
  | n + 1 => by
    rw [List.replicate_succ, List.flatten_cons]
    simp [manyT, Tts.enc, many_enc n]
theorem many_at (x : Int) : ∀ n, (manyT (n + 1)).allAt [x] = decide (x ≤ 5)
  | 0 => by simp [manyT, Tts.allAt, Tt.at, dot]
  | n + 1 => by
    have := many_at x n
    rw [manyT, Tts.allAt, this]
    simp [Tt.at, dot]
theorem many_ok : ∀ n, (manyT n).ok 1 ∧ (manyT n).len = n ∧ (manyT n).deep ≤ 1 ∧ (manyT n).size = n ∧ (manyT n).leaves.length = n ∧ ∀ u ∈ (manyT n).leaves, u = m1 1 5
  | 0 => ⟨trivial, rfl, by simp [manyT, Tts.deep], rfl, rfl, fun u h => by cases h⟩
  | n + 1 => by
    obtain ⟨h1, h2, h3, h4, h5, h6⟩ := many_ok n
    refine ⟨⟨⟨rfl, fun x hx => by rw [List.mem_singleton.mp hx]; omega, by omega, by omega⟩, h1⟩, ?_, ?_, ?_, ?_, ?_⟩
    · simp only [manyT, Tts.len]; omega
    · simp only [manyT, Tts.deep, Tt.deep]; omega
    · simp only [manyT, Tts.size, Tt.size]; omega
    · simp only [manyT, Tts.leaves, Tt.leaves, List.length_append, List.length_singleton]; omega
    · intro u hu
      simp only [manyT, Tts.leaves, Tt.leaves, List.mem_append, List.mem_singleton] at hu
      rcases hu with hu | hu
      · exact hu
      · exact h6 u hu
def askL : List (Tt × Part × Bool) := ([1, 7, 8, 9, 10, 11, 12].map fun one : Int => (d1 one 1 1, ⟨none, none, one, 0⟩, decide (one > 1))) ++
  [(.all .nil, ⟨none, none, 12, 5⟩, false), (.any .nil, ⟨none, none, 12, 5⟩, true), (.any .nil, ⟨some 3, some 2, 1, 0⟩, false)] ++
  [(.all (manyT 40), ⟨some 0, some 7, 1, 0⟩, true), (m1 1 0, ⟨some 1000000000, none, 1, 0⟩, true)] ++
  [(m1 (-1) 0, ⟨none, some (-1000000000), 1, 0⟩, true), (m1 1 0, ⟨some 1000000000, some (-1000000000), 1, 0⟩, false)]
def askD (a : Tt × Part × Bool) : D := .tuple [a.1.enc, a.2.1.enc, .bool a.2.2]
theorem ok_m1 {c k : Int} (h1 : -10 ≤ c) (h2 : c ≤ 10) (h3 : -10 ≤ k) (h4 : k ≤ 10) : (m1 c k).ok 1 := ⟨rfl, fun x hx => by rw [List.mem_singleton.mp hx]; omega, by omega, by omega⟩
theorem ok_d1 {m c k : Int} (h0 : 1 ≤ m) (h5 : m ≤ 100) (h1 : -10 ≤ c) (h2 : c ≤ 10) (h3 : -10 ≤ k) (h4 : k ≤ 10) : (d1 m c k).ok 1 := ⟨⟨h0, by omega⟩, rfl, fun x hx => by rw [List.mem_singleton.mp hx]; omega, by omega, by omega⟩
theorem pf_ok {lo hi : Option Int} {st re : Int} (h : Part.ok ⟨lo, hi, st, re⟩) (hl : ∀ l, lo = some l → -1000000000 ≤ l ∧ l ≤ 1000000000) (hh : ∀ h, hi = some h → -1000000000 ≤ h ∧ h ≤ 1000000000) : partFits (Part.enc ⟨lo, hi, st, re⟩) = true := part_fits h hl hh
theorem ask_ok : ∀ a ∈ askL, Asked a.1 a.2.1 a.2.2 := by
  intro a ha
  have pk : ∀ {lo hi : Option Int} {st re : Int}, 1 ≤ st → st ≤ 12 → 0 ≤ re → re < st → Part.ok ⟨lo, hi, st, re⟩ := fun a b c d => ⟨a, b, c, d⟩
  have oo : ∀ {o : Option Int}, o = none → ∀ l, o = some l → -1000000000 ≤ l ∧ l ≤ 1000000000 := fun e l h => by rw [e] at h; cases h
  have os : ∀ {o : Option Int} {z : Int}, o = some z → -1000000000 ≤ z → z ≤ 1000000000 → ∀ l, o = some l → -1000000000 ≤ l ∧ l ≤ 1000000000 := fun e h1 h2 l h => by rw [e] at h; cases h; exact ⟨h1, h2⟩
  unfold askL at ha
  simp only [List.mem_append, List.mem_map] at ha
  rcases ha with ((⟨one, h1, rfl⟩ | ha) | ha) | ha
  · have h2 : 1 ≤ one ∧ one ≤ 12 := by
      simp at h1
      omega
    dsimp only
    refine ⟨ok_d1 h2.1 (by omega) (by omega) (by omega) (by omega) (by omega), by simp [Tt.deep], by simp [Tt.size], by simp [Tt.leaves], pk h2.1 h2.2 (by omega) (by omega), pf_ok (pk h2.1 h2.2 (by omega) (by omega)) (oo rfl) (oo rfl), ?_, ?_⟩
    · simp [stepOk, Tt.leaves, Int.fmod_self]
    · simp only [Tt.at, dot]
      constructor
      · intro h x hx
        have : one = 1 := by
          simp at h
          omega
        subst this
        simp [Int.emod_one]
      · intro h
        have := h 0 ⟨fun _ e => (by cases e), fun _ e => (by cases e), by simp⟩
        simp at this
        by_cases h3 : one > 1
        · rw [Int.emod_eq_of_lt (by omega) (by omega)] at this
          omega
        · simpa using h3
  · simp only [List.mem_cons, List.not_mem_nil, or_false] at ha
    rcases ha with rfl | rfl | rfl
    · exact ⟨⟨trivial, by simp [Tts.len]⟩, by simp [Tt.deep, Tts.deep], by simp [Tt.size, Tts.size], by simp [Tt.leaves, Tts.leaves], pk (by omega) (by omega) (by omega) (by omega), pf_ok (pk (by omega) (by omega) (by omega) (by omega)) (oo rfl) (oo rfl), by simp [stepOk, Tt.leaves, Tts.leaves], by simp [Tt.at, Tts.allAt]⟩
    · refine ⟨⟨trivial, by simp [Tts.len]⟩, by simp [Tt.deep, Tts.deep], by simp [Tt.size, Tts.size], by simp [Tt.leaves, Tts.leaves], pk (by omega) (by omega) (by omega) (by omega), pf_ok (pk (by omega) (by omega) (by omega) (by omega)) (oo rfl) (oo rfl), by simp [stepOk, Tt.leaves, Tts.leaves], ?_⟩
      simp only [Tt.at, Tts.anyAt]
      refine ⟨fun h => (by cases h), fun h => ?_⟩
      have := h 5 ⟨fun _ e => (by cases e), fun _ e => (by cases e), by decide⟩
      cases this
    · refine ⟨⟨trivial, by simp [Tts.len]⟩, by simp [Tt.deep, Tts.deep], by simp [Tt.size, Tts.size], by simp [Tt.leaves, Tts.leaves], pk (by omega) (by omega) (by omega) (by omega), pf_ok (pk (by omega) (by omega) (by omega) (by omega)) (os rfl (by omega) (by omega)) (os rfl (by omega) (by omega)), by simp [stepOk, Tt.leaves, Tts.leaves], ?_⟩
      refine ⟨fun _ x hx => ?_, fun _ => rfl⟩
      have a := hx.lo 3 rfl
      have b := hx.hi 2 rfl
      omega
  · simp only [List.mem_cons, List.not_mem_nil, or_false] at ha
    rcases ha with rfl | rfl
    · obtain ⟨h1, h2, h3, h4, h5, h6⟩ := many_ok 40
      refine ⟨⟨h1, by omega⟩, by simp only [Tt.deep]; omega, by simp only [Tt.size]; omega, by simp only [Tt.leaves]; omega, pk (by omega) (by omega) (by omega) (by omega), pf_ok (pk (by omega) (by omega) (by omega) (by omega)) (os rfl (by omega) (by omega)) (os rfl (by omega) (by omega)), ?_, ?_⟩
      · unfold stepOk
        rw [List.all_eq_true]
        intro u hu
        rw [h6 u hu]
      · simp only [Tt.at, many_at]
        refine ⟨fun h => (by cases h), fun h => ?_⟩
        have := h 6 ⟨fun _ e => (by cases e; omega), fun _ e => (by cases e; omega), by decide⟩
        simp at this
    · refine ⟨ok_m1 (by omega) (by omega) (by omega) (by omega), by simp [Tt.deep], by simp [Tt.size], by simp [Tt.leaves], pk (by omega) (by omega) (by omega) (by omega), pf_ok (pk (by omega) (by omega) (by omega) (by omega)) (os rfl (by omega) (by omega)) (oo rfl), by simp [stepOk, Tt.leaves], ?_⟩
      simp only [Tt.at, dot]
      refine ⟨fun h => (by cases h), fun h => ?_⟩
      have := h 1000000000 ⟨fun _ e => (by cases e; omega), fun _ e => (by cases e), by decide⟩
      simp at this
  · simp only [List.mem_cons, List.not_mem_nil, or_false] at ha
    rcases ha with rfl | rfl
    · refine ⟨ok_m1 (by omega) (by omega) (by omega) (by omega), by simp [Tt.deep], by simp [Tt.size], by simp [Tt.leaves], pk (by omega) (by omega) (by omega) (by omega), pf_ok (pk (by omega) (by omega) (by omega) (by omega)) (oo rfl) (os rfl (by omega) (by omega)), by simp [stepOk, Tt.leaves], ?_⟩
      simp only [Tt.at, dot]
      refine ⟨fun h => (by cases h), fun h => ?_⟩
      have := h (-1000000000) ⟨fun _ e => (by cases e), fun _ e => (by cases e; omega), by decide⟩
      simp at this
    · refine ⟨ok_m1 (by omega) (by omega) (by omega) (by omega), by simp [Tt.deep], by simp [Tt.size], by simp [Tt.leaves], pk (by omega) (by omega) (by omega) (by omega), pf_ok (pk (by omega) (by omega) (by omega) (by omega)) (os rfl (by omega) (by omega)) (os rfl (by omega) (by omega)), by simp [stepOk, Tt.leaves], ?_⟩
      refine ⟨fun _ x hx => ?_, fun _ => rfl⟩
      have a := hx.lo 1000000000 rfl
      have b := hx.hi (-1000000000) rfl
      omega
/-- what is refused: a test, and no part for it -/
structure Odd (t : Tt) (d : D) : Prop where
  fit : testFits 1 t.enc = true
  bad : (noDct d = true ∧ partFits d = false) ∨ ∃ p : Part, d = p.enc ∧ partFits p.enc = true ∧ t.ok 1 ∧ t.size ≤ 1000000 ∧ stepOk t p.st = false
theorem Odd.refused {t : Tt} {d : D} (h : Odd t d) {Q : Rv → D → Prop} {X : XW} (q : Q (.f (.list [.bool false, .bool true])) .none) : g__law_refused [t.enc, d] Q X := by
  rcases h.bad with ⟨h1, h2⟩ | ⟨p, rfl, h1, h2, h3, h4⟩
  · exact .inr (.inl ⟨t, d, rfl, h.fit, h1, h2, q⟩)
  · exact .inr (.inr ⟨t, p, rfl, h.fit, h1, h2, h3, h4, q⟩)
abbrev t23 : Tt := .all (.cons (d1 2 1 0) (.cons (d1 3 1 0) .nil))
abbrev t32 : Tt := .any (.cons (d1 3 1 0) (.cons (d1 2 1 0) .nil))
def oddL : List (Tt × D) := ([2, 3, 4, 9].map fun one : Int => (t23, Part.enc ⟨none, none, one, 0⟩)) ++ ([2, 3, 8].map fun one : Int => (t32, Part.enc ⟨none, none, one, 0⟩)) ++
  ([.tuple [.none, .none, .bool true, .int 0], .tuple [.none, .none, .int 1, .bool false], .tuple [.none, .bool true, .int 1, .int 0], .tuple [.none, .none, .int 1, .int 0, .int 0], .tuple [.none, .none, .int 1]].map fun d => (m1 1 0, d)) ++
  ([.tuple [.int (-1000000001), .none, .int 1, .int 0], .tuple [.none, .int 1000000001, .int 1, .int 0]].map fun d => (m1 1 0, d))
def oddD (a : Tt × D) : D := .tuple [a.1.enc, a.2]
theorem odd_ok : ∀ a ∈ oddL, Odd a.1 a.2 := by
  have k1 : t23.ok 1 := ⟨⟨ok_d1 (by omega) (by omega) (by omega) (by omega) (by omega) (by omega), ok_d1 (by omega) (by omega) (by omega) (by omega) (by omega) (by omega), trivial⟩, by simp [Tts.len]⟩
  have k2 : t32.ok 1 := ⟨⟨ok_d1 (by omega) (by omega) (by omega) (by omega) (by omega) (by omega), ok_d1 (by omega) (by omega) (by omega) (by omega) (by omega) (by omega), trivial⟩, by simp [Tts.len]⟩
  have k3 : (m1 1 0).ok 1 := ok_m1 (by omega) (by omega) (by omega) (by omega)
  have f1 : testFits 1 t23.enc = true := fits_ok (n := 1) k1 (by simp [Tt.deep, Tts.deep]) (by simp [Tt.size, Tts.size])
  have f2 : testFits 1 t32.enc = true := fits_ok (n := 1) k2 (by simp [Tt.deep, Tts.deep]) (by simp [Tt.size, Tts.size])
  have f3 : testFits 1 (m1 1 0).enc = true := fits_ok (n := 1) k3 (by simp [Tt.deep]) (by simp [Tt.size])
  intro a ha
  unfold oddL at ha
  simp only [List.mem_append, List.mem_map, List.mem_cons, List.not_mem_nil, or_false] at ha
  rcases ha with ((⟨one, h, rfl⟩ | ⟨one, h, rfl⟩) | ⟨d, h, rfl⟩) | ⟨d, h, rfl⟩
  · refine ⟨f1, .inr ⟨_, rfl, ?_, k1, by simp [Tt.size, Tts.size], ?_⟩⟩
    · rcases h with rfl | rfl | rfl | rfl <;> rfl
    · rcases h with rfl | rfl | rfl | rfl <;> decide
  · refine ⟨f2, .inr ⟨_, rfl, ?_, k2, by simp [Tt.size, Tts.size], ?_⟩⟩
    · rcases h with rfl | rfl | rfl <;> rfl
    · rcases h with rfl | rfl | rfl <;> decide
  · refine ⟨f3, .inl ?_⟩
    rcases h with rfl | rfl | rfl | rfl | rfl <;> exact ⟨rfl, rfl⟩
  · refine ⟨f3, .inl ?_⟩
    rcases h with rfl | rfl <;> exact ⟨rfl, rfl⟩
def g__law_written (ds : List D) (r : Rv) : Prop := ds = [] ∧ r = .d (.bool true)
abbrev f__law_written : FI := fnT 0 g__law_written
end DL
end L2
set_option Elab.async false
set_option maxRecDepth 100000
set_option maxHeartbeats 1000000
/-! Plain part 16: the written tests and parts. -/
namespace L2
open PySem PySem.Spec PyProof.Rows
namespace DL
theorem many_flat : (List.replicate 40 [PyData.tuple [.str "most", .tuple [.int 1], .int 5]]).flatten = (manyT 40).enc := (many_enc 40).symm
@[simp] theorem q_mult {l : List D} {k : Int} {Q : Rv → Prop} : pMulA (.tuple l) (.int k) Q ↔ l ≠ [] ∧ 2 ≤ k ∧ k.toNat * l.length ≤ sizeLine ∧ Q (.d (.tuple (List.replicate k.toNat l).flatten)) := Iff.rfl
abbrev askV : Sl := .val (.list (askL.map askD))
theorem ask_D : [askD (d1 1 1 1, ⟨none, none, 1, 0⟩, false), askD (d1 7 1 1, ⟨none, none, 7, 0⟩, true), askD (d1 8 1 1, ⟨none, none, 8, 0⟩, true), askD (d1 9 1 1, ⟨none, none, 9, 0⟩, true), askD (d1 10 1 1, ⟨none, none, 10, 0⟩, true), askD (d1 11 1 1, ⟨none, none, 11, 0⟩, true), askD (d1 12 1 1, ⟨none, none, 12, 0⟩, true)] = ([1, 7, 8, 9, 10, 11, 12].map fun one : Int => (d1 one 1 1, (⟨none, none, one, 0⟩ : Part), decide (one > 1))).map askD := by simp
theorem r__law_written (k : Nat) (hk3 : 3 ≤ k) : Reads f__law_written 8 (w__law_written (f__law_is_told k) (f_false_on k) f__law_refused) := reads_T fun ds r e Q X hq => by
  obtain ⟨rfl, rfl⟩ := e
  unfold w__law_written
  refine seq_k fun K hk => ?_
  simp
  refine lc_map (fun d => match d with
    | .int one => askD (d1 one 1 1, ⟨none, none, one, 0⟩, decide (one > 1))
    | _ => .none) _ (fun d hd A B a => ?_) (by rw [sl_eq]; simp) ?_
  · simp at hd
    rcases hd with rfl | rfl | rfl | rfl | rfl | rfl | rfl <;> simpa [askD, Tt.enc, Part.enc, encI] using a
  simp
  refine hk _ ?_
  clear hk
  clear K
  refine seq_k fun K hk => ?_
  simp
  refine hk _ ?_
  clear hk
  clear K
  refine seq_k fun K hk => ?_
  simp only [many_flat, s_set, s_w2, s_obr, s_oex, s_lst, s_os1, s_os0, s_tup, s_c, s_dzd, q_mult]
  simp [many_flat]
  refine hk _ ?_
  clear hk
  clear K
  refine seq_k fun K hk => ?_
  simp
  refine hk _ ?_
  clear hk
  clear K
  refine seq_k fun K hk => ?_
  simp
  refine for_inv (fun ds σ => ∃ (l : List (Tt × Part × Bool)) (s1 s2 s3 : Sl), ds = l.map askD ∧ (∀ a ∈ l, Asked a.1 a.2.1 a.2.2) ∧ freeSl (some s1) ∧ freeSl (some s2) ∧ freeSl (some s3) ∧ σ = [askV, s1, s2, s3, .un, .un, .un, .un]) ?_ ?_ _ _ ⟨askL, .un, .un, .un, rfl, ask_ok, trivial, trivial, trivial, rfl⟩
  · rintro d ds σ ⟨l, s1, s2, s3, e, ha, h1, h2, h3, rfl⟩ nx hnx
    rcases l with _ | ⟨⟨t, p, b⟩, l⟩
    · cases e
    simp only [List.map_cons, List.cons.injEq] at e
    obtain ⟨rfl, rfl⟩ := e
    obtain ⟨ok, dp, sz, ln, pok, pf, st, due⟩ := ha (t, p, b) List.mem_cons_self
    dsimp only at ok dp sz ln pok pf st due
    have go := hnx _ ⟨l, .val t.enc, .val p.enc, .val (.bool b), rfl, fun a h => ha a (List.mem_cons_of_mem _ h), trivial, trivial, trivial, rfl⟩
    have tf := fits_ok ok (n := 1) (by omega) (by omega)
    have hst : p.st ≠ 0 := by have := pok.st; omega
    have tl := told_due pok ok st (due := if b = true then [0] else []) (by rw [← due]; cases b <;> simp)
    simp [askD, h1, h2, h3]
    refine .inr (.inr (.inr ⟨t, p, rfl, tf, pf, ok, by omega, by omega, ln, st, ?_⟩))
    simp
    cases b
    · simp at tl ⊢
      refine ⟨_, ⟨firstFalse t p, [], t, p, rfl, ok, by omega, hst, rfl⟩, ?_⟩
      simp [tl]
      exact go
    · simp at tl ⊢
      refine ⟨_, ⟨firstFalse t p, [0], t, p, rfl, ok, by omega, hst, rfl⟩, ?_⟩
      simp [tl]
      exact go
  rintro σ ⟨l, s1, s2, s3, e, ha, h1, h2, h3, rfl⟩
  refine hk _ ?_
  clear hk
  clear K
  clear ha e
  refine seq_k fun K hk => ?_
  simp
  refine hk _ ?_
  clear hk
  clear K
  refine seq_k fun K hk => ?_
  simp
  refine lc_map (fun d => match d with
    | .int one => oddD (t23, Part.enc ⟨none, none, one, 0⟩)
    | _ => .none) _ (fun d hd A B a => ?_) (by rw [sl_eq]; simp) ?_
  · simp at hd
    rcases hd with rfl | rfl | rfl | rfl <;> simpa [oddD, Tt.enc, Tts.enc, Part.enc, encI] using a
  simp
  refine lc_map (fun d => match d with
    | .int one => oddD (t32, Part.enc ⟨none, none, one, 0⟩)
    | _ => .none) _ (fun d hd A B a => ?_) (by rw [sl_eq]; simp) ?_
  · simp at hd
    rcases hd with rfl | rfl | rfl <;> simp [byStep, StepOk] <;> simpa [byStep, oddD, Tt.enc, Tts.enc, Part.enc, encI] using a
  simp
  refine hk _ ?_
  clear hk
  clear K
  refine seq_k fun K hk => ?_
  simp
  refine lc_map (fun d => .tuple [(m1 1 0).enc, d]) _ (fun d hd A B a => ?_) (by rw [sl_eq]; simp) ?_
  · simpa [Tt.enc, encI] using a
  simp
  refine hk _ ?_
  clear hk
  clear K
  refine seq_k fun K hk => ?_
  simp
  refine lc_map (fun d => .tuple [(m1 1 0).enc, d]) _ (fun d hd A B a => ?_) (by rw [sl_eq]; simp) ?_
  · simpa [Tt.enc, encI] using a
  simp
  refine hk _ ?_
  clear hk
  clear K
  simp
  refine ⟨⟨h1, h2⟩, ?_⟩
  refine lc_filter (fun _ => none) (oddL.map oddD) (fun d hd A B a => ?_) (by rw [sl_eq]; simp [oddL]) ?_
  · have hd2 : d ∈ oddL.map oddD := hd
    obtain ⟨⟨t, p⟩, ho, rfl⟩ := List.mem_map.mp hd2
    have od := odd_ok _ ho
    simp [oddD]
    refine od.refused ?_
    simp
    exact a
  · have e : ∀ l : List D, l.filterMap (fun _ => (none : Option D)) = [] := fun l => by
      induction l with
      | nil => rfl
      | cons d l ih => rw [List.filterMap_cons, ih]
    rw [e]
    exact ⟨rfl, hq⟩
end DL
end L2
set_option Elab.async false
set_option maxRecDepth 100000
set_option maxHeartbeats 2000000
/-! The head, part 2: a law's end. -/
namespace L2
open PySem PySem.Spec PyProof.Rows
namespace DL
/-- a law over L2.CX -/
theorem walk_ofW {l : PySem.W.OpenLaw} {n k : Nat} {q : Program} {loose : List Str} {XP : (Str → Option Value) → Heap → Prop} {YP : World → Heap → Prop} {d : DefRec} {x : Str}
    (hn : l.most = some n) (hn2 : n ≤ sizeLine) (hdf : d.params.defaults = []) (hr : Room k callerA)
    (F : ∀ (w : World) (mg : Str → Option Value) (fa : Addr) (h : Heap), YP w h → h.Ns mainGlobals mg → mg d.name = some (.ref fa) →
      ∃ (K : PySem.W.Frag) (fd : FuncData) (sp : Sp), K.In h ∧ (∀ (s : Shared) (u : Value), BindsTo s fd ⟨[u], []⟩ [(x, u)]) ∧
        (∀ (H : Hp) (a : Addr) (ns : List Int), ns.length ≤ n → Only H → SqL K H a (ns.map V.int) → sp [.ref a] H (fun v _ => v = .bl true) fun _ _ _ => False) ∧
        ∀ base : Heap, K.In base → base.Ns mainGlobals mg → FnOk l.prog w K mg base (L2.CX l.prog w) k fa fd [x] sp) :
    PySem.W.WalkO q loose XP YP l.row.toRowW d [] (fun f vs => PySem.call f vs) := by
  refine Att.attach_call hn hdf fun w s₀ s₁ mg mb fa o pm cd doc a vs ns G Y ho hd hcd hmg hobj hints hlen hg => ?_
  obtain ⟨K, fd, sp, KX, hb, hsp, hF⟩ := F w mg fa _ Y G.T.g hmg
  refine law_call KX G.T.g G.T.b G.T.builtins G.T.nolimit hg hobj hints (Nat.le_trans hlen hn2) hr hF hb (fun H hO hS => hsp H a ns hlen hO hS) fun H e s' h => ?_
  obtain ⟨a, B, H', cls, d, _, _, _, _, _, _, _, hE⟩ := h
  exact hE
/-- a law's promise -/
def g_law (ds : List D) (Q : Rv → D → Prop) (_ : XW) : Prop := ∃ ns : List Int, ds = [.list (ns.map .int)] ∧ ns.length ≤ 63 ∧ Q (.d (.bool true)) .none
abbrev f_law : FI := ⟨1, none, g_law⟩
theorem law_sp {K : PySem.W.Frag} {mg : Str → Option Value} {H : Hp} {a : Addr} {ns : List Int} (hl : ns.length ≤ 63) (hS : SqL K H a (ns.map V.int)) : spD K mg f_law [.ref a] H (fun v _ => v = .bl true) fun _ _ _ => False := by
  refine ⟨H, [.list (ns.map .int)], noX, fun r _ => r = .d (.bool true), Grow.refl H, rfl, rfl, ?_, ⟨ns, rfl, hl, rfl⟩, ?_, ?_⟩
  · intro j v d hv hd
    cases j with
    | zero =>
      cases hv
      cases hd
      exact Dp.lst hS (ints_dpa ns)
    | succ j => cases hv
  · intro v r c F' H' _ rr _ e
    subst e
    cases rr
    rfl
  · exact xok_no
end DL
end L2
set_option Elab.async false
set_option maxRecDepth 100000
set_option maxHeartbeats 1000000
/-! Plain part 17: the law. -/
namespace L2
open PySem PySem.Spec PyProof.Rows
namespace DL
theorem gen_goods {t : Tt} {lead most : Int} {divs : List Int} {L : Nat} (g : GenT 1 lead most divs L t) (hd : divs = [5] ∨ ∀ m ∈ divs, m = 2 ∨ m = 3 ∨ m = 4 ∨ m = 6) : ∃ j l, goods t = j :: l ∧ j < 12 ∧ stepOk t (1 + (j : Nat)) = true := by
  have key : ∀ i : Nat, (∀ m ∈ divs, (1 + (i : Int)).fmod m = 0) → stepOk t (1 + (i : Nat)) = true := fun i h => by
    unfold stepOk
    rw [List.all_eq_true]
    intro u hu
    have := g.lv u hu
    cases u with
    | div m row k => exact decide_eq_true (h m this.1)
    | _ => rfl
  rcases hd with rfl | hd
  · exact goods_ne (i := 4) (by omega) (key 4 fun m hm => by rw [List.mem_singleton.mp hm]; rfl)
  · exact goods_ne (i := 11) (by omega) (key 11 fun m hm => by rcases hd m hm with rfl | rfl | rfl | rfl <;> rfl)
theorem win_rg {lo hi : Option Int} (sl : smallO lo) (sh : smallO hi) : RgOk (win lo hi).1 ((win lo hi).2 + 1) ∧ (win lo hi).2 + 1 - (win lo hi).1 ≤ 401 := by
  have core : (-30000000000 ≤ (win lo hi).1 ∧ (win lo hi).1 ≤ 30000000000) ∧ (-30000000000 ≤ (win lo hi).2 ∧ (win lo hi).2 ≤ 30000000000) ∧ (win lo hi).2 + 1 - (win lo hi).1 ≤ 401 := by
    cases lo with
    | none =>
      cases hi with
      | none => simp [win, win0, win1, win2]
      | some h =>
        simp only [smallO] at sh
        simp only [win, win0, win1, win2, mn]
        split <;> (try dsimp only) <;> (try split) <;> omega
    | some l =>
      simp only [smallO] at sl
      cases hi with
      | none =>
        simp only [win, win0, win1, win2, mx]
        split <;> (try dsimp only) <;> (try split) <;> omega
      | some h =>
        simp only [smallO] at sh
        simp only [win, win0, win1, win2, mx, mn]
        split <;> (try dsimp only) <;> (try split) <;> (try dsimp only) <;> (try split) <;> (try split) <;> omega
  obtain ⟨⟨a1, a2⟩, ⟨a3, a4⟩, a5⟩ := core
  exact ⟨⟨by omega, by omega, by omega, by omega, by omega⟩, a5⟩
theorem bad_noDct {lo hi : Option Int} : isDct (encO lo) = false ∧ isDct (encO hi) = false := by
  cases lo <;> cases hi <;> exact ⟨rfl, rfl⟩
theorem r_law (k : Nat) (hk12 : 12 ≤ k) : Reads f_law 12 (w_law f__law_cup (f__law_test k) f__law_roll f__law_some (f__law_period k) f__law_window (f__law_is_told k) (f_false_on k) f__law_far f__law_refused f__law_written f__law_in (f__law_test_at k)) := by
  rintro ds Q X hl ⟨ns, rfl, hn, hq⟩
  unfold w_law
  refine seq_k fun K hk => ?_
  simp
  refine ⟨ns, rfl, by omega, fun c0 hc0 => ?_⟩
  have hcup : ∃ l0, c0 = .list l0 := by
    obtain ⟨a, b, rfl, _⟩ := hc0
    exact ⟨_, rfl⟩
  simp
  refine hk _ ?_
  clear hk
  clear K
  refine seq_k fun K hk => ?_
  simp [hc0]
  refine ⟨⟨_, rfl, by simp, by simp⟩, ?_⟩
  rintro v c1 hc1 ⟨many, kL, e, rfl, kL0, kL1⟩
  cases e
  simp [hc1]
  refine ⟨⟨_, rfl, by simp, by simp⟩, ?_⟩
  rintro v c2 hc2 ⟨m, d, e, hd, rfl⟩
  cases e
  have hlead : ∃ lead : Int, d = .int lead ∧ 1 ≤ lead ∧ lead ≤ 9 := by
    simp at hd
    rcases hd with rfl | rfl | rfl <;> exact ⟨_, rfl, by omega, by omega⟩
  obtain ⟨lead, rfl, le0, le1⟩ := hlead
  clear hd
  simp [hc2]
  refine ⟨⟨_, rfl, by simp, by simp⟩, ?_⟩
  rintro v c3 hc3 ⟨m, d, e, hd, rfl⟩
  cases e
  have hmost : ∃ most : Int, d = .int most ∧ 0 ≤ most ∧ most ≤ 20 := by
    simp at hd
    rcases hd with rfl | rfl <;> exact ⟨_, rfl, by omega, by omega⟩
  obtain ⟨most, rfl, mo0, mo1⟩ := hmost
  clear hd
  simp [hc3]
  refine ⟨⟨_, rfl, by simp, by simp⟩, ?_⟩
  rintro v c4 hc4 ⟨m, d, e, hd, rfl⟩
  cases e
  have hdivs : ∃ divs : List Int, d = .list (divs.map .int) ∧ divs.length ≤ 2 ∧ (∀ m ∈ divs, 1 ≤ m ∧ m ≤ 6) ∧ (divs = [5] ∨ ∀ m ∈ divs, m = 2 ∨ m = 3 ∨ m = 4 ∨ m = 6) := by
    simp at hd
    rcases hd with rfl | rfl | rfl | rfl | rfl
    · exact ⟨[], rfl, by simp, by simp, .inr (by simp)⟩
    · exact ⟨[2], rfl, by simp, by simp, .inr (by simp)⟩
    · exact ⟨[2, 3], rfl, by simp, by simp, .inr (by simp)⟩
    · exact ⟨[4, 6], rfl, by simp, by simp, .inr (by simp)⟩
    · exact ⟨[5], rfl, by simp, by simp, .inl rfl⟩
  obtain ⟨divs, rfl, dl, db, dk⟩ := hdivs
  clear hd
  obtain ⟨L, hL⟩ : ∃ L : Nat, 1 + kL = (L : Int) := ⟨(1 + kL).toNat, by omega⟩
  have gp : GenP 1 lead most divs := ⟨by omega, le0, by omega, mo0, by omega, fun m hm => by have := db m hm; omega, by omega⟩
  simp [hc4]
  rw [hL]
  refine ⟨⟨1, L, lead, most, divs, rfl, by omega, by omega, by omega, gp⟩, ?_⟩
  rintro v c5 hc5 ⟨n', L', lead', most', divs', t, e, rfl, g⟩
  simp only [List.cons.injEq, PyData.int.injEq, PyData.list.injEq, and_true] at e
  obtain ⟨e1, e2, rfl, rfl, e3⟩ := e
  have e1 := Int.ofNat.inj e1
  have e2 := Int.ofNat.inj e2
  have e3 := ints_inj e3
  subst e1 e2 e3
  simp
  refine hk _ ?_
  clear hk
  clear K
  obtain ⟨j, gl, gj, j12, sj⟩ := gen_goods g dk
  have gd := g.deep
  have gz := g.size
  have gn := g.len
  have gok := g.ok
  refine seq_k fun K hk => ?_
  simp
  refine ⟨_, ⟨t, j, gl, rfl, g.ok, by omega, by omega, gj, rfl⟩, ?_⟩
  simp
  refine hk _ ?_
  clear hk
  clear K
  refine seq_k fun K hk => ?_
  simp [hc5]
  refine lc_filter (multD (1 + (j : Nat))) _ (fun d hd A B a => ?_) (by rw [sl_eq, rangeD_len]; decide) ?_
  · rw [range_one] at hd
    obtain ⟨x, hx, rfl⟩ := List.mem_map.mp hd
    simp only [multD] at a
    have h0 : ¬ (1 + (j : Int) = 0) := by omega
    simp
    by_cases h : x.fmod (1 + (j : Nat)) = 0
    · simp [h] at a
      simpa [h0, h] using a
    · simp [h] at a
      simpa [h0, h] using a
  rw [range_one, mult_map]
  have mn0 := mults_ne (P := 1 + (j : Nat)) (by omega) (by omega)
  have ml := mults_len (1 + (j : Nat))
  rw [show (List.filter (fun x => decide (x.fmod (1 + (j : Nat)) = 0)) (rangeI 1 12)) = mults (1 + (j : Nat)) from rfl]
  generalize hms : mults (1 + (j : Nat)) = ms at mn0 ml
  simp [hc5]
  refine ⟨⟨_, rfl, by simpa using mn0, by simp; omega⟩, ?_⟩
  rintro v c6 hc6 ⟨m, d, e, hd, rfl⟩
  cases e
  obtain ⟨st, hst, rfl⟩ := List.mem_map.mp hd
  rw [← hms, mults_mem] at hst
  clear hd mn0 ml hms
  have sok := step_mult g.ok (by omega) sj hst.2
  simp
  refine hk _ ?_
  clear hk
  clear K
  refine seq_k fun K hk => ?_
  simp [hc6]
  refine ⟨⟨_, rfl, by simp, by simp⟩, ?_⟩
  rintro v c7 hc7 ⟨many, k1, e, rfl, k10, k11⟩
  cases e
  simp [hc7]
  refine ⟨⟨_, rfl, by simp, by simp⟩, ?_⟩
  rintro v c8 hc8 ⟨m, d, e, hd, rfl⟩
  cases e
  have hlo : ∃ lo : Option Int, d = encO lo ∧ ∀ l, lo = some l → (-1000000000 ≤ l ∧ l ≤ 1000000000) ∧ (l ≤ 100 ∨ 200 < l) := by
    simp at hd
    rcases hd with rfl | rfl | rfl | rfl | rfl
    · exact ⟨none, rfl, fun l e => by cases e⟩
    · exact ⟨some _, rfl, fun l e => by cases e; omega⟩
    · exact ⟨some _, rfl, fun l e => by cases e; omega⟩
    · exact ⟨some _, rfl, fun l e => by cases e; omega⟩
    · exact ⟨some _, rfl, fun l e => by cases e; omega⟩
  obtain ⟨lo, rfl, hlo⟩ := hlo
  clear hd
  simp
  refine hk _ ?_
  clear hk
  clear K
  refine seq_k fun K hk => ?_
  simp [hc8]
  refine ⟨⟨_, rfl, by simp, by simp⟩, ?_⟩
  rintro v c9 hc9 ⟨many, k2, e, rfl, k20, k21⟩
  cases e
  simp [hc9]
  refine ⟨⟨_, rfl, by simp, by simp⟩, ?_⟩
  rintro v c10 hc10 ⟨m, d, e, hd, rfl⟩
  cases e
  have hhi : ∃ hi : Option Int, d = encO hi ∧ ∀ l, hi = some l → (-1000000000 ≤ l ∧ l ≤ 1000000000) ∧ (-100 ≤ l ∨ l < -200) := by
    simp at hd
    rcases hd with rfl | rfl | rfl | rfl | rfl
    · exact ⟨none, rfl, fun l e => by cases e⟩
    · exact ⟨some _, rfl, fun l e => by cases e; omega⟩
    · exact ⟨some _, rfl, fun l e => by cases e; omega⟩
    · exact ⟨some _, rfl, fun l e => by cases e; omega⟩
    · exact ⟨some _, rfl, fun l e => by cases e; omega⟩
  obtain ⟨hi, rfl, hhi⟩ := hhi
  clear hd
  simp
  refine hk _ ?_
  clear hk
  clear K
  refine seq_k fun K hk => ?_
  simp [hc10]
  refine ⟨⟨_, rfl, by omega, by omega⟩, ?_⟩
  rintro v c11 hc11 ⟨many, re, e, rfl, r0, r1⟩
  cases e
  simp
  refine hk _ ?_
  clear hk
  clear K
  obtain ⟨p, hpe⟩ : ∃ p : Part, p = ⟨lo, hi, st, re⟩ := ⟨_, rfl⟩
  have enc : PyData.tuple [encO lo, encO hi, .int st, .int re] = p.enc := by rw [hpe]; rfl
  have hp : p.ok := by rw [hpe]; exact ⟨hst.1.1, hst.1.2, r0, r1⟩
  have hpl : p.lo = lo := by rw [hpe]
  have hph : p.hi = hi := by rw [hpe]
  have hps : p.st = st := by rw [hpe]
  have fits := part_fits hp (by rw [hpl]; exact fun l e => (hlo l e).1) (by rw [hph]; exact fun l e => (hhi l e).1)
  have sm : ∀ o : Option Int, (∀ l, o = some l → -1000000000 ≤ l ∧ l ≤ 1000000000) → smallO o := fun o h => by
    cases o with
    | none => trivial
    | some l =>
      have := h l rfl
      simp only [smallO]
      omega
  have sml := sm lo fun l e => (hlo l e).1
  have smh := sm hi fun l e => (hhi l e).1
  have sok2 : stepOk t p.st = true := by rw [hps]; exact sok
  have hst0 : p.st ≠ 0 := by have := hp.st; omega
  have wok : WinOk p.lo p.hi := ⟨by rw [hpl]; exact fun l e => (hlo l e).2, by rw [hph]; exact fun l e => (hhi l e).2⟩
  have tw := told_win hp gok sok2 g (by omega) wok
  have tf := fits_ok gok (n := 1) (by omega) (by omega)
  rw [enc]
  have rg := win_rg sml smh
  refine seq_k fun K hk => ?_
  simp
  refine ⟨_, ⟨lo, hi, rfl, sml, smh, rg.1, rfl⟩, ?_⟩
  simp
  rw [rangeD_I]
  refine lc_filter (dueD t p) _ (fun d hd A B a => ?_) (by rw [sl_eq, List.length_map]; simp [rangeI]; omega) ?_
  · obtain ⟨y, hy, rfl⟩ := List.mem_map.mp hd
    simp only [dueD] at a
    simp
    refine ⟨_, ⟨p, y, rfl, hst0, rfl⟩, ?_⟩
    cases h1 : inB p y
    · simpa [h1] using a
    · simp
      refine ⟨_, ⟨1, t, [y], rfl, by omega, gok, by omega, rfl⟩, ?_⟩
      cases h2 : t.at [y] <;> simpa [h1, h2] using a
  rw [due_map]
  simp
  refine hk _ ?_
  clear hk
  clear K
  rw [hpl, hph] at tw
  generalize dueOf (rangeI (win lo hi).1 ((win lo hi).2 + 1 - (win lo hi).1).toNat) t p = due at tw
  refine seq_k fun K hk => ?_
  simp
  refine .inr (.inr (.inr ⟨t, p, rfl, tf, fits, gok, by omega, by omega, by omega, sok2, ?_⟩))
  simp
  refine ⟨_, ⟨_, _, t, p, rfl, gok, by omega, hst0, rfl⟩, ?_⟩
  rw [tw]
  simp [hc11]
  refine ⟨⟨rfl, rfl⟩, ?_⟩
  rintro v c12 hc12 rfl
  simp
  refine hk _ ?_
  clear hk
  clear K
  refine seq_k fun K hk => ?_
  simp
  refine hk _ ?_
  clear hk
  clear K
  refine seq_k fun K hk => ?_
  rw [← enc]
  simp
  refine hk _ ?_
  clear hk
  clear K
  refine seq_k fun K hk => ?_
  simp [hc12]
  refine ⟨⟨_, rfl, by simp, by simp⟩, ?_⟩
  rintro v c13 hc13 ⟨m, w, e, hw, rfl⟩
  cases e
  have hbad : noDct w = true ∧ partFits w = false := by
    have ps := hst.1
    simp at hw
    rcases hw with rfl | rfl | rfl | rfl | rfl | rfl | rfl | rfl | rfl | rfl | rfl
    all_goals
      refine ⟨by cases lo <;> cases hi <;> rfl, ?_⟩
      try (simp [partFits, isWh, isBorder]; done)
      try rfl
    · simp [partFits, isWh, isBorder]
      omega
  clear hw
  simp
  refine hk _ ?_
  clear hk
  clear K
  rw [enc]
  refine seq_k fun K hk => ?_
  simp [hc13]
  refine ⟨⟨_, rfl, by simp, by simp⟩, ?_⟩
  rintro v c14 hc14 ⟨m, d, e, hd, rfl⟩
  cases e
  have hbt : d.canLay0 = true ∧ testFits 1 d = false := by
    have y1 := lay_most
    have y2 := lay_div
    have y3 := lay_or
    simp [PyData.canLay0] at y1 y2 y3
    simp at hd
    rcases hd with rfl | rfl | rfl | rfl
    · exact ⟨rfl, bad_none⟩
    · exact ⟨by simp [PyData.canLay0, PyData.canLayAll0, y1], bad_row⟩
    · exact ⟨by simp [PyData.canLay0, PyData.canLayAll0, y2], bad_div⟩
    · exact ⟨by simp [PyData.canLay0, PyData.canLayAll0, y3, t.lay], bad_or⟩
  clear hd
  simp
  refine .inl ⟨d, w, rfl, hbt.1, hbt.2, ?_⟩
  simp
  refine .inr (.inl ⟨t, w, rfl, tf, hbad.1, hbad.2, ?_⟩)
  simp
  refine hk _ ?_
  clear hk
  clear K
  refine seq_k fun K hk => ?_
  simp
  refine hk _ ?_
  clear hk
  clear K
  have fo : ∀ (st' : Int), 1 ≤ st' → st' ≤ 12 → partFits (Part.enc ⟨lo, hi, st', 0⟩) = true := fun st' a b => pf_ok ⟨a, b, by dsimp only; omega, by dsimp only; omega⟩ (fun l e => (hlo l e).1) fun l e => (hhi l e).1
  have q3 : (d1 3 1 0).ok 1 := ok_d1 (by omega) (by omega) (by omega) (by omega) (by omega) (by omega)
  have q5 : (d1 5 0 0).ok 1 := ok_d1 (by omega) (by omega) (by omega) (by omega) (by omega) (by omega)
  have q13 : (d1 13 1 0).ok 1 := ok_d1 (by omega) (by omega) (by omega) (by omega) (by omega) (by omega)
  have b3 : Odd (d1 3 1 0) (Part.enc ⟨lo, hi, 4, 0⟩) := ⟨fits_ok (n := 1) q3 (by simp [Tt.deep]) (by simp [Tt.size]), .inr ⟨_, rfl, fo 4 (by omega) (by omega), q3, by simp [Tt.size], rfl⟩⟩
  have b5 : Odd (d1 5 0 0) (Part.enc ⟨lo, hi, 12, 0⟩) := ⟨fits_ok (n := 1) q5 (by simp [Tt.deep]) (by simp [Tt.size]), .inr ⟨_, rfl, fo 12 (by omega) (by omega), q5, by simp [Tt.size], rfl⟩⟩
  obtain ⟨o, ho⟩ : ∃ o : Tt, o = .all (.cons t (.cons (d1 13 1 0) .nil)) := ⟨_, rfl⟩
  have oe : o.enc = .tuple [.str "and", .tuple [t.enc, .tuple [.str "div", .int 13, .tuple [.int 1], .int 0]]] := by rw [ho]; rfl
  have ook : o.ok 1 := by rw [ho]; exact ⟨⟨gok, q13, trivial⟩, by simp [Tts.len]⟩
  have osz : o.size ≤ 100 := by rw [ho]; simp only [Tt.size, Tts.size]; omega
  have odp : o.deep ≤ 12 := by rw [ho]; simp only [Tt.deep, Tts.deep]; omega
  have ofit := fits_ok ook (n := 1) odp (by omega)
  have ost : stepOk o p.st = false := by
    cases e : stepOk o p.st with
    | false => rfl
    | true =>
      unfold stepOk at e
      rw [List.all_eq_true] at e
      have := e (d1 13 1 0) (by rw [ho]; simp [Tt.leaves, Tts.leaves])
      have z := hp.st
      have z2 := hp.st2
      simp at this
      rw [Int.fmod_eq_emod_of_nonneg _ (by omega), Int.emod_eq_of_lt (by omega) (by omega)] at this
      omega
  have b13 : Odd o p.enc := ⟨ofit, .inr ⟨p, rfl, fits, ook, by omega, ost⟩⟩
  have go3 : ∀ Q' : Rv → D → Prop, Q' (.f (.list [.bool false, .bool true])) .none → g__law_refused [.tuple [.str "div", .int 3, .tuple [.int 1], .int 0], .tuple [encO lo, encO hi, .int 4, .int 0]] Q' X := fun Q' h => b3.refused h
  have go5 : ∀ Q' : Rv → D → Prop, Q' (.f (.list [.bool false, .bool true])) .none → g__law_refused [.tuple [.str "div", .int 5, .tuple [.int 0], .int 0], .tuple [encO lo, encO hi, .int 12, .int 0]] Q' X := fun Q' h => b5.refused h
  refine seq_k fun K hk => ?_
  simp
  refine go3 _ ?_
  simp
  refine go5 _ ?_
  simp
  refine hk _ ?_
  clear hk
  clear K
  have go13 : ∀ Q' : Rv → D → Prop, Q' (.f (.list [.bool false, .bool true])) .none → g__law_refused [.tuple [.str "and", .tuple [t.enc, .tuple [.str "div", .int 13, .tuple [.int 1], .int 0]]], p.enc] Q' X := fun Q' h => by
    rw [← oe]
    exact b13.refused h
  simp
  refine go13 _ ?_
  simp
  exact ⟨_, ⟨rfl, rfl⟩, hq⟩
end DL
end L2
set_option Elab.async false
set_option maxRecDepth 100000
set_option maxHeartbeats 0
namespace L2
open PySem PySem.Spec PyProof.Rows
namespace DL
def top (i : Nat) : Stmt := PySem.Challenge.pw_countlaw_k55_false_on_parts.main.body.getD i (.Pass ⟨0, 0, 0, 0⟩)
def N_is_whole : List Str := ["value", "low", "high"]
def G_is_whole : List (Str × GE) := [("isinstance", .blt), ("int", .blt), ("bool", .blt)]
theorem t_is_whole : svs 60 30 ⟨defScope (top 10), N_is_whole, fun _ => true, G_is_whole⟩ (defBody (top 10)) = w_is_whole := by kernel_rfl
def N_is_tuple_of : List Str := ["value", "low", "high"]
def G_is_tuple_of : List (Str × GE) := [("isinstance", .blt), ("tuple", .blt), ("len", .blt)]
theorem t_is_tuple_of : svs 60 30 ⟨defScope (top 11), N_is_tuple_of, fun _ => true, G_is_tuple_of⟩ (defBody (top 11)) = w_is_tuple_of := by kernel_rfl
def N_fits_row : List Str := ["letters", "value", "one"]
def G_fits_row (f_is_tuple_of f_is_whole : FI) : List (Str × GE) := [("is_tuple_of", .fn f_is_tuple_of), ("all", .blt), ("is_whole", .fn f_is_whole), ("SIZE", .cst (.int 1000000000))]
theorem t_fits_row (f_is_tuple_of f_is_whole : FI) : svs 60 30 ⟨defScope (top 12), N_fits_row, fun _ => true, G_fits_row f_is_tuple_of f_is_whole⟩ (defBody (top 12)) = w_fits_row f_is_tuple_of f_is_whole := by kernel_rfl
def N_fits_leaf : List Str := ["letters", "value"]
def G_fits_leaf (f_fits_row f_is_whole : FI) : List (Str × GE) := [("len", .blt), ("fits_row", .fn f_fits_row), ("is_whole", .fn f_is_whole), ("NUMBER", .cst (.int 1000000000000)), ("DIVISOR", .cst (.int 1000000))]
theorem t_fits_leaf (f_fits_row f_is_whole : FI) : svs 60 30 ⟨defScope (top 13), N_fits_leaf, fun _ => true, G_fits_leaf f_fits_row f_is_whole⟩ (defBody (top 13)) = w_fits_leaf f_fits_row f_is_whole := by kernel_rfl
def N_parts_of : List Str := ["value"]
def G_parts_of : List (Str × GE) := []
theorem t_parts_of : svs 60 30 ⟨defScope (top 14), N_parts_of, fun _ => true, G_parts_of⟩ (defBody (top 14)) = w_parts_of := by kernel_rfl
def N_fits_knot : List Str := ["value"]
def G_fits_knot (f_is_tuple_of : FI) : List (Str × GE) := [("len", .blt), ("is_tuple_of", .fn f_is_tuple_of), ("PARTS", .cst (.int 4000))]
theorem t_fits_knot (f_is_tuple_of : FI) : svs 60 30 ⟨defScope (top 15), N_fits_knot, fun _ => true, G_fits_knot f_is_tuple_of⟩ (defBody (top 15)) = w_fits_knot f_is_tuple_of := by kernel_rfl
def N_fits_test : List Str := ["letters", "value", "line", "many", "one", "deep", "part"]
def G_fits_test (f_is_tuple_of f_fits_leaf f_fits_knot f_parts_of : FI) : List (Str × GE) := [("PARTS", .cst (.int 4000)), ("NESTED", .cst (.int 12)), ("is_tuple_of", .fn f_is_tuple_of), ("isinstance", .blt), ("str", .blt), ("fits_leaf", .fn f_fits_leaf), ("fits_knot", .fn f_fits_knot), ("parts_of", .fn f_parts_of)]
theorem t_fits_test (f_is_tuple_of f_fits_leaf f_fits_knot f_parts_of : FI) : svs 60 30 ⟨defScope (top 16), N_fits_test, fun _ => true, G_fits_test f_is_tuple_of f_fits_leaf f_fits_knot f_parts_of⟩ (defBody (top 16)) = w_fits_test f_is_tuple_of f_fits_leaf f_fits_knot f_parts_of := by kernel_rfl
def N_leaves_of : List Str := ["test", "found", "line", "one"]
def G_leaves_of (f_parts_of : FI) : List (Str × GE) := [("list", .blt), ("parts_of", .fn f_parts_of)]
theorem t_leaves_of (f_parts_of : FI) : svs 60 30 ⟨defScope (top 17), N_leaves_of, fun _ => true, G_leaves_of f_parts_of⟩ (defBody (top 17)) = w_leaves_of f_parts_of := by kernel_rfl
def N_sum_at : List Str := ["row", "point", "one", "other"]
def G_sum_at : List (Str × GE) := [("sum", .blt), ("zip", .blt)]
theorem t_sum_at : svs 60 30 ⟨defScope (top 18), N_sum_at, fun _ => true, G_sum_at⟩ (defBody (top 18)) = w_sum_at := by kernel_rfl
def N_leaf_at : List Str := ["leaf", "point"]
def G_leaf_at (f_sum_at : FI) : List (Str × GE) := [("sum_at", .fn f_sum_at)]
theorem t_leaf_at (f_sum_at : FI) : svs 60 30 ⟨defScope (top 19), N_leaf_at, fun _ => true, G_leaf_at f_sum_at⟩ (defBody (top 19)) = w_leaf_at f_sum_at := by kernel_rfl
def N_test_at : List Str := ["test", "point", "part"]
def G_test_at (f_leaf_at f_test_at : FI) : List (Str × GE) := [("leaf_at", .fn f_leaf_at), ("test_at", .fn f_test_at), ("all", .blt), ("any", .blt)]
theorem t_test_at (f_leaf_at f_test_at : FI) : svs 60 30 ⟨defScope (top 20), N_test_at, fun _ => true, G_test_at f_leaf_at f_test_at⟩ (defBody (top 20)) = w_test_at f_leaf_at f_test_at := by kernel_rfl
def N_breaks_of : List Str := ["test", "found", "leaf"]
def G_breaks_of (f_leaves_of : FI) : List (Str × GE) := [("leaves_of", .fn f_leaves_of), ("sorted", .blt)]
theorem t_breaks_of (f_leaves_of : FI) : svs 60 30 ⟨defScope (top 24), N_breaks_of, fun _ => true, G_breaks_of f_leaves_of⟩ (defBody (top 24)) = w_breaks_of f_leaves_of := by kernel_rfl
def N_member_in : List Str := ["low", "high", "step", "residue", "found"]
def G_member_in : List (Str × GE) := []
theorem t_member_in : svs 60 30 ⟨defScope (top 25), N_member_in, fun _ => true, G_member_in⟩ (defBody (top 25)) = w_member_in := by kernel_rfl
def N_least_of : List Str := ["one", "other"]
def G_least_of : List (Str × GE) := [("min", .blt)]
theorem t_least_of : svs 60 30 ⟨defScope (top 26), N_least_of, fun _ => true, G_least_of⟩ (defBody (top 26)) = w_least_of := by kernel_rfl
def N_greatest_of : List Str := ["one", "other"]
def G_greatest_of : List (Str × GE) := [("max", .blt)]
theorem t_greatest_of : svs 60 30 ⟨defScope (top 27), N_greatest_of, fun _ => true, G_greatest_of⟩ (defBody (top 27)) = w_greatest_of := by kernel_rfl
def N_samples_in : List Str := ["part", "breaks", "low", "high", "step", "residue", "found", "begin", "end", "one"]
def G_samples_in (f_member_in f_greatest_of f_least_of : FI) : List (Str × GE) := [("member_in", .fn f_member_in), ("greatest_of", .fn f_greatest_of), ("least_of", .fn f_least_of)]
theorem t_samples_in (f_member_in f_greatest_of f_least_of : FI) : svs 60 30 ⟨defScope (top 28), N_samples_in, fun _ => true, G_samples_in f_member_in f_greatest_of f_least_of⟩ (defBody (top 28)) = w_samples_in f_member_in f_greatest_of f_least_of := by kernel_rfl
def N_first_false : List Str := ["test", "part", "one"]
def G_first_false (f_samples_in f_breaks_of f_test_at : FI) : List (Str × GE) := [("samples_in", .fn f_samples_in), ("breaks_of", .fn f_breaks_of), ("test_at", .fn f_test_at)]
theorem t_first_false (f_samples_in f_breaks_of f_test_at : FI) : svs 60 30 ⟨defScope (top 29), N_first_false, fun _ => true, G_first_false f_samples_in f_breaks_of f_test_at⟩ (defBody (top 29)) = w_first_false f_samples_in f_breaks_of f_test_at := by kernel_rfl
def N_is_border : List Str := ["value"]
def G_is_border (f_is_whole : FI) : List (Str × GE) := [("is_whole", .fn f_is_whole), ("BORDER", .cst (.int 1000000000))]
theorem t_is_border (f_is_whole : FI) : svs 60 30 ⟨defScope (top 30), N_is_border, fun _ => true, G_is_border f_is_whole⟩ (defBody (top 30)) = w_is_border f_is_whole := by kernel_rfl
def N_fits_part : List Str := ["value"]
def G_fits_part (f_is_tuple_of f_is_border f_is_whole : FI) : List (Str × GE) := [("is_tuple_of", .fn f_is_tuple_of), ("is_border", .fn f_is_border), ("is_whole", .fn f_is_whole), ("STEP", .cst (.int 12))]
theorem t_fits_part (f_is_tuple_of f_is_border f_is_whole : FI) : svs 60 30 ⟨defScope (top 31), N_fits_part, fun _ => true, G_fits_part f_is_tuple_of f_is_border f_is_whole⟩ (defBody (top 31)) = w_fits_part f_is_tuple_of f_is_border f_is_whole := by kernel_rfl
def N_false_on : List Str := ["test", "part", "leaf"]
def G_false_on (f_fits_test f_fits_part f_leaves_of f_first_false : FI) : List (Str × GE) := [("fits_test", .fn f_fits_test), ("InvalidTest", .exc), ("fits_part", .fn f_fits_part), ("all", .blt), ("leaves_of", .fn f_leaves_of), ("InvalidPart", .exc), ("first_false", .fn f_first_false)]
theorem t_false_on (f_fits_test f_fits_part f_leaves_of f_first_false : FI) : svs 60 30 ⟨defScope (top 32), N_false_on, fun _ => true, G_false_on f_fits_test f_fits_part f_leaves_of f_first_false⟩ (defBody (top 32)) = w_false_on f_fits_test f_fits_part f_leaves_of f_first_false := by kernel_rfl
def N__law_cup : List Str := ["script", "cell"]
def G__law_cup : List (Str × GE) := [("abs", .blt), ("list", .blt), ("int", .blt)]
theorem t__law_cup : svs 60 30 ⟨defScope (top 34), N__law_cup, fun _ => true, G__law_cup⟩ (defBody (top 34)) = w__law_cup := by kernel_rfl
def N__law_roll : List Str := ["cup", "many", "found", "deep"]
def G__law_roll : List (Str × GE) := [("int", .blt)]
theorem t__law_roll : svs 60 30 ⟨defScope (top 35), N__law_roll, fun _ => true, G__law_roll⟩ (defBody (top 35)) = w__law_roll := by kernel_rfl
def N__law_some : List Str := ["cup", "things"]
def G__law_some (f__law_roll : FI) : List (Str × GE) := [("_law_roll", .fn f__law_roll), ("len", .blt)]
theorem t__law_some (f__law_roll : FI) : svs 60 30 ⟨defScope (top 36), N__law_some, fun _ => true, G__law_some f__law_roll⟩ (defBody (top 36)) = w__law_some f__law_roll := by kernel_rfl
def N__law_leaves : List Str := ["test", "found", "part"]
def G__law_leaves (f__law_leaves : FI) : List (Str × GE) := [("_law_leaves", .fn f__law_leaves)]
theorem t__law_leaves (f__law_leaves : FI) : svs 60 30 ⟨defScope (top 37), N__law_leaves, fun _ => true, G__law_leaves f__law_leaves⟩ (defBody (top 37)) = w__law_leaves f__law_leaves := by kernel_rfl
def N__law_sum : List Str := ["row", "point", "one", "other"]
def G__law_sum : List (Str × GE) := [("sum", .blt), ("zip", .blt)]
theorem t__law_sum : svs 60 30 ⟨defScope (top 38), N__law_sum, fun _ => true, G__law_sum⟩ (defBody (top 38)) = w__law_sum := by kernel_rfl
def N__law_test_at : List Str := ["test", "point", "told", "part"]
def G__law_test_at (f__law_sum f__law_test_at : FI) : List (Str × GE) := [("_law_sum", .fn f__law_sum), ("int", .blt), ("_law_test_at", .fn f__law_test_at)]
theorem t__law_test_at (f__law_sum f__law_test_at : FI) : svs 60 30 ⟨defScope (top 39), N__law_test_at, fun _ => true, G__law_test_at f__law_sum f__law_test_at⟩ (defBody (top 39)) = w__law_test_at f__law_sum f__law_test_at := by kernel_rfl
def N__law_period : List Str := ["test", "found", "leaf", "number"]
def G__law_period (f__law_leaves : FI) : List (Str × GE) := [("range", .blt), ("int", .blt), ("_law_leaves", .fn f__law_leaves)]
theorem t__law_period (f__law_leaves : FI) : svs 60 30 ⟨defScope (top 40), N__law_period, fun _ => true, G__law_period f__law_leaves⟩ (defBody (top 40)) = w__law_period f__law_leaves := by kernel_rfl
def N__law_leaf : List Str := ["cup", "letters", "lead", "most", "divisors", "row", "number", "at"]
def G__law_leaf (f__law_roll f__law_some : FI) : List (Str × GE) := [("tuple", .blt), ("range", .blt), ("_law_roll", .fn f__law_roll), ("_law_some", .fnZ f__law_some 0)]
theorem t__law_leaf (f__law_roll f__law_some : FI) : svs 60 30 ⟨defScope (top 41), N__law_leaf, fun _ => true, G__law_leaf f__law_roll f__law_some⟩ (defBody (top 41)) = w__law_leaf f__law_roll f__law_some := by kernel_rfl
def N__law_test : List Str := ["cup", "letters", "leaves", "lead", "most", "divisors", "leaf", "first", "parts", "joined"]
def G__law_test (f__law_roll f__law_leaf f__law_test f__law_some : FI) : List (Str × GE) := [("_law_roll", .fn f__law_roll), ("_law_leaf", .fn f__law_leaf), ("_law_test", .fn f__law_test), ("_law_some", .fnZ f__law_some 0)]
theorem t__law_test (f__law_roll f__law_leaf f__law_test f__law_some : FI) : svs 60 30 ⟨defScope (top 42), N__law_test, fun _ => true, G__law_test f__law_roll f__law_leaf f__law_test f__law_some⟩ (defBody (top 42)) = w__law_test f__law_roll f__law_leaf f__law_test f__law_some := by kernel_rfl
def N__law_in : List Str := ["part", "number", "low", "high", "step", "residue"]
def G__law_in : List (Str × GE) := [("int", .blt)]
theorem t__law_in : svs 60 30 ⟨defScope (top 43), N__law_in, fun _ => true, G__law_in⟩ (defBody (top 43)) = w__law_in := by kernel_rfl
def N__law_window : List Str := ["low", "high", "least", "most"]
def G__law_window : List (Str × GE) := [("max", .blt), ("min", .blt), ("list", .blt), ("range", .blt)]
theorem t__law_window : svs 60 30 ⟨defScope (top 44), N__law_window, fun _ => true, G__law_window⟩ (defBody (top 44)) = w__law_window := by kernel_rfl
def N__law_great : List Str := ["cup", "leaves", "turn", "row", "number"]
def G__law_great (f__law_roll f__law_some : FI) : List (Str × GE) := [("range", .blt), ("_law_roll", .fn f__law_roll), ("_law_some", .fnZ f__law_some 0)]
theorem t__law_great (f__law_roll f__law_some : FI) : svs 60 30 ⟨defScope (top 45), N__law_great, fun _ => true, G__law_great f__law_roll f__law_some⟩ (defBody (top 45)) = w__law_great f__law_roll f__law_some := by kernel_rfl
def N__law_places : List Str := ["test", "part", "places", "found", "leaf", "place", "one"]
def G__law_places (f__law_leaves : FI) : List (Str × GE) := [("_law_leaves", .fn f__law_leaves), ("sorted", .blt), ("set", .blt), ("list", .blt), ("range", .blt)]
theorem t__law_places (f__law_leaves : FI) : svs 60 30 ⟨defScope (top 46), N__law_places, fun _ => true, G__law_places f__law_leaves⟩ (defBody (top 46)) = w__law_places f__law_leaves := by kernel_rfl
def N__law_is_told : List Str := ["told", "due", "test", "part"]
def G__law_is_told (f__law_in f__law_test_at : FI) : List (Str × GE) := [("isinstance", .blt), ("int", .blt), ("bool", .blt), ("_law_in", .fn f__law_in), ("_law_test_at", .fn f__law_test_at)]
theorem t__law_is_told (f__law_in f__law_test_at : FI) : svs 60 30 ⟨defScope (top 47), N__law_is_told, fun _ => true, G__law_is_told f__law_in f__law_test_at⟩ (defBody (top 47)) = w__law_is_told f__law_in f__law_test_at := by kernel_rfl
def N__law_far : List Str := ["cup", "test", "step", "low", "part", "due", "number"]
def G__law_far (f__law_great f__law_some f__law_roll f__law_places f__law_is_told f_false_on f__law_period f__law_in f__law_test_at : FI) : List (Str × GE) := [("_law_great", .fn f__law_great), ("_law_some", .fnZ f__law_some 0), ("range", .blt), ("_law_roll", .fn f__law_roll), ("_law_places", .fn f__law_places), ("_law_is_told", .fn f__law_is_told), ("false_on", .fn f_false_on), ("int", .blt), ("_law_period", .fn f__law_period), ("_law_in", .fn f__law_in), ("_law_test_at", .fn f__law_test_at)]
theorem t__law_far (f__law_great f__law_some f__law_roll f__law_places f__law_is_told f_false_on f__law_period f__law_in f__law_test_at : FI) : svs 60 30 ⟨defScope (top 48), N__law_far, fun _ => true, G__law_far f__law_great f__law_some f__law_roll f__law_places f__law_is_told f_false_on f__law_period f__law_in f__law_test_at⟩ (defBody (top 48)) = w__law_far f__law_great f__law_some f__law_roll f__law_places f__law_is_told f_false_on f__law_period f__law_in f__law_test_at := by kernel_rfl
def N__law_refused : List Str := ["test", "part", "error"]
def G__law_refused (f_false_on : FI) : List (Str × GE) := [("false_on", .fn f_false_on), ("CountError", .exc), ("isinstance", .blt), ("InvalidTest", .exc), ("InvalidPart", .exc)]
def B__law_refused : List Stmt := match (defBody (top 49)).head? with
  | some (.Try B _ _ _ _) => B
  | _ => []
def e__law_refused : Expr := match (defBody (top 49)).head? with
  | some (.Try _ [.ExceptHandler _ _ [.Return (some e) _] _] _ _ _) => e
  | _ => .Constant .none 0 ⟨0, 0, 0, 0⟩
theorem b__law_refused : defBody (top 49) = .Try B__law_refused [.ExceptHandler (some (.Name "CountError" ⟨208, 11, 208, 21⟩)) (some "error") [.Return (some e__law_refused) ⟨209, 8, 209, 79⟩] ⟨208, 4, 209, 79⟩] [] [] ⟨206, 4, 209, 79⟩ :: (defBody (top 49)).tail := by kernel_rfl
theorem t__law_refused (f_false_on : FI) : svs 60 30 ⟨defScope (top 49), N__law_refused, fun _ => true, G__law_refused f_false_on⟩ B__law_refused = w__law_refused f_false_on := by kernel_rfl
theorem u__law_refused (f_false_on : FI) : svs 60 30 ⟨defScope (top 49), N__law_refused, fun _ => true, G__law_refused f_false_on⟩ (defBody (top 49)).tail = v__law_refused f_false_on := by kernel_rfl
theorem ghv__law_refused (f_false_on : FI) (t : Str → Option Bool) : hvE ⟨defScope (top 49), N__law_refused, fun _ => true, G__law_refused f_false_on⟩ "error" t 30 e__law_refused = h__law_refused t := by kernel_rfl
def N__law_written : List Str := ["asked", "test", "part", "is_due", "leaves", "plain", "odd", "one"]
def G__law_written (f__law_is_told f_false_on f__law_refused : FI) : List (Str × GE) := [("_law_is_told", .fn f__law_is_told), ("false_on", .fn f_false_on), ("_law_refused", .fn f__law_refused)]
theorem t__law_written (f__law_is_told f_false_on f__law_refused : FI) : svs 60 30 ⟨defScope (top 50), N__law_written, fun _ => true, G__law_written f__law_is_told f_false_on f__law_refused⟩ (defBody (top 50)) = w__law_written f__law_is_told f_false_on f__law_refused := by kernel_rfl
def N_law : List Str := ["script", "cup", "test", "period", "step", "low", "high", "part", "due", "some", "wrong", "odd", "number"]
def G_law (f__law_cup f__law_test f__law_roll f__law_some f__law_period f__law_window f__law_is_told f_false_on f__law_far f__law_refused f__law_written f__law_in f__law_test_at : FI) : List (Str × GE) := [("_law_cup", .fn f__law_cup), ("_law_test", .fn f__law_test), ("_law_roll", .fn f__law_roll), ("_law_some", .fnZ f__law_some 0), ("_law_period", .fn f__law_period), ("range", .blt), ("_law_window", .fn f__law_window), ("_law_is_told", .fn f__law_is_told), ("false_on", .fn f_false_on), ("_law_far", .fn f__law_far), ("list", .blt), ("_law_refused", .fn f__law_refused), ("_law_written", .fn f__law_written), ("int", .blt), ("_law_in", .fn f__law_in), ("_law_test_at", .fn f__law_test_at)]
theorem t_law (f__law_cup f__law_test f__law_roll f__law_some f__law_period f__law_window f__law_is_told f_false_on f__law_far f__law_refused f__law_written f__law_in f__law_test_at : FI) : svs 60 30 ⟨defScope (top 51), N_law, fun _ => true, G_law f__law_cup f__law_test f__law_roll f__law_some f__law_period f__law_window f__law_is_told f_false_on f__law_far f__law_refused f__law_written f__law_in f__law_test_at⟩ (defBody (top 51)) = w_law f__law_cup f__law_test f__law_roll f__law_some f__law_period f__law_window f__law_is_told f_false_on f__law_far f__law_refused f__law_written f__law_in f__law_test_at := by kernel_rfl
end DL
end L2
set_option Elab.async false
set_option maxRecDepth 100000
set_option maxHeartbeats 0
namespace L2
open PySem PySem.Spec PyProof.Rows
namespace DL
def d_is_whole : He.DefD := ⟨("is_whole", none), "is_whole", "is_whole", defArgs (top 10), defBody (top 10), defScope (top 10), [], []⟩
def d_is_tuple_of : He.DefD := ⟨("is_tuple_of", none), "is_tuple_of", "is_tuple_of", defArgs (top 11), defBody (top 11), defScope (top 11), [], []⟩
def d_fits_row : He.DefD := ⟨("fits_row", none), "fits_row", "fits_row", defArgs (top 12), defBody (top 12), defScope (top 12), [], []⟩
def d_fits_leaf : He.DefD := ⟨("fits_leaf", none), "fits_leaf", "fits_leaf", defArgs (top 13), defBody (top 13), defScope (top 13), [], []⟩
def d_parts_of : He.DefD := ⟨("parts_of", none), "parts_of", "parts_of", defArgs (top 14), defBody (top 14), defScope (top 14), [], []⟩
def d_fits_knot : He.DefD := ⟨("fits_knot", none), "fits_knot", "fits_knot", defArgs (top 15), defBody (top 15), defScope (top 15), [], []⟩
def d_fits_test : He.DefD := ⟨("fits_test", none), "fits_test", "fits_test", defArgs (top 16), defBody (top 16), defScope (top 16), [], []⟩
def d_leaves_of : He.DefD := ⟨("leaves_of", none), "leaves_of", "leaves_of", defArgs (top 17), defBody (top 17), defScope (top 17), [], []⟩
def d_sum_at : He.DefD := ⟨("sum_at", none), "sum_at", "sum_at", defArgs (top 18), defBody (top 18), defScope (top 18), [], []⟩
def d_leaf_at : He.DefD := ⟨("leaf_at", none), "leaf_at", "leaf_at", defArgs (top 19), defBody (top 19), defScope (top 19), [], []⟩
def d_test_at : He.DefD := ⟨("test_at", none), "test_at", "test_at", defArgs (top 20), defBody (top 20), defScope (top 20), [], []⟩
def d_breaks_of : He.DefD := ⟨("breaks_of", none), "breaks_of", "breaks_of", defArgs (top 24), defBody (top 24), defScope (top 24), [], []⟩
def d_member_in : He.DefD := ⟨("member_in", none), "member_in", "member_in", defArgs (top 25), defBody (top 25), defScope (top 25), [], []⟩
def d_least_of : He.DefD := ⟨("least_of", none), "least_of", "least_of", defArgs (top 26), defBody (top 26), defScope (top 26), [], []⟩
def d_greatest_of : He.DefD := ⟨("greatest_of", none), "greatest_of", "greatest_of", defArgs (top 27), defBody (top 27), defScope (top 27), [], []⟩
def d_samples_in : He.DefD := ⟨("samples_in", none), "samples_in", "samples_in", defArgs (top 28), defBody (top 28), defScope (top 28), [], []⟩
def d_first_false : He.DefD := ⟨("first_false", none), "first_false", "first_false", defArgs (top 29), defBody (top 29), defScope (top 29), [], []⟩
def d_is_border : He.DefD := ⟨("is_border", none), "is_border", "is_border", defArgs (top 30), defBody (top 30), defScope (top 30), [], []⟩
def d_fits_part : He.DefD := ⟨("fits_part", none), "fits_part", "fits_part", defArgs (top 31), defBody (top 31), defScope (top 31), [], []⟩
def d_false_on : He.DefD := ⟨("false_on", none), "false_on", "false_on", defArgs (top 32), defBody (top 32), defScope (top 32), [], []⟩
def d__law_cup : He.DefD := ⟨("_law_cup", none), "_law_cup", "_law_cup", defArgs (top 34), defBody (top 34), defScope (top 34), [], []⟩
def d__law_roll : He.DefD := ⟨("_law_roll", none), "_law_roll", "_law_roll", defArgs (top 35), defBody (top 35), defScope (top 35), [], []⟩
def d__law_some : He.DefD := ⟨("_law_some", none), "_law_some", "_law_some", defArgs (top 36), defBody (top 36), defScope (top 36), [], []⟩
def d__law_leaves : He.DefD := ⟨("_law_leaves", none), "_law_leaves", "_law_leaves", defArgs (top 37), defBody (top 37), defScope (top 37), [], []⟩
def d__law_sum : He.DefD := ⟨("_law_sum", none), "_law_sum", "_law_sum", defArgs (top 38), defBody (top 38), defScope (top 38), [], []⟩
def d__law_test_at : He.DefD := ⟨("_law_test_at", none), "_law_test_at", "_law_test_at", defArgs (top 39), defBody (top 39), defScope (top 39), [], []⟩
def d__law_period : He.DefD := ⟨("_law_period", none), "_law_period", "_law_period", defArgs (top 40), defBody (top 40), defScope (top 40), [], []⟩
def d__law_leaf : He.DefD := ⟨("_law_leaf", none), "_law_leaf", "_law_leaf", defArgs (top 41), defBody (top 41), defScope (top 41), [], []⟩
def d__law_test : He.DefD := ⟨("_law_test", none), "_law_test", "_law_test", defArgs (top 42), defBody (top 42), defScope (top 42), [], []⟩
def d__law_in : He.DefD := ⟨("_law_in", none), "_law_in", "_law_in", defArgs (top 43), defBody (top 43), defScope (top 43), [], []⟩
def d__law_window : He.DefD := ⟨("_law_window", none), "_law_window", "_law_window", defArgs (top 44), defBody (top 44), defScope (top 44), [], []⟩
def d__law_great : He.DefD := ⟨("_law_great", none), "_law_great", "_law_great", defArgs (top 45), defBody (top 45), defScope (top 45), [], []⟩
def d__law_places : He.DefD := ⟨("_law_places", none), "_law_places", "_law_places", defArgs (top 46), defBody (top 46), defScope (top 46), [], []⟩
def d__law_is_told : He.DefD := ⟨("_law_is_told", none), "_law_is_told", "_law_is_told", defArgs (top 47), defBody (top 47), defScope (top 47), [], []⟩
def d__law_far : He.DefD := ⟨("_law_far", none), "_law_far", "_law_far", defArgs (top 48), defBody (top 48), defScope (top 48), [], []⟩
def d__law_refused : He.DefD := ⟨("_law_refused", none), "_law_refused", "_law_refused", defArgs (top 49), defBody (top 49), defScope (top 49), [], []⟩
def d__law_written : He.DefD := ⟨("_law_written", none), "_law_written", "_law_written", defArgs (top 50), defBody (top 50), defScope (top 50), [], []⟩
def d_law : He.DefD := ⟨("law", none), "law", "law", defArgs (top 51), defBody (top 51), defScope (top 51), [], []⟩
def fn : List He.DefD := [d_is_whole, d_is_tuple_of, d_fits_row, d_fits_leaf, d_parts_of, d_fits_knot, d_fits_test, d_leaves_of, d_sum_at, d_leaf_at, d_test_at, d_breaks_of, d_member_in, d_least_of, d_greatest_of, d_samples_in, d_first_false, d_is_border, d_fits_part, d_false_on, d__law_cup, d__law_roll, d__law_some, d__law_leaves, d__law_sum, d__law_test_at, d__law_period, d__law_leaf, d__law_test, d__law_in, d__law_window, d__law_great, d__law_places, d__law_is_told, d__law_far, d__law_refused, d__law_written, d_law]
def fa0 : List He.Fa := [.glo "is_whole", .free "bool", .free "int", .free "isinstance", .glo "is_tuple_of", .free "len", .free "tuple", .glo "fits_row", .int "SIZE" 1000000000, .free "all", .glo "fits_leaf", .int "DIVISOR" 1000000]
def fa1 : List He.Fa := [.int "NUMBER" 1000000000000, .glo "parts_of", .glo "fits_knot", .int "PARTS" 4000, .glo "fits_test", .free "str", .int "NESTED" 12, .glo "leaves_of", .free "list", .glo "sum_at", .free "zip", .free "sum"]
def fa2 : List He.Fa := [.glo "leaf_at", .glo "test_at", .free "any", .glo "breaks_of", .free "sorted", .glo "member_in", .glo "least_of", .free "min", .glo "greatest_of", .free "max", .glo "samples_in", .glo "first_false"]
def fa3 : List He.Fa := [.glo "is_border", .int "BORDER" 1000000000, .glo "fits_part", .int "STEP" 12, .glo "false_on", .glo "InvalidPart", .exc "InvalidPart", .glo "InvalidTest", .exc "InvalidTest", .glo "_law_cup", .free "abs", .glo "_law_roll"]
def fa4 : List He.Fa := [.glo "_law_some", .glo "_law_leaves", .glo "_law_sum", .glo "_law_test_at", .glo "_law_period", .free "range", .glo "_law_leaf", .glo "_law_test", .glo "_law_in", .glo "_law_window", .glo "_law_great", .glo "_law_places"]
def fa5 : List He.Fa := [.free "set", .glo "_law_is_told", .glo "_law_far", .glo "_law_refused", .glo "CountError", .exc "CountError", .glo "_law_written", .glo "law"]
def fa : List He.Fa := fa0 ++ fa1 ++ fa2 ++ fa3 ++ fa4 ++ fa5
def nam0 : List PySem.Str := ["CountError", "InvalidTest", "InvalidPart", "SIZE", "NUMBER", "DIVISOR", "NESTED", "PARTS", "is_whole", "is_tuple_of", "fits_row", "fits_leaf"]
def nam1 : List PySem.Str := ["parts_of", "fits_knot", "fits_test", "leaves_of", "sum_at", "leaf_at", "test_at", "BORDER", "STEP", "breaks_of", "member_in", "least_of"]
def nam2 : List PySem.Str := ["greatest_of", "samples_in", "first_false", "is_border", "fits_part", "false_on", "_law_cup", "_law_roll", "_law_some", "_law_leaves", "_law_sum", "_law_test_at"]
def nam3 : List PySem.Str := ["_law_period", "_law_leaf", "_law_test", "_law_in", "_law_window", "_law_great", "_law_places", "_law_is_told", "_law_far", "_law_refused", "_law_written"]
def namA : List PySem.Str := nam0 ++ nam1 ++ nam2 ++ nam3
def exB : PySem.W.Frag → Bool := tabB tab55
abbrev R : PySem.W.OpenRow := PySem.W.OpenLaw.row PySem.Challenge.rw_countlaw_k55_false_on_parts
abbrev hk : PySem.W.Hook := hookQ 4 fa fn exB
def ob (s : PySem.W.SharedT) : AlQ := obsQ 4 fa fn exB (HandSHeadRun.getT s)
theorem ob_eq (s : PySem.W.SharedT) : ob s = hk.obs s.abs := obsQ_eq (HandSHeadRun.getT_eq s)
theorem run (w : World) : HandSHeadRun.RunEq R (PySem.W.view R.prog [51]) hk ob 40000 namA w := by
  intro os
  kernel_rfl
end DL
end L2
set_option Elab.async false
set_option maxRecDepth 100000
set_option maxHeartbeats 0
namespace L2
open PySem PySem.Spec PyProof.Rows
namespace DL
structure Hd (K : PySem.W.Frag) (h : Heap) (mg : Str → Option Value) : Prop where
  X : K.In h
  G : h.Ns mainGlobals mg
  c : SaysQ fa fn exB K
section
variable {P : Program} {w : World} {K : PySem.W.Frag} {h base0 : Heap} {mg : Str → Option Value}
theorem sc_is_whole : FnScope N_is_whole ["value", "low", "high"] (defScope (top 10)) := ⟨rfl, rfl, rfl, by decide +kernel, rfl, by decide +kernel, by decide +kernel⟩
theorem o_is_whole (z : Hd K h mg) : GlobOk P w K mg base0 1 "is_whole" (.fn f_is_whole) := by
  obtain ⟨fd, F⟩ := z.c.d.def_ 0 (d := d_is_whole) rfl
  exact glob_ev (a := 60) (b := 30) (k := 0) F (He.glo_ok z.X z.G (z.c.d.fact 0 rfl)) sc_is_whole rfl rfl (FunD.bindsN F fun _ _ _ _ _ _ us hl => match us, hl with | [_, _, _], _ => rfl) (show ∀ y g, List.lookup y (G_is_whole) = some g → GlobOk P w K mg base0 (0) y g from (gl_cons (glob_blt z.X z.G (z.c.d.fact 3 rfl)) (gl_cons (glob_blt z.X z.G (z.c.d.fact 2 rfl)) (gl_cons (glob_blt z.X z.G (z.c.d.fact 1 rfl)) gl_nil)))) (show Reads f_is_whole 0 (svs 60 30 ⟨defScope (top 10), N_is_whole, fun _ => true, G_is_whole⟩ (defBody (top 10))) from by rw [t_is_whole]; exact r_is_whole)
theorem sc_is_tuple_of : FnScope N_is_tuple_of ["value", "low", "high"] (defScope (top 11)) := ⟨rfl, rfl, rfl, by decide +kernel, rfl, by decide +kernel, by decide +kernel⟩
theorem o_is_tuple_of (z : Hd K h mg) : GlobOk P w K mg base0 1 "is_tuple_of" (.fn f_is_tuple_of) := by
  obtain ⟨fd, F⟩ := z.c.d.def_ 1 (d := d_is_tuple_of) rfl
  exact glob_ev (a := 60) (b := 30) (k := 0) F (He.glo_ok z.X z.G (z.c.d.fact 4 rfl)) sc_is_tuple_of rfl rfl (FunD.bindsN F fun _ _ _ _ _ _ us hl => match us, hl with | [_, _, _], _ => rfl) (show ∀ y g, List.lookup y (G_is_tuple_of) = some g → GlobOk P w K mg base0 (0) y g from (gl_cons (glob_blt z.X z.G (z.c.d.fact 3 rfl)) (gl_cons (glob_blt z.X z.G (z.c.d.fact 6 rfl)) (gl_cons (glob_blt z.X z.G (z.c.d.fact 5 rfl)) gl_nil)))) (show Reads f_is_tuple_of 0 (svs 60 30 ⟨defScope (top 11), N_is_tuple_of, fun _ => true, G_is_tuple_of⟩ (defBody (top 11))) from by rw [t_is_tuple_of]; exact r_is_tuple_of)
theorem sc_fits_row : FnScope N_fits_row ["letters", "value"] (defScope (top 12)) := ⟨rfl, rfl, rfl, by decide +kernel, rfl, by decide +kernel, by decide +kernel⟩
theorem o_fits_row (z : Hd K h mg) : GlobOk P w K mg base0 2 "fits_row" (.fn f_fits_row) := by
  obtain ⟨fd, F⟩ := z.c.d.def_ 2 (d := d_fits_row) rfl
  exact glob_ev (a := 60) (b := 30) (k := 1) F (He.glo_ok z.X z.G (z.c.d.fact 7 rfl)) sc_fits_row rfl rfl (FunD.bindsN F fun _ _ _ _ _ _ us hl => match us, hl with | [_, _], _ => rfl) (show ∀ y g, List.lookup y (G_fits_row f_is_tuple_of f_is_whole) = some g → GlobOk P w K mg base0 (1) y g from (gl_cons ((o_is_tuple_of z).mono (by omega)) (gl_cons (glob_blt z.X z.G (z.c.d.fact 9 rfl)) (gl_cons ((o_is_whole z).mono (by omega)) (gl_cons (glob_int z.X z.G (z.c.d.fact 8 rfl)) gl_nil))))) (show Reads f_fits_row 1 (svs 60 30 ⟨defScope (top 12), N_fits_row, fun _ => true, G_fits_row f_is_tuple_of f_is_whole⟩ (defBody (top 12))) from by rw [t_fits_row]; exact r_fits_row)
theorem sc_fits_leaf : FnScope N_fits_leaf ["letters", "value"] (defScope (top 13)) := ⟨rfl, rfl, rfl, by decide +kernel, rfl, by decide +kernel, by decide +kernel⟩
theorem o_fits_leaf (z : Hd K h mg) : GlobOk P w K mg base0 3 "fits_leaf" (.fn f_fits_leaf) := by
  obtain ⟨fd, F⟩ := z.c.d.def_ 3 (d := d_fits_leaf) rfl
  exact glob_ev (a := 60) (b := 30) (k := 2) F (He.glo_ok z.X z.G (z.c.d.fact 10 rfl)) sc_fits_leaf rfl rfl (FunD.bindsN F fun _ _ _ _ _ _ us hl => match us, hl with | [_, _], _ => rfl) (show ∀ y g, List.lookup y (G_fits_leaf f_fits_row f_is_whole) = some g → GlobOk P w K mg base0 (2) y g from (gl_cons (glob_blt z.X z.G (z.c.d.fact 5 rfl)) (gl_cons ((o_fits_row z).mono (by omega)) (gl_cons ((o_is_whole z).mono (by omega)) (gl_cons (glob_int z.X z.G (z.c.d.fact 12 rfl)) (gl_cons (glob_int z.X z.G (z.c.d.fact 11 rfl)) gl_nil)))))) (show Reads f_fits_leaf 0 (svs 60 30 ⟨defScope (top 13), N_fits_leaf, fun _ => true, G_fits_leaf f_fits_row f_is_whole⟩ (defBody (top 13))) from by rw [t_fits_leaf]; exact r_fits_leaf)
theorem sc_parts_of : FnScope N_parts_of ["value"] (defScope (top 14)) := ⟨rfl, rfl, rfl, by decide +kernel, rfl, by decide +kernel, by decide +kernel⟩
theorem o_parts_of (z : Hd K h mg) : GlobOk P w K mg base0 1 "parts_of" (.fn f_parts_of) := by
  obtain ⟨fd, F⟩ := z.c.d.def_ 4 (d := d_parts_of) rfl
  exact glob_ev (a := 60) (b := 30) (k := 0) F (He.glo_ok z.X z.G (z.c.d.fact 13 rfl)) sc_parts_of rfl rfl (FunD.bindsN F fun _ _ _ _ _ _ us hl => match us, hl with | [_], _ => rfl) (show ∀ y g, List.lookup y (G_parts_of) = some g → GlobOk P w K mg base0 (0) y g from gl_nil) (show Reads f_parts_of 0 (svs 60 30 ⟨defScope (top 14), N_parts_of, fun _ => true, G_parts_of⟩ (defBody (top 14))) from by rw [t_parts_of]; exact r_parts_of)
theorem sc_fits_knot : FnScope N_fits_knot ["value"] (defScope (top 15)) := ⟨rfl, rfl, rfl, by decide +kernel, rfl, by decide +kernel, by decide +kernel⟩
theorem o_fits_knot (z : Hd K h mg) : GlobOk P w K mg base0 2 "fits_knot" (.fn f_fits_knot) := by
  obtain ⟨fd, F⟩ := z.c.d.def_ 5 (d := d_fits_knot) rfl
  exact glob_ev (a := 60) (b := 30) (k := 1) F (He.glo_ok z.X z.G (z.c.d.fact 14 rfl)) sc_fits_knot rfl rfl (FunD.bindsN F fun _ _ _ _ _ _ us hl => match us, hl with | [_], _ => rfl) (show ∀ y g, List.lookup y (G_fits_knot f_is_tuple_of) = some g → GlobOk P w K mg base0 (1) y g from (gl_cons (glob_blt z.X z.G (z.c.d.fact 5 rfl)) (gl_cons ((o_is_tuple_of z).mono (by omega)) (gl_cons (glob_int z.X z.G (z.c.d.fact 15 rfl)) gl_nil)))) (show Reads f_fits_knot 0 (svs 60 30 ⟨defScope (top 15), N_fits_knot, fun _ => true, G_fits_knot f_is_tuple_of⟩ (defBody (top 15))) from by rw [t_fits_knot]; exact r_fits_knot)
theorem sc_fits_test : FnScope N_fits_test ["letters", "value"] (defScope (top 16)) := ⟨rfl, rfl, rfl, by decide +kernel, rfl, by decide +kernel, by decide +kernel⟩
theorem o_fits_test (z : Hd K h mg) : GlobOk P w K mg base0 4 "fits_test" (.fn f_fits_test) := by
  obtain ⟨fd, F⟩ := z.c.d.def_ 6 (d := d_fits_test) rfl
  exact glob_ev (a := 60) (b := 30) (k := 3) F (He.glo_ok z.X z.G (z.c.d.fact 16 rfl)) sc_fits_test rfl rfl (FunD.bindsN F fun _ _ _ _ _ _ us hl => match us, hl with | [_, _], _ => rfl) (show ∀ y g, List.lookup y (G_fits_test f_is_tuple_of f_fits_leaf f_fits_knot f_parts_of) = some g → GlobOk P w K mg base0 (3) y g from (gl_cons (glob_int z.X z.G (z.c.d.fact 15 rfl)) (gl_cons (glob_int z.X z.G (z.c.d.fact 18 rfl)) (gl_cons ((o_is_tuple_of z).mono (by omega)) (gl_cons (glob_blt z.X z.G (z.c.d.fact 3 rfl)) (gl_cons (glob_blt z.X z.G (z.c.d.fact 17 rfl)) (gl_cons ((o_fits_leaf z).mono (by omega)) (gl_cons ((o_fits_knot z).mono (by omega)) (gl_cons ((o_parts_of z).mono (by omega)) gl_nil))))))))) (show Reads f_fits_test 5 (svs 60 30 ⟨defScope (top 16), N_fits_test, fun _ => true, G_fits_test f_is_tuple_of f_fits_leaf f_fits_knot f_parts_of⟩ (defBody (top 16))) from by rw [t_fits_test]; exact r_fits_test)
theorem sc_leaves_of : FnScope N_leaves_of ["test"] (defScope (top 17)) := ⟨rfl, rfl, rfl, by decide +kernel, rfl, by decide +kernel, by decide +kernel⟩
theorem o_leaves_of (z : Hd K h mg) : GlobOk P w K mg base0 2 "leaves_of" (.fn f_leaves_of) := by
  obtain ⟨fd, F⟩ := z.c.d.def_ 7 (d := d_leaves_of) rfl
  exact glob_ev (a := 60) (b := 30) (k := 1) F (He.glo_ok z.X z.G (z.c.d.fact 19 rfl)) sc_leaves_of rfl rfl (FunD.bindsN F fun _ _ _ _ _ _ us hl => match us, hl with | [_], _ => rfl) (show ∀ y g, List.lookup y (G_leaves_of f_parts_of) = some g → GlobOk P w K mg base0 (1) y g from (gl_cons (glob_blt z.X z.G (z.c.d.fact 20 rfl)) (gl_cons ((o_parts_of z).mono (by omega)) gl_nil))) (show Reads f_leaves_of 3 (svs 60 30 ⟨defScope (top 17), N_leaves_of, fun _ => true, G_leaves_of f_parts_of⟩ (defBody (top 17))) from by rw [t_leaves_of]; exact r_leaves_of)
theorem sc_sum_at : FnScope N_sum_at ["row", "point"] (defScope (top 18)) := ⟨rfl, rfl, rfl, by decide +kernel, rfl, by decide +kernel, by decide +kernel⟩
theorem o_sum_at (z : Hd K h mg) : GlobOk P w K mg base0 1 "sum_at" (.fn f_sum_at) := by
  obtain ⟨fd, F⟩ := z.c.d.def_ 8 (d := d_sum_at) rfl
  exact glob_ev (a := 60) (b := 30) (k := 0) F (He.glo_ok z.X z.G (z.c.d.fact 21 rfl)) sc_sum_at rfl rfl (FunD.bindsN F fun _ _ _ _ _ _ us hl => match us, hl with | [_, _], _ => rfl) (show ∀ y g, List.lookup y (G_sum_at) = some g → GlobOk P w K mg base0 (0) y g from (gl_cons (glob_blt z.X z.G (z.c.d.fact 23 rfl)) (gl_cons (glob_blt z.X z.G (z.c.d.fact 22 rfl)) gl_nil))) (show Reads f_sum_at 2 (svs 60 30 ⟨defScope (top 18), N_sum_at, fun _ => true, G_sum_at⟩ (defBody (top 18))) from by rw [t_sum_at]; exact r_sum_at)
theorem sc_leaf_at : FnScope N_leaf_at ["leaf", "point"] (defScope (top 19)) := ⟨rfl, rfl, rfl, by decide +kernel, rfl, by decide +kernel, by decide +kernel⟩
theorem o_leaf_at (z : Hd K h mg) : GlobOk P w K mg base0 2 "leaf_at" (.fn f_leaf_at) := by
  obtain ⟨fd, F⟩ := z.c.d.def_ 9 (d := d_leaf_at) rfl
  exact glob_ev (a := 60) (b := 30) (k := 1) F (He.glo_ok z.X z.G (z.c.d.fact 24 rfl)) sc_leaf_at rfl rfl (FunD.bindsN F fun _ _ _ _ _ _ us hl => match us, hl with | [_, _], _ => rfl) (show ∀ y g, List.lookup y (G_leaf_at f_sum_at) = some g → GlobOk P w K mg base0 (1) y g from (gl_cons ((o_sum_at z).mono (by omega)) gl_nil)) (show Reads f_leaf_at 0 (svs 60 30 ⟨defScope (top 19), N_leaf_at, fun _ => true, G_leaf_at f_sum_at⟩ (defBody (top 19))) from by rw [t_leaf_at]; exact r_leaf_at)
theorem sc_test_at : FnScope N_test_at ["test", "point"] (defScope (top 20)) := ⟨rfl, rfl, rfl, by decide +kernel, rfl, by decide +kernel, by decide +kernel⟩
theorem o_test_at (z : Hd K h mg) : ∀ k, GlobOk P w K mg base0 (3 + k) "test_at" (.fn (f_test_at k))
  | 0 => by
    obtain ⟨fd, F⟩ := z.c.d.def_ 10 (d := d_test_at) rfl
    exact (glob_vac (k := 0) F (He.glo_ok z.X z.G (z.c.d.fact 25 rfl)) sc_test_at (FunD.bindsN F fun _ _ _ _ _ _ us hl => match us, hl with | [_, _], _ => rfl) (fun ds Q X hl h => by obtain ⟨r, e, hq⟩ := h; obtain ⟨n, t, p, rfl, hn, ok, dp, rfl⟩ := e; cases t <;> simp [Tt.deep] at dp)).mono (by omega)
  | k + 1 => by
    obtain ⟨fd, F⟩ := z.c.d.def_ 10 (d := d_test_at) rfl
    exact glob_ev (a := 60) (b := 30) (k := 3 + k) F (He.glo_ok z.X z.G (z.c.d.fact 25 rfl)) sc_test_at rfl rfl (FunD.bindsN F fun _ _ _ _ _ _ us hl => match us, hl with | [_, _], _ => rfl) (show ∀ y g, List.lookup y (G_test_at f_leaf_at (f_test_at k)) = some g → GlobOk P w K mg base0 (3 + k) y g from (gl_cons ((o_leaf_at z).mono (by omega)) (gl_cons ((o_test_at z k).mono (by omega)) (gl_cons (glob_blt z.X z.G (z.c.d.fact 9 rfl)) (gl_cons (glob_blt z.X z.G (z.c.d.fact 26 rfl)) gl_nil))))) (show Reads (f_test_at (k + 1)) 1 (svs 60 30 ⟨defScope (top 20), N_test_at, fun _ => true, G_test_at f_leaf_at (f_test_at k)⟩ (defBody (top 20))) from by rw [t_test_at]; exact r_test_at k)
theorem sc_breaks_of : FnScope N_breaks_of ["test"] (defScope (top 24)) := ⟨rfl, rfl, rfl, by decide +kernel, rfl, by decide +kernel, by decide +kernel⟩
theorem o_breaks_of (z : Hd K h mg) : GlobOk P w K mg base0 3 "breaks_of" (.fn f_breaks_of) := by
  obtain ⟨fd, F⟩ := z.c.d.def_ 11 (d := d_breaks_of) rfl
  exact glob_ev (a := 60) (b := 30) (k := 2) F (He.glo_ok z.X z.G (z.c.d.fact 27 rfl)) sc_breaks_of rfl rfl (FunD.bindsN F fun _ _ _ _ _ _ us hl => match us, hl with | [_], _ => rfl) (show ∀ y g, List.lookup y (G_breaks_of f_leaves_of) = some g → GlobOk P w K mg base0 (2) y g from (gl_cons ((o_leaves_of z).mono (by omega)) (gl_cons (glob_blt z.X z.G (z.c.d.fact 28 rfl)) gl_nil))) (show Reads f_breaks_of 2 (svs 60 30 ⟨defScope (top 24), N_breaks_of, fun _ => true, G_breaks_of f_leaves_of⟩ (defBody (top 24))) from by rw [t_breaks_of]; exact r_breaks_of)
theorem sc_member_in : FnScope N_member_in ["low", "high", "step", "residue"] (defScope (top 25)) := ⟨rfl, rfl, rfl, by decide +kernel, rfl, by decide +kernel, by decide +kernel⟩
theorem o_member_in (z : Hd K h mg) : GlobOk P w K mg base0 1 "member_in" (.fn f_member_in) := by
  obtain ⟨fd, F⟩ := z.c.d.def_ 12 (d := d_member_in) rfl
  exact glob_ev (a := 60) (b := 30) (k := 0) F (He.glo_ok z.X z.G (z.c.d.fact 29 rfl)) sc_member_in rfl rfl (FunD.bindsN F fun _ _ _ _ _ _ us hl => match us, hl with | [_, _, _, _], _ => rfl) (show ∀ y g, List.lookup y (G_member_in) = some g → GlobOk P w K mg base0 (0) y g from gl_nil) (show Reads f_member_in 1 (svs 60 30 ⟨defScope (top 25), N_member_in, fun _ => true, G_member_in⟩ (defBody (top 25))) from by rw [t_member_in]; exact r_member_in)
theorem sc_least_of : FnScope N_least_of ["one", "other"] (defScope (top 26)) := ⟨rfl, rfl, rfl, by decide +kernel, rfl, by decide +kernel, by decide +kernel⟩
theorem o_least_of (z : Hd K h mg) : GlobOk P w K mg base0 1 "least_of" (.fn f_least_of) := by
  obtain ⟨fd, F⟩ := z.c.d.def_ 13 (d := d_least_of) rfl
  exact glob_ev (a := 60) (b := 30) (k := 0) F (He.glo_ok z.X z.G (z.c.d.fact 30 rfl)) sc_least_of rfl rfl (FunD.bindsN F fun _ _ _ _ _ _ us hl => match us, hl with | [_, _], _ => rfl) (show ∀ y g, List.lookup y (G_least_of) = some g → GlobOk P w K mg base0 (0) y g from (gl_cons (glob_blt z.X z.G (z.c.d.fact 31 rfl)) gl_nil)) (show Reads f_least_of 0 (svs 60 30 ⟨defScope (top 26), N_least_of, fun _ => true, G_least_of⟩ (defBody (top 26))) from by rw [t_least_of]; exact r_least_of)
theorem sc_greatest_of : FnScope N_greatest_of ["one", "other"] (defScope (top 27)) := ⟨rfl, rfl, rfl, by decide +kernel, rfl, by decide +kernel, by decide +kernel⟩
theorem o_greatest_of (z : Hd K h mg) : GlobOk P w K mg base0 1 "greatest_of" (.fn f_greatest_of) := by
  obtain ⟨fd, F⟩ := z.c.d.def_ 14 (d := d_greatest_of) rfl
  exact glob_ev (a := 60) (b := 30) (k := 0) F (He.glo_ok z.X z.G (z.c.d.fact 32 rfl)) sc_greatest_of rfl rfl (FunD.bindsN F fun _ _ _ _ _ _ us hl => match us, hl with | [_, _], _ => rfl) (show ∀ y g, List.lookup y (G_greatest_of) = some g → GlobOk P w K mg base0 (0) y g from (gl_cons (glob_blt z.X z.G (z.c.d.fact 33 rfl)) gl_nil)) (show Reads f_greatest_of 0 (svs 60 30 ⟨defScope (top 27), N_greatest_of, fun _ => true, G_greatest_of⟩ (defBody (top 27))) from by rw [t_greatest_of]; exact r_greatest_of)
theorem sc_samples_in : FnScope N_samples_in ["part", "breaks"] (defScope (top 28)) := ⟨rfl, rfl, rfl, by decide +kernel, rfl, by decide +kernel, by decide +kernel⟩
theorem o_samples_in (z : Hd K h mg) : GlobOk P w K mg base0 2 "samples_in" (.fn f_samples_in) := by
  obtain ⟨fd, F⟩ := z.c.d.def_ 15 (d := d_samples_in) rfl
  exact glob_ev (a := 60) (b := 30) (k := 1) F (He.glo_ok z.X z.G (z.c.d.fact 34 rfl)) sc_samples_in rfl rfl (FunD.bindsN F fun _ _ _ _ _ _ us hl => match us, hl with | [_, _], _ => rfl) (show ∀ y g, List.lookup y (G_samples_in f_member_in f_greatest_of f_least_of) = some g → GlobOk P w K mg base0 (1) y g from (gl_cons ((o_member_in z).mono (by omega)) (gl_cons ((o_greatest_of z).mono (by omega)) (gl_cons ((o_least_of z).mono (by omega)) gl_nil)))) (show Reads f_samples_in 8 (svs 60 30 ⟨defScope (top 28), N_samples_in, fun _ => true, G_samples_in f_member_in f_greatest_of f_least_of⟩ (defBody (top 28))) from by rw [t_samples_in]; exact r_samples_in)
theorem sc_first_false : FnScope N_first_false ["test", "part"] (defScope (top 29)) := ⟨rfl, rfl, rfl, by decide +kernel, rfl, by decide +kernel, by decide +kernel⟩
theorem o_first_false (z : Hd K h mg) : GlobOk P w K mg base0 16 "first_false" (.fn (f_first_false 12)) := by
  obtain ⟨fd, F⟩ := z.c.d.def_ 16 (d := d_first_false) rfl
  exact glob_ev (a := 60) (b := 30) (k := 15) F (He.glo_ok z.X z.G (z.c.d.fact 35 rfl)) sc_first_false rfl rfl (FunD.bindsN F fun _ _ _ _ _ _ us hl => match us, hl with | [_, _], _ => rfl) (show ∀ y g, List.lookup y (G_first_false f_samples_in f_breaks_of (f_test_at 12)) = some g → GlobOk P w K mg base0 (15) y g from (gl_cons ((o_samples_in z).mono (by omega)) (gl_cons ((o_breaks_of z).mono (by omega)) (gl_cons ((o_test_at z 12).mono (by omega)) gl_nil)))) (show Reads (f_first_false 12) 1 (svs 60 30 ⟨defScope (top 29), N_first_false, fun _ => true, G_first_false f_samples_in f_breaks_of (f_test_at 12)⟩ (defBody (top 29))) from by rw [t_first_false]; exact r_first_false 12)
theorem sc_is_border : FnScope N_is_border ["value"] (defScope (top 30)) := ⟨rfl, rfl, rfl, by decide +kernel, rfl, by decide +kernel, by decide +kernel⟩
theorem o_is_border (z : Hd K h mg) : GlobOk P w K mg base0 2 "is_border" (.fn f_is_border) := by
  obtain ⟨fd, F⟩ := z.c.d.def_ 17 (d := d_is_border) rfl
  exact glob_ev (a := 60) (b := 30) (k := 1) F (He.glo_ok z.X z.G (z.c.d.fact 36 rfl)) sc_is_border rfl rfl (FunD.bindsN F fun _ _ _ _ _ _ us hl => match us, hl with | [_], _ => rfl) (show ∀ y g, List.lookup y (G_is_border f_is_whole) = some g → GlobOk P w K mg base0 (1) y g from (gl_cons ((o_is_whole z).mono (by omega)) (gl_cons (glob_int z.X z.G (z.c.d.fact 37 rfl)) gl_nil))) (show Reads f_is_border 0 (svs 60 30 ⟨defScope (top 30), N_is_border, fun _ => true, G_is_border f_is_whole⟩ (defBody (top 30))) from by rw [t_is_border]; exact r_is_border)
theorem sc_fits_part : FnScope N_fits_part ["value"] (defScope (top 31)) := ⟨rfl, rfl, rfl, by decide +kernel, rfl, by decide +kernel, by decide +kernel⟩
theorem o_fits_part (z : Hd K h mg) : GlobOk P w K mg base0 3 "fits_part" (.fn f_fits_part) := by
  obtain ⟨fd, F⟩ := z.c.d.def_ 18 (d := d_fits_part) rfl
  exact glob_ev (a := 60) (b := 30) (k := 2) F (He.glo_ok z.X z.G (z.c.d.fact 38 rfl)) sc_fits_part rfl rfl (FunD.bindsN F fun _ _ _ _ _ _ us hl => match us, hl with | [_], _ => rfl) (show ∀ y g, List.lookup y (G_fits_part f_is_tuple_of f_is_border f_is_whole) = some g → GlobOk P w K mg base0 (2) y g from (gl_cons ((o_is_tuple_of z).mono (by omega)) (gl_cons ((o_is_border z).mono (by omega)) (gl_cons ((o_is_whole z).mono (by omega)) (gl_cons (glob_int z.X z.G (z.c.d.fact 39 rfl)) gl_nil))))) (show Reads f_fits_part 0 (svs 60 30 ⟨defScope (top 31), N_fits_part, fun _ => true, G_fits_part f_is_tuple_of f_is_border f_is_whole⟩ (defBody (top 31))) from by rw [t_fits_part]; exact r_fits_part)
theorem sc_false_on : FnScope N_false_on ["test", "part"] (defScope (top 32)) := ⟨rfl, rfl, rfl, by decide +kernel, rfl, by decide +kernel, by decide +kernel⟩
theorem o_false_on (z : Hd K h mg) : GlobOk P w K mg base0 17 "false_on" (.fn (f_false_on 12)) := by
  obtain ⟨fd, F⟩ := z.c.d.def_ 19 (d := d_false_on) rfl
  exact glob_ev (a := 60) (b := 30) (k := 16) F (He.glo_ok z.X z.G (z.c.d.fact 40 rfl)) sc_false_on rfl rfl (FunD.bindsN F fun _ _ _ _ _ _ us hl => match us, hl with | [_, _], _ => rfl) (show ∀ y g, List.lookup y (G_false_on f_fits_test f_fits_part f_leaves_of (f_first_false 12)) = some g → GlobOk P w K mg base0 (16) y g from (gl_cons ((o_fits_test z).mono (by omega)) (gl_cons (glob_exc z.X z.G (z.c.d.fact 43 rfl) (z.c.d.fact 44 rfl)) (gl_cons ((o_fits_part z).mono (by omega)) (gl_cons (glob_blt z.X z.G (z.c.d.fact 9 rfl)) (gl_cons ((o_leaves_of z).mono (by omega)) (gl_cons (glob_exc z.X z.G (z.c.d.fact 41 rfl) (z.c.d.fact 42 rfl)) (gl_cons ((o_first_false z).mono (by omega)) gl_nil)))))))) (show Reads (f_false_on 12) 1 (svs 60 30 ⟨defScope (top 32), N_false_on, fun _ => true, G_false_on f_fits_test f_fits_part f_leaves_of (f_first_false 12)⟩ (defBody (top 32))) from by rw [t_false_on]; exact r_false_on 12)
theorem sc__law_cup : FnScope N__law_cup ["script"] (defScope (top 34)) := ⟨rfl, rfl, rfl, by decide +kernel, rfl, by decide +kernel, by decide +kernel⟩
theorem o__law_cup (z : Hd K h mg) : GlobOk P w K mg base0 1 "_law_cup" (.fn f__law_cup) := by
  obtain ⟨fd, F⟩ := z.c.d.def_ 20 (d := d__law_cup) rfl
  exact glob_ev (a := 60) (b := 30) (k := 0) F (He.glo_ok z.X z.G (z.c.d.fact 45 rfl)) sc__law_cup rfl rfl (FunD.bindsN F fun _ _ _ _ _ _ us hl => match us, hl with | [_], _ => rfl) (show ∀ y g, List.lookup y (G__law_cup) = some g → GlobOk P w K mg base0 (0) y g from (gl_cons (glob_blt z.X z.G (z.c.d.fact 46 rfl)) (gl_cons (glob_blt z.X z.G (z.c.d.fact 20 rfl)) (gl_cons (glob_blt z.X z.G (z.c.d.fact 2 rfl)) gl_nil)))) (show Reads f__law_cup 1 (svs 60 30 ⟨defScope (top 34), N__law_cup, fun _ => true, G__law_cup⟩ (defBody (top 34))) from by rw [t__law_cup]; exact r__law_cup)
theorem sc__law_roll : FnScope N__law_roll ["cup", "many"] (defScope (top 35)) := ⟨rfl, rfl, rfl, by decide +kernel, rfl, by decide +kernel, by decide +kernel⟩
theorem o__law_roll (z : Hd K h mg) : GlobOk P w K mg base0 1 "_law_roll" (.fn f__law_roll) := by
  obtain ⟨fd, F⟩ := z.c.d.def_ 21 (d := d__law_roll) rfl
  exact glob_ev (a := 60) (b := 30) (k := 0) F (He.glo_ok z.X z.G (z.c.d.fact 47 rfl)) sc__law_roll rfl rfl (FunD.bindsN F fun _ _ _ _ _ _ us hl => match us, hl with | [_, _], _ => rfl) (show ∀ y g, List.lookup y (G__law_roll) = some g → GlobOk P w K mg base0 (0) y g from (gl_cons (glob_blt z.X z.G (z.c.d.fact 2 rfl)) gl_nil)) (show Reads f__law_roll 2 (svs 60 30 ⟨defScope (top 35), N__law_roll, fun _ => true, G__law_roll⟩ (defBody (top 35))) from by rw [t__law_roll]; exact r__law_roll)
theorem sc__law_some : FnScope N__law_some ["cup", "things"] (defScope (top 36)) := ⟨rfl, rfl, rfl, by decide +kernel, rfl, by decide +kernel, by decide +kernel⟩
theorem o__law_some (z : Hd K h mg) : GlobOk P w K mg base0 2 "_law_some" (.fn f__law_some) := by
  obtain ⟨fd, F⟩ := z.c.d.def_ 22 (d := d__law_some) rfl
  exact glob_ev (a := 60) (b := 30) (k := 1) F (He.glo_ok z.X z.G (z.c.d.fact 48 rfl)) sc__law_some rfl rfl (FunD.bindsN F fun _ _ _ _ _ _ us hl => match us, hl with | [_, _], _ => rfl) (show ∀ y g, List.lookup y (G__law_some f__law_roll) = some g → GlobOk P w K mg base0 (1) y g from (gl_cons ((o__law_roll z).mono (by omega)) (gl_cons (glob_blt z.X z.G (z.c.d.fact 5 rfl)) gl_nil))) (show Reads f__law_some 0 (svs 60 30 ⟨defScope (top 36), N__law_some, fun _ => true, G__law_some f__law_roll⟩ (defBody (top 36))) from by rw [t__law_some]; exact r__law_some)
theorem sc__law_leaves : FnScope N__law_leaves ["test"] (defScope (top 37)) := ⟨rfl, rfl, rfl, by decide +kernel, rfl, by decide +kernel, by decide +kernel⟩
theorem o__law_leaves (z : Hd K h mg) : ∀ k, GlobOk P w K mg base0 (1 + k) "_law_leaves" (.fn (f__law_leaves k))
  | 0 => by
    obtain ⟨fd, F⟩ := z.c.d.def_ 23 (d := d__law_leaves) rfl
    exact (glob_vac (k := 0) F (He.glo_ok z.X z.G (z.c.d.fact 49 rfl)) sc__law_leaves (FunD.bindsN F fun _ _ _ _ _ _ us hl => match us, hl with | [_], _ => rfl) (fun ds Q X hl h => by obtain ⟨r, e, hq⟩ := h; obtain ⟨t, rfl, dp, _⟩ := e; cases t <;> simp [Tt.deep] at dp)).mono (by omega)
  | k + 1 => by
    obtain ⟨fd, F⟩ := z.c.d.def_ 23 (d := d__law_leaves) rfl
    exact glob_ev (a := 60) (b := 30) (k := 1 + k) F (He.glo_ok z.X z.G (z.c.d.fact 49 rfl)) sc__law_leaves rfl rfl (FunD.bindsN F fun _ _ _ _ _ _ us hl => match us, hl with | [_], _ => rfl) (show ∀ y g, List.lookup y (G__law_leaves (f__law_leaves k)) = some g → GlobOk P w K mg base0 (1 + k) y g from (gl_cons ((o__law_leaves z k).mono (by omega)) gl_nil)) (show Reads (f__law_leaves (k + 1)) 2 (svs 60 30 ⟨defScope (top 37), N__law_leaves, fun _ => true, G__law_leaves (f__law_leaves k)⟩ (defBody (top 37))) from by rw [t__law_leaves]; exact r__law_leaves k)
theorem sc__law_sum : FnScope N__law_sum ["row", "point"] (defScope (top 38)) := ⟨rfl, rfl, rfl, by decide +kernel, rfl, by decide +kernel, by decide +kernel⟩
theorem o__law_sum (z : Hd K h mg) : GlobOk P w K mg base0 1 "_law_sum" (.fn f_sum_at) := by
  obtain ⟨fd, F⟩ := z.c.d.def_ 24 (d := d__law_sum) rfl
  exact glob_ev (a := 60) (b := 30) (k := 0) F (He.glo_ok z.X z.G (z.c.d.fact 50 rfl)) sc__law_sum rfl rfl (FunD.bindsN F fun _ _ _ _ _ _ us hl => match us, hl with | [_, _], _ => rfl) (show ∀ y g, List.lookup y (G__law_sum) = some g → GlobOk P w K mg base0 (0) y g from (gl_cons (glob_blt z.X z.G (z.c.d.fact 23 rfl)) (gl_cons (glob_blt z.X z.G (z.c.d.fact 22 rfl)) gl_nil))) (show Reads f_sum_at 2 (svs 60 30 ⟨defScope (top 38), N__law_sum, fun _ => true, G__law_sum⟩ (defBody (top 38))) from by rw [t__law_sum]; exact r__law_sum)
theorem sc__law_test_at : FnScope N__law_test_at ["test", "point"] (defScope (top 39)) := ⟨rfl, rfl, rfl, by decide +kernel, rfl, by decide +kernel, by decide +kernel⟩
theorem o__law_test_at (z : Hd K h mg) : ∀ k, GlobOk P w K mg base0 (2 + k) "_law_test_at" (.fn (f__law_test_at k))
  | 0 => by
    obtain ⟨fd, F⟩ := z.c.d.def_ 25 (d := d__law_test_at) rfl
    exact (glob_vac (k := 0) F (He.glo_ok z.X z.G (z.c.d.fact 51 rfl)) sc__law_test_at (FunD.bindsN F fun _ _ _ _ _ _ us hl => match us, hl with | [_, _], _ => rfl) (fun ds Q X hl h => by obtain ⟨r, e, hq⟩ := h; obtain ⟨n, t, p, rfl, hn, ok, dp, rfl⟩ := e; cases t <;> simp [Tt.deep] at dp)).mono (by omega)
  | k + 1 => by
    obtain ⟨fd, F⟩ := z.c.d.def_ 25 (d := d__law_test_at) rfl
    exact glob_ev (a := 60) (b := 30) (k := 2 + k) F (He.glo_ok z.X z.G (z.c.d.fact 51 rfl)) sc__law_test_at rfl rfl (FunD.bindsN F fun _ _ _ _ _ _ us hl => match us, hl with | [_, _], _ => rfl) (show ∀ y g, List.lookup y (G__law_test_at f_sum_at (f__law_test_at k)) = some g → GlobOk P w K mg base0 (2 + k) y g from (gl_cons ((o__law_sum z).mono (by omega)) (gl_cons (glob_blt z.X z.G (z.c.d.fact 2 rfl)) (gl_cons ((o__law_test_at z k).mono (by omega)) gl_nil)))) (show Reads (f__law_test_at (k + 1)) 2 (svs 60 30 ⟨defScope (top 39), N__law_test_at, fun _ => true, G__law_test_at f_sum_at (f__law_test_at k)⟩ (defBody (top 39))) from by rw [t__law_test_at]; exact r__law_test_at k)
theorem sc__law_period : FnScope N__law_period ["test"] (defScope (top 40)) := ⟨rfl, rfl, rfl, by decide +kernel, rfl, by decide +kernel, by decide +kernel⟩
theorem o__law_period (z : Hd K h mg) : GlobOk P w K mg base0 14 "_law_period" (.fn (f__law_period 12)) := by
  obtain ⟨fd, F⟩ := z.c.d.def_ 26 (d := d__law_period) rfl
  exact glob_ev (a := 60) (b := 30) (k := 13) F (He.glo_ok z.X z.G (z.c.d.fact 52 rfl)) sc__law_period rfl rfl (FunD.bindsN F fun _ _ _ _ _ _ us hl => match us, hl with | [_], _ => rfl) (show ∀ y g, List.lookup y (G__law_period (f__law_leaves 12)) = some g → GlobOk P w K mg base0 (13) y g from (gl_cons (glob_blt z.X z.G (z.c.d.fact 53 rfl)) (gl_cons (glob_blt z.X z.G (z.c.d.fact 2 rfl)) (gl_cons ((o__law_leaves z 12).mono (by omega)) gl_nil)))) (show Reads (f__law_period 12) 3 (svs 60 30 ⟨defScope (top 40), N__law_period, fun _ => true, G__law_period (f__law_leaves 12)⟩ (defBody (top 40))) from by rw [t__law_period]; exact r__law_period 12)
theorem sc__law_leaf : FnScope N__law_leaf ["cup", "letters", "lead", "most", "divisors"] (defScope (top 41)) := ⟨rfl, rfl, rfl, by decide +kernel, rfl, by decide +kernel, by decide +kernel⟩
theorem o__law_leaf (z : Hd K h mg) : GlobOk P w K mg base0 3 "_law_leaf" (.fn f__law_leaf) := by
  obtain ⟨fd, F⟩ := z.c.d.def_ 27 (d := d__law_leaf) rfl
  exact glob_ev (a := 60) (b := 30) (k := 2) F (He.glo_ok z.X z.G (z.c.d.fact 54 rfl)) sc__law_leaf rfl rfl (FunD.bindsN F fun _ _ _ _ _ _ us hl => match us, hl with | [_, _, _, _, _], _ => rfl) (show ∀ y g, List.lookup y (G__law_leaf f__law_roll f__law_some) = some g → GlobOk P w K mg base0 (2) y g from (gl_cons (glob_blt z.X z.G (z.c.d.fact 6 rfl)) (gl_cons (glob_blt z.X z.G (z.c.d.fact 53 rfl)) (gl_cons ((o__law_roll z).mono (by omega)) (gl_cons (glob_z ((o__law_some z).mono (by omega))) gl_nil))))) (show Reads f__law_leaf 3 (svs 60 30 ⟨defScope (top 41), N__law_leaf, fun _ => true, G__law_leaf f__law_roll f__law_some⟩ (defBody (top 41))) from by rw [t__law_leaf]; exact r__law_leaf)
theorem sc__law_test : FnScope N__law_test ["cup", "letters", "leaves", "lead", "most", "divisors"] (defScope (top 42)) := ⟨rfl, rfl, rfl, by decide +kernel, rfl, by decide +kernel, by decide +kernel⟩
theorem o__law_test (z : Hd K h mg) : ∀ k, GlobOk P w K mg base0 (4 + k) "_law_test" (.fn (f__law_test k))
  | 0 => by
    obtain ⟨fd, F⟩ := z.c.d.def_ 28 (d := d__law_test) rfl
    exact (glob_vac (k := 0) F (He.glo_ok z.X z.G (z.c.d.fact 55 rfl)) sc__law_test (FunD.bindsN F fun _ _ _ _ _ _ us hl => match us, hl with | [_, _, _, _, _, _], _ => rfl) (fun ds Q X hl h => by obtain ⟨c, r, e, hc, ⟨n, L, lead, most, divs, e2, h1, h2, _⟩, _⟩ := h; omega)).mono (by omega)
  | k + 1 => by
    obtain ⟨fd, F⟩ := z.c.d.def_ 28 (d := d__law_test) rfl
    exact glob_ev (a := 60) (b := 30) (k := 4 + k) F (He.glo_ok z.X z.G (z.c.d.fact 55 rfl)) sc__law_test rfl rfl (FunD.bindsN F fun _ _ _ _ _ _ us hl => match us, hl with | [_, _, _, _, _, _], _ => rfl) (show ∀ y g, List.lookup y (G__law_test f__law_roll f__law_leaf (f__law_test k) f__law_some) = some g → GlobOk P w K mg base0 (4 + k) y g from (gl_cons ((o__law_roll z).mono (by omega)) (gl_cons ((o__law_leaf z).mono (by omega)) (gl_cons ((o__law_test z k).mono (by omega)) (gl_cons (glob_z ((o__law_some z).mono (by omega))) gl_nil))))) (show Reads (f__law_test (k + 1)) 4 (svs 60 30 ⟨defScope (top 42), N__law_test, fun _ => true, G__law_test f__law_roll f__law_leaf (f__law_test k) f__law_some⟩ (defBody (top 42))) from by rw [t__law_test]; exact r__law_test k)
theorem sc__law_in : FnScope N__law_in ["part", "number"] (defScope (top 43)) := ⟨rfl, rfl, rfl, by decide +kernel, rfl, by decide +kernel, by decide +kernel⟩
theorem o__law_in (z : Hd K h mg) : GlobOk P w K mg base0 1 "_law_in" (.fn f__law_in) := by
  obtain ⟨fd, F⟩ := z.c.d.def_ 29 (d := d__law_in) rfl
  exact glob_ev (a := 60) (b := 30) (k := 0) F (He.glo_ok z.X z.G (z.c.d.fact 56 rfl)) sc__law_in rfl rfl (FunD.bindsN F fun _ _ _ _ _ _ us hl => match us, hl with | [_, _], _ => rfl) (show ∀ y g, List.lookup y (G__law_in) = some g → GlobOk P w K mg base0 (0) y g from (gl_cons (glob_blt z.X z.G (z.c.d.fact 2 rfl)) gl_nil)) (show Reads f__law_in 4 (svs 60 30 ⟨defScope (top 43), N__law_in, fun _ => true, G__law_in⟩ (defBody (top 43))) from by rw [t__law_in]; exact r__law_in)
theorem sc__law_window : FnScope N__law_window ["low", "high"] (defScope (top 44)) := ⟨rfl, rfl, rfl, by decide +kernel, rfl, by decide +kernel, by decide +kernel⟩
theorem o__law_window (z : Hd K h mg) : GlobOk P w K mg base0 1 "_law_window" (.fn f__law_window) := by
  obtain ⟨fd, F⟩ := z.c.d.def_ 30 (d := d__law_window) rfl
  exact glob_ev (a := 60) (b := 30) (k := 0) F (He.glo_ok z.X z.G (z.c.d.fact 57 rfl)) sc__law_window rfl rfl (FunD.bindsN F fun _ _ _ _ _ _ us hl => match us, hl with | [_, _], _ => rfl) (show ∀ y g, List.lookup y (G__law_window) = some g → GlobOk P w K mg base0 (0) y g from (gl_cons (glob_blt z.X z.G (z.c.d.fact 33 rfl)) (gl_cons (glob_blt z.X z.G (z.c.d.fact 31 rfl)) (gl_cons (glob_blt z.X z.G (z.c.d.fact 20 rfl)) (gl_cons (glob_blt z.X z.G (z.c.d.fact 53 rfl)) gl_nil))))) (show Reads f__law_window 2 (svs 60 30 ⟨defScope (top 44), N__law_window, fun _ => true, G__law_window⟩ (defBody (top 44))) from by rw [t__law_window]; exact r__law_window)
theorem sc__law_great : FnScope N__law_great ["cup"] (defScope (top 45)) := ⟨rfl, rfl, rfl, by decide +kernel, rfl, by decide +kernel, by decide +kernel⟩
theorem o__law_great (z : Hd K h mg) : GlobOk P w K mg base0 3 "_law_great" (.fn f__law_great) := by
  obtain ⟨fd, F⟩ := z.c.d.def_ 31 (d := d__law_great) rfl
  exact glob_ev (a := 60) (b := 30) (k := 2) F (He.glo_ok z.X z.G (z.c.d.fact 58 rfl)) sc__law_great rfl rfl (FunD.bindsN F fun _ _ _ _ _ _ us hl => match us, hl with | [_], _ => rfl) (show ∀ y g, List.lookup y (G__law_great f__law_roll f__law_some) = some g → GlobOk P w K mg base0 (2) y g from (gl_cons (glob_blt z.X z.G (z.c.d.fact 53 rfl)) (gl_cons ((o__law_roll z).mono (by omega)) (gl_cons (glob_z ((o__law_some z).mono (by omega))) gl_nil)))) (show Reads f__law_great 4 (svs 60 30 ⟨defScope (top 45), N__law_great, fun _ => true, G__law_great f__law_roll f__law_some⟩ (defBody (top 45))) from by rw [t__law_great]; exact r__law_great)
theorem sc__law_places : FnScope N__law_places ["test", "part"] (defScope (top 46)) := ⟨rfl, rfl, rfl, by decide +kernel, rfl, by decide +kernel, by decide +kernel⟩
theorem o__law_places (z : Hd K h mg) : GlobOk P w K mg base0 14 "_law_places" (.fn (f__law_places 12)) := by
  obtain ⟨fd, F⟩ := z.c.d.def_ 32 (d := d__law_places) rfl
  exact glob_ev (a := 60) (b := 30) (k := 13) F (He.glo_ok z.X z.G (z.c.d.fact 59 rfl)) sc__law_places rfl rfl (FunD.bindsN F fun _ _ _ _ _ _ us hl => match us, hl with | [_, _], _ => rfl) (show ∀ y g, List.lookup y (G__law_places (f__law_leaves 12)) = some g → GlobOk P w K mg base0 (13) y g from (gl_cons ((o__law_leaves z 12).mono (by omega)) (gl_cons (glob_blt z.X z.G (z.c.d.fact 28 rfl)) (gl_cons (glob_blt z.X z.G (z.c.d.fact 60 rfl)) (gl_cons (glob_blt z.X z.G (z.c.d.fact 20 rfl)) (gl_cons (glob_blt z.X z.G (z.c.d.fact 53 rfl)) gl_nil)))))) (show Reads (f__law_places 12) 5 (svs 60 30 ⟨defScope (top 46), N__law_places, fun _ => true, G__law_places (f__law_leaves 12)⟩ (defBody (top 46))) from by rw [t__law_places]; exact r__law_places 12)
theorem sc__law_is_told : FnScope N__law_is_told ["told", "due", "test", "part"] (defScope (top 47)) := ⟨rfl, rfl, rfl, by decide +kernel, rfl, by decide +kernel, by decide +kernel⟩
theorem o__law_is_told (z : Hd K h mg) : GlobOk P w K mg base0 15 "_law_is_told" (.fn (f__law_is_told 12)) := by
  obtain ⟨fd, F⟩ := z.c.d.def_ 33 (d := d__law_is_told) rfl
  exact glob_ev (a := 60) (b := 30) (k := 14) F (He.glo_ok z.X z.G (z.c.d.fact 61 rfl)) sc__law_is_told rfl rfl (FunD.bindsN F fun _ _ _ _ _ _ us hl => match us, hl with | [_, _, _, _], _ => rfl) (show ∀ y g, List.lookup y (G__law_is_told f__law_in (f__law_test_at 12)) = some g → GlobOk P w K mg base0 (14) y g from (gl_cons (glob_blt z.X z.G (z.c.d.fact 3 rfl)) (gl_cons (glob_blt z.X z.G (z.c.d.fact 2 rfl)) (gl_cons (glob_blt z.X z.G (z.c.d.fact 1 rfl)) (gl_cons ((o__law_in z).mono (by omega)) (gl_cons ((o__law_test_at z 12).mono (by omega)) gl_nil)))))) (show Reads (f__law_is_told 12) 0 (svs 60 30 ⟨defScope (top 47), N__law_is_told, fun _ => true, G__law_is_told f__law_in (f__law_test_at 12)⟩ (defBody (top 47))) from by rw [t__law_is_told]; exact r__law_is_told 12)
theorem sc__law_far : FnScope N__law_far ["cup"] (defScope (top 48)) := ⟨rfl, rfl, rfl, by decide +kernel, rfl, by decide +kernel, by decide +kernel⟩
theorem o__law_far (z : Hd K h mg) : GlobOk P w K mg base0 18 "_law_far" (.fn f__law_far) := by
  obtain ⟨fd, F⟩ := z.c.d.def_ 34 (d := d__law_far) rfl
  exact glob_ev (a := 60) (b := 30) (k := 17) F (He.glo_ok z.X z.G (z.c.d.fact 62 rfl)) sc__law_far rfl rfl (FunD.bindsN F fun _ _ _ _ _ _ us hl => match us, hl with | [_], _ => rfl) (show ∀ y g, List.lookup y (G__law_far f__law_great f__law_some f__law_roll (f__law_places 12) (f__law_is_told 12) (f_false_on 12) (f__law_period 12) f__law_in (f__law_test_at 12)) = some g → GlobOk P w K mg base0 (17) y g from (gl_cons ((o__law_great z).mono (by omega)) (gl_cons (glob_z ((o__law_some z).mono (by omega))) (gl_cons (glob_blt z.X z.G (z.c.d.fact 53 rfl)) (gl_cons ((o__law_roll z).mono (by omega)) (gl_cons ((o__law_places z).mono (by omega)) (gl_cons ((o__law_is_told z).mono (by omega)) (gl_cons ((o_false_on z).mono (by omega)) (gl_cons (glob_blt z.X z.G (z.c.d.fact 2 rfl)) (gl_cons ((o__law_period z).mono (by omega)) (gl_cons ((o__law_in z).mono (by omega)) (gl_cons ((o__law_test_at z 12).mono (by omega)) gl_nil)))))))))))) (show Reads f__law_far 6 (svs 60 30 ⟨defScope (top 48), N__law_far, fun _ => true, G__law_far f__law_great f__law_some f__law_roll (f__law_places 12) (f__law_is_told 12) (f_false_on 12) (f__law_period 12) f__law_in (f__law_test_at 12)⟩ (defBody (top 48))) from by rw [t__law_far]; exact r__law_far 12 (by omega))
theorem sc__law_refused : FnScope N__law_refused ["test", "part"] (defScope (top 49)) := ⟨rfl, rfl, rfl, by decide +kernel, rfl, by decide +kernel, by decide +kernel⟩
theorem o__law_refused (z : Hd K h mg) : GlobOk P w K mg base0 18 "_law_refused" (.fn f__law_refused) := by
  obtain ⟨fd, F⟩ := z.c.d.def_ 35 (d := d__law_refused) rfl
  exact ⟨_, fd, _, def_try (a := 60) (b := 30) (k := 17) (tbl := tblOf tab55) F sc__law_refused rfl (m := 1) rfl rfl (show ∀ y g, List.lookup y (G__law_refused (f_false_on 12)) = some g → GlobOk P w K mg base0 (17) y g from (gl_cons ((o_false_on z).mono (by omega)) (gl_cons (glob_exc z.X z.G (z.c.d.fact 64 rfl) (z.c.d.fact 65 rfl)) (gl_cons (glob_blt z.X z.G (z.c.d.fact 3 rfl)) (gl_cons (glob_exc z.X z.G (z.c.d.fact 43 rfl) (z.c.d.fact 44 rfl)) (gl_cons (glob_exc z.X z.G (z.c.d.fact 41 rfl) (z.c.d.fact 42 rfl)) gl_nil)))))) b__law_refused rfl (by decide +kernel) (by decide +kernel) (tabB_ok z.X z.G z.c.more) (fun ds Qd X hl hs => by
    simp only [t__law_refused, u__law_refused, ghv__law_refused]
    exact r__law_refused 12 ds Qd X hl hs), (He.glo_ok z.X z.G (z.c.d.fact 63 rfl)), F.kp, (FunD.bindsN F fun _ _ _ _ _ _ us hl => match us, hl with | [_, _], _ => rfl)⟩
theorem sc__law_written : FnScope N__law_written [] (defScope (top 50)) := ⟨rfl, rfl, rfl, by decide +kernel, rfl, by decide +kernel, by decide +kernel⟩
theorem o__law_written (z : Hd K h mg) : GlobOk P w K mg base0 19 "_law_written" (.fn f__law_written) := by
  obtain ⟨fd, F⟩ := z.c.d.def_ 36 (d := d__law_written) rfl
  exact glob_ev (a := 60) (b := 30) (k := 18) F (He.glo_ok z.X z.G (z.c.d.fact 66 rfl)) sc__law_written rfl rfl (FunD.bindsN F fun _ _ _ _ _ _ us hl => match us, hl with | [], _ => rfl) (show ∀ y g, List.lookup y (G__law_written (f__law_is_told 12) (f_false_on 12) f__law_refused) = some g → GlobOk P w K mg base0 (18) y g from (gl_cons ((o__law_is_told z).mono (by omega)) (gl_cons ((o_false_on z).mono (by omega)) (gl_cons ((o__law_refused z).mono (by omega)) gl_nil)))) (show Reads f__law_written 8 (svs 60 30 ⟨defScope (top 50), N__law_written, fun _ => true, G__law_written (f__law_is_told 12) (f_false_on 12) f__law_refused⟩ (defBody (top 50))) from by rw [t__law_written]; exact r__law_written 12 (by omega))
theorem sc_law : FnScope N_law ["script"] (defScope (top 51)) := ⟨rfl, rfl, rfl, by decide +kernel, rfl, by decide +kernel, by decide +kernel⟩
theorem o_law (z : Hd K h mg) {fd : FuncData} (F : FunD K "law" "law" (defArgs (top 51)) (defBody (top 51)) (defScope (top 51)) [] [] (He.ga K "law") fd) : FnOk P w K mg base0 (L2.CX P w) 20 (He.ga K "law") fd ["script"] (spD K mg f_law) :=
  def_ev (a := 60) (b := 30) (k := 19) F sc_law rfl rfl (show ∀ y g, List.lookup y (G_law f__law_cup (f__law_test 12) f__law_roll f__law_some (f__law_period 12) f__law_window (f__law_is_told 12) (f_false_on 12) f__law_far f__law_refused f__law_written f__law_in (f__law_test_at 12)) = some g → GlobOk P w K mg base0 (19) y g from (gl_cons ((o__law_cup z).mono (by omega)) (gl_cons ((o__law_test z 12).mono (by omega)) (gl_cons ((o__law_roll z).mono (by omega)) (gl_cons (glob_z ((o__law_some z).mono (by omega))) (gl_cons ((o__law_period z).mono (by omega)) (gl_cons (glob_blt z.X z.G (z.c.d.fact 53 rfl)) (gl_cons ((o__law_window z).mono (by omega)) (gl_cons ((o__law_is_told z).mono (by omega)) (gl_cons ((o_false_on z).mono (by omega)) (gl_cons ((o__law_far z).mono (by omega)) (gl_cons (glob_blt z.X z.G (z.c.d.fact 20 rfl)) (gl_cons ((o__law_refused z).mono (by omega)) (gl_cons ((o__law_written z).mono (by omega)) (gl_cons (glob_blt z.X z.G (z.c.d.fact 2 rfl)) (gl_cons ((o__law_in z).mono (by omega)) (gl_cons ((o__law_test_at z 12).mono (by omega)) gl_nil))))))))))))))))) (show Reads f_law 12 (svs 60 30 ⟨defScope (top 51), N_law, fun _ => true, G_law f__law_cup (f__law_test 12) f__law_roll f__law_some (f__law_period 12) f__law_window (f__law_is_told 12) (f_false_on 12) f__law_far f__law_refused f__law_written f__law_in (f__law_test_at 12)⟩ (defBody (top 51))) from by rw [t_law]; exact r_law 12 (by omega))
end
theorem facts {P : Program} {w : World} {K : PySem.W.Frag} {h : Heap} {mg : Str → Option Value} {f : Addr} (X : K.In h) (G : h.Ns mainGlobals mg) (hfa : mg ("law" : Str) = some (.ref f)) (c : SaysQ fa fn exB K) :
    ∃ fd : FuncData, (∀ (s : Shared) (v : Value), BindsTo s fd ⟨[v], []⟩ [("script", v)]) ∧ ∀ base : Heap, K.In base → base.Ns mainGlobals mg → FnOk P w K mg base (L2.CX P w) 20 f fd ["script"] (spD K mg f_law) := by
  obtain ⟨fd, F⟩ := c.d.def_ 37 (d := d_law) rfl
  have e := hfa.symm.trans (He.glo_ok X G (c.d.fact 67 (f := .glo "law") rfl))
  cases e
  have b := FunD.bindsA (ps := ["script"]) F fun _ _ _ _ _ _ us hl => match us, hl with | [_], _ => rfl
  exact ⟨fd, fun s v => b s [v] rfl, fun base _ _ => o_law ⟨X, G, c⟩ F⟩
end DL
end L2
set_option Elab.async false
set_option maxRecDepth 100000
set_option maxHeartbeats 0
open PySem PySem.W PyProof.Rows
theorem PySem.Challenge.cw_countlaw_k55_false_on_parts_holds : PySem.Challenge.rw_countlaw_k55_false_on_parts.Holds := by
  w_on; o_law
  refine HandSHeadRun.head_any (r := OpenLaw.row PySem.Challenge.rw_countlaw_k55_false_on_parts) (q := view (OpenLaw.row PySem.Challenge.rw_countlaw_k55_false_on_parts).prog [51]) (H := L2.DL.hk) (ob := L2.DL.ob) (M := 40000) (loose := L2.DL.namA) (d := HandSHeadRun.topDef (OpenLaw.row PySem.Challenge.rw_countlaw_k55_false_on_parts).prog 51) (kwd := []) L2.DL.ob_eq
    (by kernel_rfl) (fun s => by kernel_rfl) L2.DL.run (by kernel_rfl) (by kernel_rfl) (by kernel_rfl) (by rfl) (by first | assumption | decide +kernel) (by decide +kernel) ⟨rfl, rfl, rfl, rfl, rfl, by decide +kernel⟩ ?hw ?hc
  case hw => w_witness2
  case hc =>
    refine L2.DL.walk_ofW (l := PySem.Challenge.rw_countlaw_k55_false_on_parts) (n := 63) (k := 20) (x := "script") rfl (by decide) (by kernel_rfl) ⟨rfl, by decide, by decide⟩ ?F
    intro w mg fa h Y G hmg0
    obtain ⟨K, KX, c⟩ := Y
    have hmg : mg ("law" : PySem.Str) = some (.ref fa) := by
      have e : (HandSHeadRun.topDef (OpenLaw.row PySem.Challenge.rw_countlaw_k55_false_on_parts).prog 51).name = ("law" : PySem.Str) := by kernel_rfl
      rw [← e]
      exact hmg0
    obtain ⟨fd, hb, hF⟩ := L2.DL.facts (P := (PySem.Challenge.rw_countlaw_k55_false_on_parts).prog) (w := w) KX G hmg c
    exact ⟨K, fd, _, KX, hb, fun H a ns hl _ hS => L2.DL.law_sp (by omega) hS, hF⟩
