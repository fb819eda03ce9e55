import PyProof.Rows.All
import Wide.All
import OpenK.AllK
import Wide.FinOn
import HandS.ForMost
import HandS.ForExc
import HandS.Lambda
import HandS.HeadHook4
import HandS.ExcCtx
import HandS.Wide
import HandS.TupAny
import HandS.Deep
import HandS.TupLe
import HandS.IsInst
import HandS.Codes
import HandS.DictComp
import HandS.Conv
import HandS.TupLen
import HandS.SortInts
import HandS.Rev
import HandS.RevRange
import KE.GoesEnum
import HandS.Strs
import HandS.TupMul
import HandS.Style
import HandS.HotCalls
import HandS.ExcIs
import HandS.WordsExc
import HandS.EndTab
import HandS.NestedK
import KE.KStateDown
import HandS.Ends
import HandS.EndBits
import HandS.Defaults
import HandS.Head0
import HandS.Head1
import HandS.Head2
import HandS.HeadEnd
import HandS.HeadHook1
import HandS.HeadHook2
import PySem.Challenge.RW_flowkeep_k07_whole_formulas
set_option Elab.async false
set_option linter.all false
set_option maxRecDepth 100000
/-! A pure evaluator for the language of the program: values are plain data or places in a store of lists and dicts.
Each rule says: what the evaluator reckons is what the model of Python does. -/
namespace Fk
open PySem PySem.Spec L2
set_option autoImplicit false

inductive D where
  | p (d : PyData)
  | r (i : Nat)
  | s (ns : List Int)
  | g (ds : List PyData)
  | o (a : Addr)
inductive O where
  | lst (l : List D)
  | dK (l : List (Key × D))
  | dT (l : List (List Key × D))
  | lk (o : O)
  | dead
inductive R (α : Type) where
  | ok (a : α) (st : List O)
  | ex (c : Str) (st : List O)
  | bad
abbrev En := List (Option D)
abbrev M (α : Type) := List Nat → En → List O → R α
inductive RS where
  | nx (env : En) (st : List O)
  | rt (d : D) (st : List O)
  | bk (env : En) (st : List O)
  | ct (env : En) (st : List O)
  | ex (c : Str) (st : List O)
  | bad
abbrev MS := List Nat → En → List O → RS

structure Wd where
  F : Hp
  ρ : List Addr
  G : Hp
structure Wd.le (a b : Wd) : Prop where
  f : ∀ x o, a.F x = some o → b.F x = some o
  r : a.ρ <+: b.ρ
  g : b.G = a.G
theorem Wd.le.refl (a : Wd) : a.le a := ⟨fun _ _ h => h, List.prefix_refl _, rfl⟩
theorem Wd.le.trans {a b c : Wd} (h : a.le b) (h' : b.le c) : a.le c := ⟨fun x o e => h'.f x o (h.f x o e), h.r.trans h'.r, h'.g.trans h.g⟩

/-! ### pure data in a heap that does not change -/
def kP : Key → PyData
  | .inl i => .int i
  | .inr x => .str x
mutual
inductive Rp (K : PySem.W.Frag) (F : Hp) : V → PyData → Prop
  | non : Rp K F .non .none
  | bl (b : Bool) : Rp K F (.bl b) (.bool b)
  | int (i : Int) : Rp K F (.int i) (.int i)
  | str (x : Str) : Rp K F (.str x) (.str x)
  | lst {a : Addr} {xs : List V} {ds : List PyData} : F a = some (.lst xs) → RpA K F xs ds → Rp K F (.ref a) (.list ds)
  | tup {a : Addr} {xs : List V} {ds : List PyData} : F a = some (.tup xs) → RpA K F xs ds → Rp K F (.ref a) (.tuple ds)
  | dK {a : Addr} {kvs : List (Key × V)} {ds : List (PyData × PyData)} : F a = some (.dK kvs) → RpK K F kvs ds → Rp K F (.ref a) (.dict ds)
  | dT {a : Addr} {kvs : List (List Key × V)} {ds : List (PyData × PyData)} : F a = some (.dT kvs) → kvs ≠ [] → RpT K F kvs ds → Rp K F (.ref a) (.dict ds)
inductive RpA (K : PySem.W.Frag) (F : Hp) : List V → List PyData → Prop
  | nil : RpA K F [] []
  | cons {v : V} {vs : List V} {d : PyData} {ds : List PyData} : Rp K F v d → RpA K F vs ds → RpA K F (v :: vs) (d :: ds)
inductive RpK (K : PySem.W.Frag) (F : Hp) : List (Key × V) → List (PyData × PyData) → Prop
  | nil : RpK K F [] []
  | cons {k : Key} {v : V} {kvs : List (Key × V)} {d : PyData} {ds : List (PyData × PyData)} : Rp K F v d → RpK K F kvs ds → RpK K F ((k, v) :: kvs) ((kP k, d) :: ds)
inductive RpT (K : PySem.W.Frag) (F : Hp) : List (List Key × V) → List (PyData × PyData) → Prop
  | nil : RpT K F [] []
  | cons {k : List Key} {v : V} {kvs : List (List Key × V)} {d : PyData} {ds : List (PyData × PyData)} : Rp K F v d → RpT K F kvs ds → RpT K F ((k, v) :: kvs) ((.tuple (k.map kP), d) :: ds)
end
section
variable {K : PySem.W.Frag} {F F' : Hp}
theorem Rd.sub {a : Addr} {u : HO} (e : ∀ x o, F x = some o → F' x = some o) (h : Rd F a u) : Rd F' a u := by
  rcases h with h | ⟨o, h⟩
  · exact .inl (e _ _ h)
  · exact .inr ⟨o, e _ _ h⟩
theorem SqL.sub {a : Addr} {xs : List V} (e : ∀ x o, F x = some o → F' x = some o) (h : SqL K F a xs) : SqL K F' a xs := by
  rcases h with h | h
  · exact .inl (Rd.sub e h)
  · exact .inr h
theorem SqT.sub {a : Addr} {xs : List V} (e : ∀ x o, F x = some o → F' x = some o) (h : SqT K F a xs) : SqT K F' a xs := by
  rcases h with h | h
  · exact .inl (Rd.sub e h)
  · exact .inr h
mutual
theorem Rp.sub (e : ∀ x o, F x = some o → F' x = some o) : ∀ {v : V} {d : PyData}, Rp K F v d → Rp K F' v d
  | _, _, .non => .non
  | _, _, .bl b => .bl b
  | _, _, .int i => .int i
  | _, _, .str x => .str x
  | _, _, .lst h r => .lst (e _ _ h) (RpA.sub e r)
  | _, _, .tup h r => .tup (e _ _ h) (RpA.sub e r)
  | _, _, .dK h r => .dK (e _ _ h) (RpK.sub e r)
  | _, _, .dT h n r => .dT (e _ _ h) n (RpT.sub e r)
theorem RpA.sub (e : ∀ x o, F x = some o → F' x = some o) : ∀ {v : List V} {d : List PyData}, RpA K F v d → RpA K F' v d
  | _, _, .nil => .nil
  | _, _, .cons h r => .cons (Rp.sub e h) (RpA.sub e r)
theorem RpK.sub (e : ∀ x o, F x = some o → F' x = some o) : ∀ {v : List (Key × V)} {d : List (PyData × PyData)}, RpK K F v d → RpK K F' v d
  | _, _, .nil => .nil
  | _, _, .cons h r => .cons (Rp.sub e h) (RpK.sub e r)
theorem RpT.sub (e : ∀ x o, F x = some o → F' x = some o) : ∀ {v : List (List Key × V)} {d : List (PyData × PyData)}, RpT K F v d → RpT K F' v d
  | _, _, .nil => .nil
  | _, _, .cons h r => .cons (Rp.sub e h) (RpT.sub e r)
end
theorem RpA.length : ∀ {vs : List V} {ds : List PyData}, RpA K F vs ds → vs.length = ds.length
  | _, _, .nil => rfl
  | _, _, .cons _ r => by simp [RpA.length r]
theorem RpA.get : ∀ {vs : List V} {ds : List PyData} {i : Nat} {d : PyData}, RpA K F vs ds → ds[i]? = some d → ∃ v, vs[i]? = some v ∧ Rp K F v d
  | _, _, _, _, .nil, e => by simp at e
  | _, _, 0, _, .cons h _, e => by simp at e; subst e; exact ⟨_, rfl, h⟩
  | _, _, i + 1, _, .cons _ r, e => by simpa using RpA.get r (by simpa using e)
theorem RpA.append : ∀ {vs us : List V} {ds es : List PyData}, RpA K F vs ds → RpA K F us es → RpA K F (vs ++ us) (ds ++ es)
  | _, _, _, _, .nil, s => s
  | _, _, _, _, .cons h r, s => .cons h (RpA.append r s)
theorem RpA.drop : ∀ {vs : List V} {ds : List PyData} (n : Nat), RpA K F vs ds → RpA K F (vs.drop n) (ds.drop n)
  | _, _, 0, r => r
  | _, _, _ + 1, .nil => .nil
  | _, _, n + 1, .cons _ r => RpA.drop n r
theorem RpA.take : ∀ {vs : List V} {ds : List PyData} (n : Nat), RpA K F vs ds → RpA K F (vs.take n) (ds.take n)
  | _, _, 0, _ => .nil
  | _, _, _ + 1, .nil => .nil
  | _, _, n + 1, .cons h r => .cons h (RpA.take n r)
theorem RpA.reverse : ∀ {vs : List V} {ds : List PyData}, RpA K F vs ds → RpA K F vs.reverse ds.reverse
  | _, _, .nil => .nil
  | _, _, .cons h r => by
    rw [List.reverse_cons, List.reverse_cons]
    exact (RpA.reverse r).append (.cons h .nil)
theorem RpA.ints : ∀ {ns : List Int}, RpA K F (ns.map V.int) (ns.map PyData.int)
  | [] => .nil
  | n :: _ => .cons (.int n) RpA.ints
theorem RpA.of_ints : ∀ {ns : List Int} {vs : List V}, RpA K F vs (ns.map PyData.int) → vs = ns.map V.int
  | [], _, .nil => rfl
  | n :: ns, _, .cons (.int _) r => by rw [RpA.of_ints r]; rfl
theorem RpA.of_strs : ∀ {ns : List Str} {vs : List V}, RpA K F vs (ns.map PyData.str) → vs = ns.map V.str
  | [], _, .nil => rfl
  | n :: ns, _, .cons (.str _) r => by rw [RpA.of_strs r]; rfl
theorem RpA.of_bls : ∀ {ns : List Bool} {vs : List V}, RpA K F vs (ns.map PyData.bool) → vs = ns.map V.bl
  | [], _, .nil => rfl
  | n :: ns, _, .cons (.bl _) r => by rw [RpA.of_bls r]; rfl
theorem RpA.strs : ∀ {ns : List Str}, RpA K F (ns.map V.str) (ns.map PyData.str)
  | [] => .nil
  | n :: _ => .cons (.str n) RpA.strs
end

/-! ### values -/
def RD (K : PySem.W.Frag) (w : Wd) (v : V) : D → Prop
  | .p d => Rp K w.F v d
  | .r i => ∃ a, w.ρ[i]? = some a ∧ v = .ref a
  | .s ns => ∃ a, v = .ref a ∧ SqL K w.F a (ns.map V.int)
  | .g ds => ∃ a vs, v = .ref a ∧ SqT K w.F a vs ∧ RpA K w.F vs ds
  | .o a => v = .ref a
abbrev RDs (K : PySem.W.Frag) (w : Wd) : List V → List D → Prop := Paired (RD K w)
theorem prefix_get {α : Type} {a b : List α} {i : Nat} {x : α} (h : a <+: b) (e : a[i]? = some x) : b[i]? = some x := by
  obtain ⟨t, rfl⟩ := h
  have hl : i < a.length := (List.getElem?_eq_some_iff.mp e).1
  rw [List.getElem?_append_left hl]
  exact e
section
variable {K : PySem.W.Frag} {w w' : Wd}
theorem RD.mono {v : V} {d : D} (l : w.le w') (h : RD K w v d) : RD K w' v d := by
  cases d with
  | p d => exact Rp.sub l.f h
  | r i =>
    obtain ⟨a, e, q⟩ := h
    exact ⟨a, prefix_get l.r e, q⟩
  | s ns =>
    obtain ⟨a, e, q⟩ := h
    exact ⟨a, e, SqL.sub l.f q⟩
  | g ds =>
    obtain ⟨a, vs, e, q, r⟩ := h
    exact ⟨a, vs, e, SqT.sub l.f q, r.sub l.f⟩
  | o a => exact h
theorem RDs.mono {vs : List V} {ds : List D} (l : w.le w') (h : RDs K w vs ds) : RDs K w' vs ds := Paired.mapP h fun _ _ q => RD.mono l q
end

/-! ### objects, the store -/
def RO (K : PySem.W.Frag) (w : Wd) : HO → O → Prop
  | .lst vs, .lst ds => RDs K w vs ds
  | .dK kvs, .dK l => Paired (fun (p : Key × V) (q : Key × D) => p.1 = q.1 ∧ RD K w p.2 q.2) kvs l
  | .dT kvs, .dT l => Paired (fun (p : List Key × V) (q : List Key × D) => p.1 = q.1 ∧ RD K w p.2 q.2) kvs l
  | _, _ => False
theorem RO.mono {K : PySem.W.Frag} {w w' : Wd} {ho : HO} {o : O} (l : w.le w') (h : RO K w ho o) : RO K w' ho o := by
  cases ho <;> cases o <;> first | exact False.elim h | skip
  · exact RDs.mono l h
  · exact Paired.mapP h fun _ _ q => ⟨q.1, RD.mono l q.2⟩
  · exact Paired.mapP h fun _ _ q => ⟨q.1, RD.mono l q.2⟩
theorem RO.mut {K : PySem.W.Frag} {w : Wd} {ho : HO} {o : O} (h : RO K w ho o) : Mut (some ho) := by
  cases ho <;> cases o <;> first | exact False.elim h | exact True.intro
/-- the places that an object names -/
def O.refs : O → List Nat
  | .lst l => l.filterMap fun d => match d with | .r i => some i | _ => none
  | .dK l => l.filterMap fun d => match d.2 with | .r i => some i | _ => none
  | .dT l => l.filterMap fun d => match d.2 with | .r i => some i | _ => none
  | .lk o => o.refs
  | .dead => []
def AtO (K : PySem.W.Frag) (w : Wd) (H : Hp) (a : Addr) : O → Prop
  | .dead => True
  | .lk o => ∃ od u, w.F a = none ∧ w.G a = some (.frz od u) ∧ RO K w u o
  | o => w.F a = none ∧ w.G a = none ∧ ∃ ho, H a = some ho ∧ RO K w ho o
def O.alive : O → Bool
  | .dead => false
  | _ => true
def isD : HO → Bool
  | .dK _ => true
  | .dT _ => true
  | _ => false
/-! ### tables of code objects (lambdas are made): they grow, nothing else of ours speaks of them -/
def isX : HO → Bool
  | .tbl _ => true
  | .ext _ => true
  | _ => false
/-- each def's table of code objects, with the name that a lambda made there bears -/
def allTabs (K : PySem.W.Frag) : List (Addr × Str) := K.filterMap fun q => match q.2.data with
  | .func fd => match fd.code with
    | .ref c => some (He.tabOf K c, fd.qualname ++ ".<locals>." ++ "<lambda>")
    | _ => none
  | _ => none
structure Tb (K : PySem.W.Frag) (w : Wd) (H : Hp) : Prop where
  tb : LamX.Tabs (allTabs K) H
  nt : ∀ x o, w.F x = some o → isX o = false
  ng : ∀ x o, w.G x = some o → isX o = false
section
variable {K : PySem.W.Frag} {w : Wd} {H : Hp}
theorem tabs_upd {T : List (Addr × Str)} {p : Addr} {u : HO} (t : LamX.Tabs T H) (h : ∀ o, H p = some o → isX o = false) : LamX.Tabs T (upd H p u) := fun q hq => by
  obtain ⟨ps, h1, h2, h3⟩ := t q hq
  have ne : ∀ {b : Addr} {o : HO}, H b = some o → isX o = true → b ≠ p := fun e x z => by
    subst z
    rw [h _ e] at x; cases x
  refine ⟨ps, by rw [upd_ne (ne h1 rfl)]; exact h1, h2, fun pos cv hc => ?_⟩
  obtain ⟨c, e1, e2⟩ := h3 pos cv hc
  exact ⟨c, e1, by rw [upd_ne (ne e2 rfl)]; exact e2⟩
theorem Tb.upd (t : Tb K w H) {p : Addr} {u : HO} (h : ∀ o, H p = some o → isX o = false) : Tb K w (upd H p u) := ⟨tabs_upd t.tb h, t.nt, t.ng⟩
theorem Tb.new (t : Tb K w H) {p : Addr} {u : HO} (h : H p = none) : Tb K w (L2.upd H p u) := t.upd fun o e => by rw [h] at e; cases e
theorem Tb.ws {w' : Wd} (t : Tb K w H) (hf : ∀ x o, w'.F x = some o → isX o = false) (hg : ∀ x o, w'.G x = some o → isX o = false) : Tb K w' H := ⟨t.tb, hf, hg⟩
theorem nx_upd {F : Hp} {p : Addr} {u : HO} (h : ∀ x o, F x = some o → isX o = false) (hu : isX u = false) : ∀ x o, L2.upd F p u x = some o → isX o = false := fun x o e => by
  by_cases hx : x = p
  · subst hx
    rw [upd_same] at e
    cases e
    exact hu
  · rw [upd_ne hx] at e
    exact h x o e
end
theorem RO.isX {K : PySem.W.Frag} {w : Wd} {ho : HO} {o : O} (h : RO K w ho o) : isX ho = false := by
  cases ho <;> cases o <;> first | exact False.elim h | rfl
structure RSt (K : PySem.W.Frag) (ms : List Nat) (w : Wd) (st : List O) (H : Hp) : Prop where
  len : w.ρ.length = st.length
  fz : ∀ x o, w.F x = some o → H x = some o ∨ (isD o = true ∧ ∃ od, w.G x = some (.frz od o))
  gz : ∀ x o, w.G x = some o → H x = some o ∧ ∀ u, w.F x = some u → isD u = true ∧ ∃ od, o = .frz od u
  «at» : ∀ (i : Nat) (o : O) (a : Addr), st[i]? = some o → w.ρ[i]? = some a → AtO K w H a o
  inj : ∀ (i j : Nat) (o o' : O) (a : Addr), st[i]? = some o → st[j]? = some o' → o.alive = true → o'.alive = true → w.ρ[i]? = some a → w.ρ[j]? = some a → i = j
  mrk : ∀ m ∈ ms, ∀ (i : Nat) (o : O), st[i]? = some o → i < m → ∀ j ∈ o.refs, j < m
  mle : ∀ m ∈ ms, m ≤ st.length
  tbl : Tb K w H
section
variable {K : PySem.W.Frag} {ms : List Nat} {w : Wd} {st : List O} {H : Hp}
theorem RSt.rd (s : RSt K ms w st H) {a : Addr} {u : HO} (h : w.F a = some u) : Rd H a u := by
  rcases s.fz a u h with h | ⟨_, od, h⟩
  · exact .inl h
  · exact .inr ⟨od, (s.gz _ _ h).1⟩
theorem RSt.nd (s : RSt K ms w st H) {a : Addr} {u : HO} (h : w.F a = some u) (n : isD u = false) : H a = some u := by
  rcases s.fz a u h with h | ⟨z, _⟩
  · exact h
  · rw [n] at z; cases z
theorem RSt.frd (s : RSt K ms w st H) {a : Addr} {u : HO} (h : Rd w.F a u) : Rd H a u := by
  rcases h with h | ⟨o, h⟩
  · exact s.rd h
  · exact .inr ⟨o, s.nd h rfl⟩
theorem RSt.sqL (s : RSt K ms w st H) {a : Addr} {xs : List V} (h : SqL K w.F a xs) : SqL K H a xs := by
  rcases h with h | h
  · exact .inl (s.frd h)
  · exact .inr h
theorem RSt.sqT (s : RSt K ms w st H) {a : Addr} {xs : List V} (h : SqT K w.F a xs) : SqT K H a xs := by
  rcases h with h | h
  · exact .inl (s.frd h)
  · exact .inr h
theorem RSt.fnone (s : RSt K ms w st H) {a : Addr} (h : H a = none) : w.F a = none := by
  cases e : w.F a with
  | none => rfl
  | some u =>
    rcases s.rd e with q | ⟨o, q⟩ <;> rw [h] at q <;> cases q
theorem RSt.gnone (s : RSt K ms w st H) {a : Addr} (h : H a = none) : w.G a = none := by
  cases e : w.G a with
  | none => rfl
  | some u =>
    have q := (s.gz _ _ e).1
    rw [h] at q; cases q
/-- an alive place is tracked -/
theorem RSt.there (s : RSt K ms w st H) {i : Nat} {o : O} {a : Addr} (h : st[i]? = some o) (q : w.ρ[i]? = some a) (l : o.alive = true) : ∃ ho, H a = Option.some ho := by
  have z := s.at i o a h q
  cases o with
  | dead => cases l
  | lk o => obtain ⟨od, u, _, g, _⟩ := z; exact ⟨_, (s.gz _ _ g).1⟩
  | lst l => obtain ⟨_, _, ho, e, _⟩ := z; exact ⟨ho, e⟩
  | dK l => obtain ⟨_, _, ho, e, _⟩ := z; exact ⟨ho, e⟩
  | dT l => obtain ⟨_, _, ho, e, _⟩ := z; exact ⟨ho, e⟩
theorem AtO.mono {w' : Wd} {H' : Hp} {a : Addr} {o : O} (h : AtO K w H a o) (l : w.le w') (hf : w.F a = none → w'.F a = none) (hh : ∀ ho, H a = some ho → w.G a = none → w.F a = none → H' a = some ho) : AtO K w' H' a o := by
  cases o with
  | dead => exact True.intro
  | lk o => obtain ⟨od, u, f, g, r⟩ := h; exact ⟨od, u, hf f, by rw [l.g]; exact g, r.mono l⟩
  | lst z => obtain ⟨f, g, ho, e, r⟩ := h; exact ⟨hf f, by rw [l.g]; exact g, ho, hh ho e g f, r.mono l⟩
  | dK z => obtain ⟨f, g, ho, e, r⟩ := h; exact ⟨hf f, by rw [l.g]; exact g, ho, hh ho e g f, r.mono l⟩
  | dT z => obtain ⟨f, g, ho, e, r⟩ := h; exact ⟨hf f, by rw [l.g]; exact g, ho, hh ho e g f, r.mono l⟩
/-- a new thing that never changes -/
def Wd.frz (w : Wd) (p : Addr) (u : HO) : Wd := ⟨upd w.F p u, w.ρ, w.G⟩
theorem Wd.le_frz {p : Addr} {u : HO} (h : w.F p = none) : w.le (w.frz p u) := ⟨fun x o e => by
  show upd w.F p u x = some o
  rw [upd_ne (ne_of_none e h)]
  exact e, List.prefix_refl _, rfl⟩
theorem RSt.newF (s : RSt K ms w st H) {p : Addr} {u : HO} (h : H p = none) (nu : isX u = false := by rfl) : RSt K ms (w.frz p u) st (upd H p u) := by
  have fn := s.fnone h
  have gn := s.gnone h
  have le := Wd.le_frz (u := u) fn
  refine ⟨s.len, fun x o e => ?_, fun x o e => ?_, fun i o a e q => ?_, s.inj, s.mrk, s.mle, (s.tbl.new h).ws (nx_upd s.tbl.nt nu) s.tbl.ng⟩
  · by_cases hx : x = p
    · subst hx
      have e' : upd w.F x u x = Option.some o := e
      rw [upd_same] at e'
      exact .inl (by rw [upd_same]; exact e')
    · have e' : upd w.F p u x = Option.some o := e
      rw [upd_ne hx] at e'
      rw [upd_ne hx]
      exact s.fz x o e'
  · have hx : x ≠ p := fun z => by
      subst z
      have e' : w.G x = Option.some o := e
      rw [gn] at e'; cases e'
    refine ⟨by rw [upd_ne hx]; exact (s.gz x o e).1, fun v q => ?_⟩
    have q' : upd w.F p u x = Option.some v := q
    rw [upd_ne hx] at q'
    exact (s.gz x o e).2 v q'
  · have q0 : w.ρ[i]? = Option.some a := q
    have z := s.at i o a e q0
    by_cases ha : o.alive = true
    · have hne : a ≠ p := fun r => by
        obtain ⟨ho, t⟩ := s.there e q0 ha
        rw [r, h] at t; cases t
      exact z.mono le (fun f => by show upd w.F p u a = none; rw [upd_ne hne]; exact f) fun ho t _ _ => by rw [upd_ne hne]; exact t
    · cases o <;> first | exact True.intro | exact absurd rfl ha
theorem alive_of {o : O} {l : List D} (h : o = .lst l) : o.alive = true := by rw [h]; rfl
/-- a new thing in the store -/
def Wd.add (w : Wd) (p : Addr) : Wd := ⟨w.F, w.ρ ++ [p], w.G⟩
theorem Wd.le_add {p : Addr} : w.le (w.add p) := ⟨fun _ _ e => e, List.prefix_append _ _, rfl⟩
theorem RSt.newO (s : RSt K ms w st H) {p : Addr} {u : HO} {o : O} (h : H p = none) (r : RO K w u o) : RSt K ms (w.add p) (st ++ [o]) (upd H p u) := by
  have fn := s.fnone h
  have gn := s.gnone h
  have le : w.le (w.add p) := Wd.le_add
  have old : ∀ (i : Nat) (o' : O) (a : Addr), st[i]? = Option.some o' → w.ρ[i]? = Option.some a → o'.alive = true → a ≠ p := fun i o' a e q l z => by
    obtain ⟨ho, t⟩ := s.there e q l
    rw [z, h] at t; cases t
  have spl : ∀ (i : Nat) (o' : O) (a : Addr), (st ++ [o])[i]? = Option.some o' → (w.add p).ρ[i]? = Option.some a → (st[i]? = Option.some o' ∧ w.ρ[i]? = Option.some a) ∨ (i = st.length ∧ o' = o ∧ a = p) := fun i o' a e q => by
    have q' : (w.ρ ++ [p])[i]? = Option.some a := q
    by_cases hi : i < st.length
    · rw [List.getElem?_append_left hi] at e
      rw [List.getElem?_append_left (by rw [s.len]; exact hi)] at q'
      exact .inl ⟨e, q'⟩
    · have hl : i < (st ++ [o]).length := (List.getElem?_eq_some_iff.mp e).1
      rw [List.length_append, List.length_singleton] at hl
      have : i = st.length := by omega
      subst this
      rw [List.getElem?_append_right (Nat.le_refl _), Nat.sub_self] at e
      rw [← s.len, List.getElem?_append_right (Nat.le_refl _), Nat.sub_self] at q'
      exact .inr ⟨rfl, (Option.some.inj e).symm, (Option.some.inj q').symm⟩
  refine ⟨by show (w.ρ ++ [p]).length = _; simp [s.len], fun x o' e => ?_, fun x o' e => ?_, fun i o' a e q => ?_, fun i j o1 o2 a e1 e2 l1 l2 q1 q2 => ?_, fun m hmm i o' e hi => ?_, fun m hmm => by have := s.mle m hmm; rw [List.length_append]; omega, (s.tbl.new h).ws s.tbl.nt s.tbl.ng⟩
  · have hx : x ≠ p := fun z => by
      subst z
      have e' : w.F x = Option.some o' := e
      rw [fn] at e'; cases e'
    rw [upd_ne hx]
    exact s.fz x o' e
  · have hx : x ≠ p := fun z => by
      subst z
      have e' : w.G x = Option.some o' := e
      rw [gn] at e'; cases e'
    exact ⟨by rw [upd_ne hx]; exact (s.gz x o' e).1, (s.gz x o' e).2⟩
  · rcases spl i o' a e q with ⟨e', q'⟩ | ⟨rfl, rfl, rfl⟩
    · have z := s.at i o' a e' q'
      by_cases ha : o'.alive = true
      · have hne := old i o' a e' q' ha
        exact z.mono le (fun f => f) fun ho t _ _ => by rw [upd_ne hne]; exact t
      · cases o' <;> first | exact True.intro | exact absurd rfl ha
    · have r' := r.mono le
      cases u <;> cases o' <;> first | exact False.elim r | exact ⟨fn, gn, _, upd_same, r'⟩
  · rcases spl i o1 a e1 q1 with ⟨e1', q1'⟩ | ⟨rfl, rfl, rfl⟩
    · rcases spl j o2 a e2 q2 with ⟨e2', q2'⟩ | ⟨rfl, rfl, rfl⟩
      · exact s.inj i j o1 o2 a e1' e2' l1 l2 q1' q2'
      · exact absurd rfl (old i o1 _ e1' q1' l1)
    · rcases spl j o2 _ e2 q2 with ⟨e2', q2'⟩ | ⟨rfl, _, _⟩
      · exact absurd rfl (old j o2 _ e2' q2' l2)
      · rfl
  · by_cases hl : i < st.length
    · rw [List.getElem?_append_left hl] at e
      exact s.mrk m hmm i o' e hi
    · have := s.mle m hmm
      omega
/-- the thing at a place is changed -/
theorem RSt.setO (s : RSt K ms w st H) {i : Nat} {a : Addr} {u : HO} {o o0 : O} (h0 : st[i]? = some o0) (l0 : o0.alive = true) (n0 : ∀ z, o0 ≠ .lk z) (q : w.ρ[i]? = some a) (r : RO K w u o) (hm : ∀ m ∈ ms, i < m → ∀ j ∈ o.refs, j < m) :
    RSt K ms w (st.set i o) (upd H a u) := by
  have z0 := s.at i o0 a h0 q
  have hax : ∀ o, H a = Option.some o → isX o = false := fun o e => by
    cases o0 with
    | dead => cases l0
    | lk z => exact absurd rfl (n0 z)
    | lst z => obtain ⟨_, _, ho, t, r⟩ := z0; rw [t] at e; cases e; exact r.isX
    | dK z => obtain ⟨_, _, ho, t, r⟩ := z0; rw [t] at e; cases e; exact r.isX
    | dT z => obtain ⟨_, _, ho, t, r⟩ := z0; rw [t] at e; cases e; exact r.isX
  have hil : i < st.length := (List.getElem?_eq_some_iff.mp h0).1
  have fg : w.F a = none ∧ w.G a = none := by
    cases o0 with
    | dead => cases l0
    | lk z => exact absurd rfl (n0 z)
    | lst z => exact ⟨z0.1, z0.2.1⟩
    | dK z => exact ⟨z0.1, z0.2.1⟩
    | dT z => exact ⟨z0.1, z0.2.1⟩
  obtain ⟨fn, gn⟩ := fg
  have spl : ∀ (j : Nat) (o' : O) (b : Addr), (st.set i o)[j]? = Option.some o' → w.ρ[j]? = Option.some b → (j = i ∧ o' = o ∧ b = a) ∨ (j ≠ i ∧ st[j]? = Option.some o') := fun j o' b e q' => by
    by_cases hj : j = i
    · subst hj
      rw [List.getElem?_set_self hil] at e
      rw [q] at q'
      exact .inl ⟨rfl, (Option.some.inj e).symm, (Option.some.inj q').symm⟩
    · rw [List.getElem?_set_ne (Ne.symm hj)] at e
      exact .inr ⟨hj, e⟩
  refine ⟨by rw [List.length_set]; exact s.len, fun x o' e => ?_, fun x o' e => ?_, fun j o' b e q' => ?_, fun j k o1 o2 b e1 e2 l1 l2 q1 q2 => ?_, fun m hmm j o' e hj => ?_, fun m hmm => by rw [List.length_set]; exact s.mle m hmm, s.tbl.upd hax⟩
  · have hx : x ≠ a := fun z => by
      subst z
      rw [fn] at e; cases e
    rw [upd_ne hx]
    exact s.fz x o' e
  · have hx : x ≠ a := fun z => by
      subst z
      rw [gn] at e; cases e
    exact ⟨by rw [upd_ne hx]; exact (s.gz x o' e).1, (s.gz x o' e).2⟩
  · rcases spl j o' b e q' with ⟨rfl, rfl, rfl⟩ | ⟨hj, e'⟩
    · cases u <;> cases o' <;> first | exact False.elim r | exact ⟨fn, gn, _, upd_same, r⟩
    · have z := s.at j o' b e' q'
      by_cases ha : o'.alive = true
      · have hne : b ≠ a := fun t => by
          subst t
          exact hj (s.inj j i o' o0 b e' h0 ha l0 q' q)
        exact z.mono (Wd.le.refl w) (fun f => f) fun ho t _ _ => by rw [upd_ne hne]; exact t
      · cases o' <;> first | exact True.intro | exact absurd rfl ha
  · rcases spl j o1 b e1 q1 with ⟨rfl, rfl, rfl⟩ | ⟨hj, e1'⟩
    · rcases spl k o2 b e2 q2 with ⟨rfl, _, _⟩ | ⟨hk, e2'⟩
      · rfl
      · exact s.inj j k o0 o2 b h0 e2' l0 l2 q1 q2
    · rcases spl k o2 b e2 q2 with ⟨rfl, rfl, rfl⟩ | ⟨hk, e2'⟩
      · exact s.inj j k o1 o0 b e1' h0 l1 l0 q1 q2
      · exact s.inj j k o1 o2 b e1' e2' l1 l2 q1 q2
  · by_cases hji : j = i
    · subst hji
      rw [List.getElem?_set_self hil] at e
      cases e
      exact hm m hmm hj
    · rw [List.getElem?_set_ne (Ne.symm hji)] at e
      exact s.mrk m hmm j o' e hj
end
structure REn (K : PySem.W.Frag) (w : Wd) (σ : St) (env : En) : Prop where
  len : σ.length = env.length
  get : ∀ (i : Nat) (d : D), env[i]? = some (some d) → ∃ v, σ[i]? = some (some v) ∧ RD K w v d
theorem REn.mono {K : PySem.W.Frag} {w w' : Wd} {σ : St} {env : En} (l : w.le w') (h : REn K w σ env) : REn K w' σ env :=
  ⟨h.len, fun i d e => let ⟨v, q, r⟩ := h.get i d e; ⟨v, q, r.mono l⟩⟩
theorem REn.set {K : PySem.W.Frag} {w : Wd} {σ : St} {env : En} {v : V} {d : D} (h : REn K w σ env) (i : Nat) (r : RD K w v d) : REn K w (σ.set i (some v)) (env.set i (some d)) := by
  refine ⟨by simp [h.len], fun j d' e => ?_⟩
  by_cases hj : i = j
  · subst hj
    by_cases hl : i < env.length
    · rw [List.getElem?_set_self hl] at e
      cases e
      exact ⟨v, List.getElem?_set_self (by rw [h.len]; exact hl), r⟩
    · rw [List.getElem?_eq_none (by simpa using hl)] at e
      cases e
  · rw [List.getElem?_set_ne hj] at e
    obtain ⟨u, q, r'⟩ := h.get j d' e
    exact ⟨u, by rw [List.getElem?_set_ne hj]; exact q, r'⟩

/-! ### the canonical readings -/
/-- what is wanted of an exception, by its class's name -/
abbrev Ex := Str → St → Hp → Prop
def Post {α β : Type} (Rel : Wd → β → α → Prop) (K : PySem.W.Frag) (W : Ex) (ms : List Nat) (σ : St) (w : Wd) (r : R α) (Q : β → Hp → Prop) : Prop :=
  match r with
  | .ok d st => ∀ w' v H', w.le w' → RSt K ms w' st H' → Rel w' v d → Q v H'
  | .ex c st => ∀ w' H', w.le w' → RSt K ms w' st H' → W c σ H'
  | .bad => False
def tM {α β : Type} (Rel : Wd → β → α → Prop) (K : PySem.W.Frag) (W : Ex) (m : M α) : St → Hp → (β → Hp → Prop) → Prop := fun σ H Q =>
  ∃ w ms env st, RSt K ms w st H ∧ REn K w σ env ∧ Post Rel K W ms σ w (m ms env st) Q
theorem Post.mono {α β : Type} {Rel : Wd → β → α → Prop} {K : PySem.W.Frag} {W : Ex} {ms : List Nat} {σ : St} {w w' : Wd} {r : R α} {Q : β → Hp → Prop} (l : w.le w') (h : Post Rel K W ms σ w r Q) : Post Rel K W ms σ w' r Q := by
  cases r with
  | ok d st => exact fun w2 v H' l2 => h w2 v H' (l.trans l2)
  | ex c st => exact fun w2 H' l2 => h w2 H' (l.trans l2)
  | bad => exact h
/-- one after another -/
def R.bind {α β : Type} (r : R α) (f : α → List O → R β) : R β :=
  match r with
  | .ok a st => f a st
  | .ex c st => .ex c st
  | .bad => .bad
def mB {α β : Type} (m : M α) (f : α → M β) : M β := fun ms env st => (m ms env st).bind fun a st' => f a ms env st'
theorem post_bind {α β γ δ : Type} {Rel : Wd → β → α → Prop} {Rel' : Wd → δ → γ → Prop} {K : PySem.W.Frag} {W : Ex} {ms : List Nat} {σ : St} {w : Wd} {r : R α} {f : α → List O → R γ} {Q : β → Hp → Prop} {Q' : δ → Hp → Prop}
    (h : Post Rel' K W ms σ w (r.bind f) Q')
    (hq : ∀ d st w' v H', r = .ok d st → w.le w' → RSt K ms w' st H' → Rel w' v d → Post Rel' K W ms σ w' (f d st) Q' → Q v H') : Post Rel K W ms σ w r Q := by
  cases r with
  | ok d st => exact fun w' v H' l s q => hq d st w' v H' rfl l s q (Post.mono l h)
  | ex c st => exact h
  | bad => exact h
theorem pe_imp {X : Cx} {e : Expr} {t t' : TE} (h : PE X e t) (q : ∀ σ H Q, t' σ H Q → t σ H Q) : PE X e t' := ⟨fun pins s σ H Q I h' => h.run pins s σ H Q I (q σ H Q h')⟩
theorem pt_imp {X : Cx} {e : Expr} {t t' : TT} (h : PT X e t) (q : ∀ σ H Q, t' σ H Q → t σ H Q) : PT X e t' := ⟨fun pins s σ H Q I h' => h.run pins s σ H Q I (q σ H Q h')⟩
theorem pa_imp {X : Cx} {e : List Expr} {t t' : TA} (h : PA X e t) (q : ∀ σ H Q, t' σ H Q → t σ H Q) : PA X e t' := ⟨fun pos pins s σ H Q I h' => h.run pos pins s σ H Q I (q σ H Q h')⟩
theorem ps_imp {X : Cx} {e : Stmt} {t t' : TS} (h : PS X e t) (q : ∀ D σ H, t' D σ H → t D σ H) : PS X e t' := ⟨fun pins s σ H D I h' => h.run pins s σ H D I (q D σ H h')⟩
theorem pss_imp {X : Cx} {e : List Stmt} {t t' : TS} (h : PSs X e t) (q : ∀ D σ H, t' D σ H → t D σ H) : PSs X e t' := ⟨fun pins s σ H D I h' => h.run pins s σ H D I (q D σ H h')⟩
abbrev tE (K : PySem.W.Frag) (W : Ex) (m : M D) : TE := tM (RD K) K W m
abbrev tT (K : PySem.W.Frag) (W : Ex) (m : M Bool) : TT := tM (fun _ b c => b = c) K W m
abbrev tA (K : PySem.W.Frag) (W : Ex) (m : M (List D)) : TA := tM (RDs K) K W m
def mRet {α : Type} (a : α) : M α := fun _ _ st => .ok a st
/-- two readings in a row -/
theorem seq2 {α α' β β' γ δ : Type} {Rel : Wd → β → α → Prop} {Rel2 : Wd → β' → α' → Prop} {Rel3 : Wd → δ → γ → Prop} {K : PySem.W.Frag} {W : Ex} {ma : M α} {mb : M α'} {f : α → α' → M γ} {σ : St} {H : Hp} {Q' : δ → Hp → Prop} {Q : β → β' → Hp → Prop}
    (h : tM Rel3 K W (mB ma fun a => mB mb fun b => f a b) σ H Q') (mono : ∀ w w' v d, w.le w' → Rel w v d → Rel w' v d)
    (hq : ∀ w ms env st H a b x y, RSt K ms w st H → REn K w σ env → Rel w x a → Rel2 w y b → Post Rel3 K W ms σ w (f a b ms env st) Q' → Q x y H) :
    tM Rel K W ma σ H fun x H1 => tM Rel2 K W mb σ H1 fun y H2 => Q x y H2 := by
  obtain ⟨w, ms, env, st, s, e, p⟩ := h
  refine ⟨w, ms, env, st, s, e, post_bind p fun d st1 w1 v H1 _ l1 s1 r1 p1 => ?_⟩
  refine ⟨w1, ms, env, st1, s1, e.mono l1, post_bind p1 fun d2 st2 w2 v2 H2 _ l2 s2 r2 p2 => ?_⟩
  exact hq w2 ms env st2 H2 d d2 v v2 s2 (e.mono (l1.trans l2)) (mono _ _ _ _ l2 r1) r2 p2
theorem seq1 {α β γ δ : Type} {Rel : Wd → β → α → Prop} {Rel3 : Wd → δ → γ → Prop} {K : PySem.W.Frag} {W : Ex} {ma : M α} {f : α → M γ} {σ : St} {H : Hp} {Q' : δ → Hp → Prop} {Q : β → Hp → Prop}
    (h : tM Rel3 K W (mB ma f) σ H Q')
    (hq : ∀ w ms env st H a x, RSt K ms w st H → REn K w σ env → Rel w x a → Post Rel3 K W ms σ w (f a ms env st) Q' → Q x H) :
    tM Rel K W ma σ H Q := by
  obtain ⟨w, ms, env, st, s, e, p⟩ := h
  refine ⟨w, ms, env, st, s, e, post_bind p fun d st1 w1 v H1 _ l1 s1 r1 p1 => ?_⟩
  exact hq w1 ms env st1 H1 d v s1 (e.mono l1) r1 p1
end Fk

namespace Fk
open PySem PySem.Spec L2
set_option autoImplicit false

/-! ### lists of values -/
def unP : List D → Option (List PyData)
  | [] => some []
  | .p d :: r => (unP r).map (d :: ·)
  | _ :: _ => none
def asP : List PyData → List D := List.map D.p
def getL (d : D) (st : List O) : Option (List D) :=
  match d with
  | .p (.list ds) => some (asP ds)
  | .r i => match st[i]? with
    | some (.lst ds) => some ds
    | _ => none
  | _ => none
def mkL (fl : Bool) (ds : List D) (st : List O) : R D :=
  match fl with
  | true => .ok (.r st.length) (st ++ [.lst ds])
  | false => match unP ds with
    | some ps => .ok (.p (.list ps)) st
    | none => .bad
def mkT (ds : List D) (st : List O) : R D :=
  match unP ds with
  | some ps => .ok (.p (.tuple ps)) st
  | none => .bad
section
variable {K : PySem.W.Frag} {w : Wd} {ms : List Nat} {st : List O} {H : Hp} {σ : St} {W : Ex}
theorem unP_asP (ps : List PyData) : unP (asP ps) = some ps := by
  induction ps with
  | nil => rfl
  | cons p r ih => show (unP (asP r)).map (p :: ·) = _; rw [ih]; rfl
theorem unP_some : ∀ {ds : List D} {ps : List PyData}, unP ds = some ps → ds = asP ps
  | [], _, h => by cases h; rfl
  | .p d :: r, ps, h => by
    have h' : (unP r).map (d :: ·) = some ps := h
    cases e : unP r with
    | none => rw [e] at h'; cases h'
    | some qs =>
      rw [e] at h'
      cases h'
      rw [unP_some e]; rfl
  | .r _ :: _, _, h => nomatch h
  | .s _ :: _, _, h => nomatch h
  | .g _ :: _, _, h => nomatch h
theorem RDs.asP : ∀ {vs : List V} {ps : List PyData}, RDs K w vs (asP ps) → RpA K w.F vs ps
  | _, [], .nil => .nil
  | _, _ :: _, .cons h r => .cons h (RDs.asP r)
theorem RpA.rds : ∀ {vs : List V} {ps : List PyData}, RpA K w.F vs ps → RDs K w vs (Fk.asP ps)
  | _, _, .nil => .nil
  | _, _, .cons h r => .cons h (RpA.rds r)
theorem rds_unP {vs : List V} {ds : List D} {ps : List PyData} (h : unP ds = some ps) (r : RDs K w vs ds) : RpA K w.F vs ps := by
  rw [unP_some h] at r
  exact r.asP
theorem getL_ok (s : RSt K ms w st H) {v : V} {d : D} {ds : List D} (r : RD K w v d) (h : getL d st = some ds) : ∃ a vs, v = .ref a ∧ H a = some (.lst vs) ∧ RDs K w vs ds := by
  cases d with
  | p d =>
    cases d with
    | list l =>
      cases h
      cases r with
      | lst q z => exact ⟨_, _, rfl, s.nd q rfl, z.rds⟩
    | _ => cases h
  | r i =>
    obtain ⟨a, e, rfl⟩ := r
    cases q : st[i]? with
    | none => unfold getL at h; simp only [q] at h; cases h
    | some o =>
      cases o with
      | lst l =>
        unfold getL at h
        simp only [q] at h
        cases h
        obtain ⟨_, _, ho, hh, ro⟩ := s.at i _ a q e
        cases ho with
        | lst vs => exact ⟨a, vs, rfl, hh, ro⟩
        | _ => exact False.elim ro
      | _ => unfold getL at h; simp only [q] at h; cases h
  | s ns => cases h
  | g ns => cases h
  | o ns => cases h
theorem mkL_post {fl : Bool} {ds : List D} {vs : List V} {Q : VK} {p : Addr} (s : RSt K ms w st H) (r : RDs K w vs ds) (hp : H p = none) (h : Post (RD K) K W ms σ w (mkL fl ds st) Q) : Q (.ref p) (upd H p (.lst vs)) := by
  cases fl with
  | true =>
    refine h (w.add p) (.ref p) _ Wd.le_add (s.newO (o := .lst ds) hp r) ⟨p, ?_, rfl⟩
    show (w.ρ ++ [p])[st.length]? = some p
    rw [← s.len, List.getElem?_append_right (Nat.le_refl _), Nat.sub_self]
    rfl
  | false =>
    cases e : unP ds with
    | none => unfold mkL at h; simp only [e] at h; exact False.elim h
    | some ps =>
      unfold mkL at h
      simp only [e] at h
      have z := rds_unP e r
      refine h (w.frz p (.lst vs)) (.ref p) _ (Wd.le_frz (s.fnone hp)) (s.newF hp) (Rp.lst (xs := vs) ?_ (z.sub (Wd.le_frz (s.fnone hp)).f))
      exact upd_same
theorem mkT_post {ds : List D} {vs : List V} {Q : VK} {p : Addr} (s : RSt K ms w st H) (r : RDs K w vs ds) (hp : H p = none) (h : Post (RD K) K W ms σ w (mkT ds st) Q) : Q (.ref p) (upd H p (.tup vs)) := by
  cases e : unP ds with
  | none => unfold mkT at h; simp only [e] at h; exact False.elim h
  | some ps =>
    unfold mkT at h
    simp only [e] at h
    have z := rds_unP e r
    refine h (w.frz p (.tup vs)) (.ref p) _ (Wd.le_frz (s.fnone hp)) (s.newF hp) (Rp.tup (xs := vs) ?_ (z.sub (Wd.le_frz (s.fnone hp)).f))
    exact upd_same
/-- a value that is there -/
theorem Post.val {α β : Type} {Rel : Wd → β → α → Prop} {d : α} {v : β} {Q : β → Hp → Prop} (s : RSt K ms w st H) (r : Rel w v d) (h : Post Rel K W ms σ w (.ok d st) Q) : Q v H := h w v H (Wd.le.refl w) s r
end

/-! ### operations on values -/
/-- two values, the store -/
abbrev Op2 := D → D → List O → R D
def rD2 (K : PySem.W.Frag) (f : Op2) : R2 := fun x y H Q => ∃ w ms st a b σ W, RSt K ms w st H ∧ RD K w x a ∧ RD K w y b ∧ Post (RD K) K W ms σ w (f a b st) Q
theorem OpR.imp {X : Cx} {f : Value → Value → Sem Value} {r r' : R2} (h : OpR X f r) (q : ∀ x y H Q, r' x y H Q → r x y H Q) : OpR X f r' := fun pins s σ H x y v u Q I rx ry z => h pins s σ H x y v u Q I rx ry (q x y H Q z)
def m2 (f : Op2) (ma mb : M D) : M D := mB ma fun a => mB mb fun b => fun _ _ st => f a b st
theorem se_op {X : Cx} {W : Ex} {f : Op2} {op : Operator} {a b : Expr} {ma mb : M D} {pos : Pos} (ho : OpR X (binaryOp op) (rD2 X.K f)) (ha : PE X a (tE X.K W ma)) (hb : PE X b (tE X.K W mb)) : PE X (.BinOp a op b pos) (tE X.K W (m2 f ma mb)) :=
  pe_imp (pe_op ho ha hb) fun σ H Q h => seq2 h (fun _ _ _ _ l r => r.mono l) fun w ms env st H a b x y s _ ra rb p => ⟨w, ms, st, a, b, σ, W, s, ra, rb, p⟩
theorem se_cmp {X : Cx} {W : Ex} {f : Op2} {op : CmpOp} {a b : Expr} {ma mb : M D} {pos : Pos} (ho : OpR X (compareOp op) (rD2 X.K f)) (ha : PE X a (tE X.K W ma)) (hb : PE X b (tE X.K W mb)) (hm : behindInMarks op b = false) : PE X (.Compare a [op] [b] pos) (tE X.K W (m2 f ma mb)) :=
  pe_imp (pe_cmpR ho ha hb hm) fun σ H Q h => seq2 h (fun _ _ _ _ l r => r.mono l) fun w ms env st H a b x y s _ ra rb p => ⟨w, ms, st, a, b, σ, W, s, ra, rb, p⟩
/-- a value as a test -/
def toB (d : D) (st : List O) : R Bool := match d with
  | .p (.bool b) => .ok b st
  | _ => .bad
def mT (m : M D) : M Bool := mB m fun d => fun _ _ st => toB d st
theorem toB_post {K : PySem.W.Frag} {W : Ex} {ms : List Nat} {σ : St} {w : Wd} {d : D} {st : List O} {v : V} {H : Hp} {Q : Bool → Hp → Prop} (s : RSt K ms w st H) (r : RD K w v d) (h : Post (fun _ b c => b = c) K W ms σ w (toB d st) Q) : ∃ k, v = .bl k ∧ Q k H := by
  cases d with
  | p d => cases d with
    | bool b => cases r; exact ⟨b, rfl, h w b H (Wd.le.refl w) s rfl⟩
    | _ => exact False.elim h
  | _ => exact False.elim h
theorem st_cmp {X : Cx} {W : Ex} {f : Op2} {op : CmpOp} {a b : Expr} {ma mb : M D} {pos : Pos} (ho : OpR X (compareOp op) (rD2 X.K f)) (ha : PE X a (tE X.K W ma)) (hb : PE X b (tE X.K W mb)) (hm : behindInMarks op b = false) : PT X (.Compare a [op] [b] pos) (tT X.K W (mT (m2 f ma mb))) := by
  refine pt_imp (pt_cmpR ho ha hb hm) fun σ H Q h => ?_
  have h1 : tE X.K W (m2 f ma mb) σ H (fun x H' => ∃ k, x = .bl k ∧ Q k H') := seq1 h fun w ms env st H d x s _ r p => toB_post s r p
  exact seq2 h1 (fun _ _ _ _ l r => r.mono l) fun w ms env st H a b x y s _ ra rb p => ⟨w, ms, st, a, b, σ, W, s, ra, rb, p⟩
theorem st_val {X : Cx} {W : Ex} {e : Expr} {m : M D} (h : PE X e (tE X.K W m)) (he : ∀ whole, isTrue e X.env whole = (do let v ← whole; standAt e.pos; holding [v] (truthy v))) : PT X e (tT X.K W (mT m)) :=
  pt_imp (pt_val h he) fun σ H Q h => seq1 h fun w ms env st H d x s _ r p => toB_post s r p

/-! ### ints, texts, tuples, lists: + -/
def dAdd (fl : Bool) : Op2 := fun a b st => match a, b with
  | .p (.int i), .p (.int j) => .ok (.p (.int (i + j))) st
  | .p (.str x), .p (.str y) => if x.length + y.length ≤ sizeLine then .ok (.p (.str (x ++ y))) st else .bad
  | .p (.tuple xs), .p (.tuple ys) => if xs.length + ys.length ≤ sizeLine then .ok (.p (.tuple (xs ++ ys))) st else .bad
  | a, b => match getL a st, getL b st with
    | some xs, some ys => if xs.length + ys.length ≤ sizeLine then mkL fl (xs ++ ys) st else .bad
    | _, _ => .bad
theorem Paired.app {α β : Type} {F : α → β → Prop} : ∀ {a c : List α} {b d : List β}, Paired F a b → Paired F c d → Paired F (a ++ c) (b ++ d)
  | _, _, _, _, .nil, s => s
  | _, _, _, _, .cons h r, s => .cons h (Paired.app r s)
theorem Post.ite {α β : Type} {Rel : Wd → β → α → Prop} {K : PySem.W.Frag} {W : Ex} {ms : List Nat} {σ : St} {w : Wd} {c : Prop} [Decidable c] {r : R α} {Q : β → Hp → Prop} (h : Post Rel K W ms σ w (if c then r else .bad) Q) : c ∧ Post Rel K W ms σ w r Q := by
  by_cases hc : c
  · rw [if_pos hc] at h; exact ⟨hc, h⟩
  · rw [if_neg hc] at h; exact False.elim h
section
variable {X : Cx}
theorem addL_ok {fl : Bool} {w : Wd} {ms : List Nat} {st : List O} {H : Hp} {σ : St} {W : Ex} {a b : D} {x y : V} {Q : VK} (s : RSt X.K ms w st H) (ra : RD X.K w x a) (rb : RD X.K w y b)
    (p : Post (RD X.K) X.K W ms σ w (match getL a st, getL b st with
    | some xs, some ys => if xs.length + ys.length ≤ sizeLine then mkL fl (xs ++ ys) st else .bad
    | _, _ => .bad) Q) : rCat x y H Q := by
  cases ea : getL a st with
  | none => rw [ea] at p; exact False.elim p
  | some xs =>
    cases eb : getL b st with
    | none => rw [ea, eb] at p; exact False.elim p
    | some ys =>
      rw [ea, eb] at p
      obtain ⟨hl, p⟩ := Post.ite p
      obtain ⟨l, vs, rfl, h1, r1⟩ := getL_ok s ra ea
      obtain ⟨l2, vs2, rfl, h2, r2⟩ := getL_ok s rb eb
      refine ⟨l, l2, vs, vs2, rfl, rfl, h1, h2, by rw [Paired.length r1, Paired.length r2]; exact hl, fun q hq => mkL_post s (Paired.app r1 r2) hq p⟩
theorem addT_ok {w : Wd} {ms : List Nat} {st : List O} {H : Hp} {σ : St} {W : Ex} {xs ys : List PyData} {x y : V} {Q : VK} (s : RSt X.K ms w st H) (ra : Rp X.K w.F x (.tuple xs)) (rb : Rp X.K w.F y (.tuple ys))
    (hl : xs.length + ys.length ≤ sizeLine) (p : Post (RD X.K) X.K W ms σ w (.ok (.p (.tuple (xs ++ ys))) st) Q) : rCatA X.K x y H Q := by
  cases ra with
  | @tup a vs _ h1 r1 =>
    cases rb with
    | @tup b us _ h2 r2 =>
      refine ⟨a, b, vs, us, rfl, rfl, SqT.of (s.nd h1 rfl), SqT.of (s.nd h2 rfl), by rw [r1.length, r2.length]; exact hl, fun e => p.val s ?_, fun _ e2 => p.val s ?_, fun _ _ q hq => mkT_post (W := W) (σ := σ) (ds := asP (xs ++ ys)) s (r1.append r2).rds hq (by unfold mkT; rw [unP_asP]; exact p)⟩
      · subst e; cases r1; exact .tup h2 r2
      · subst e2; cases r2; rw [List.append_nil]; exact .tup h1 r1
theorem op_addD (fl : Bool) : OpR X (binaryOp .Add) (rD2 X.K (dAdd fl)) := by
  refine OpR.imp (OpR.or op_add (OpR.or op_add_str (OpR.or op_catA op_cat))) fun x y H Q h => ?_
  obtain ⟨w, ms, st, a, b, σ, W, s, ra, rb, p⟩ := h
  unfold dAdd at p
  split at p
  · cases ra; cases rb
    exact .inl ⟨_, _, rfl, rfl, p.val s (.int _)⟩
  · cases ra; cases rb
    obtain ⟨hl, p⟩ := Post.ite p
    exact .inr (.inl ⟨_, _, rfl, rfl, hl, p.val s (.str _)⟩)
  · obtain ⟨hl, p⟩ := Post.ite p
    exact .inr (.inr (.inl (addT_ok s ra rb hl p)))
  · exact .inr (.inr (.inr (addL_ok s ra rb p)))
end
end Fk

namespace Fk
open PySem PySem.Spec L2
set_option autoImplicit false

/-! ### ints -/
def dI (g : Int → Int → PyData) : Op2 := fun a b st => match a, b with
  | .p (.int i), .p (.int j) => .ok (.p (g i j)) st
  | _, _ => .bad
def dIc (c : Int → Int → Bool) (g : Int → Int → PyData) : Op2 := fun a b st => match a, b with
  | .p (.int i), .p (.int j) => match c i j with
    | true => .ok (.p (g i j)) st
    | false => .bad
  | _, _ => .bad
def dSub : Op2 := dI fun i j => .int (i - j)
def mulOk (i j : Int) : Bool := decide (i.natAbs.log2 + j.natAbs.log2 < 100000000)
def divOk (j : Int) : Bool := decide (0 < j) && decide (j.natAbs.log2 < 9000)
def powOk (i j : Int) : Bool := decide (0 ≤ j) && decide (j ≤ 1000000) && decide (i.natAbs < 2 ^ 64)
def dMulI : Op2 := dIc mulOk fun i j => .int (i * j)
def dDiv : Op2 := dIc (fun _ j => divOk j) fun i j => .int (i / j)
def dMod : Op2 := dIc (fun _ j => decide (0 < j)) fun i j => .int (i % j)
def dPow : Op2 := dIc powOk fun i j => .int (i ^ j.toNat)
def dLt : Op2 := dI fun i j => .bool (decide (i < j))
def dLe : Op2 := dI fun i j => .bool (decide (i ≤ j))
def dGt : Op2 := dI fun i j => .bool (decide (j < i))
def dGe : Op2 := dI fun i j => .bool (decide (j ≤ i))
section
variable {X : Cx}
theorem dI_inv {K : PySem.W.Frag} {w : Wd} {ms : List Nat} {st : List O} {H : Hp} {σ : St} {W : Ex} {g : Int → Int → PyData} {a b : D} {x y : V} {Q : VK} (ra : RD K w x a) (rb : RD K w y b) (p : Post (RD K) K W ms σ w (dI g a b st) Q) :
    ∃ i j, x = .int i ∧ y = .int j ∧ Post (RD K) K W ms σ w (.ok (.p (g i j)) st) Q := by
  unfold dI at p
  split at p
  · cases ra; cases rb; exact ⟨_, _, rfl, rfl, p⟩
  · exact False.elim p
theorem dIc_inv {K : PySem.W.Frag} {w : Wd} {ms : List Nat} {st : List O} {H : Hp} {σ : St} {W : Ex} {c : Int → Int → Bool} {g : Int → Int → PyData} {a b : D} {x y : V} {Q : VK} (ra : RD K w x a) (rb : RD K w y b) (p : Post (RD K) K W ms σ w (dIc c g a b st) Q) :
    ∃ i j, x = .int i ∧ y = .int j ∧ c i j = true ∧ Post (RD K) K W ms σ w (.ok (.p (g i j)) st) Q := by
  unfold dIc at p
  split at p
  · cases ra; cases rb
    split at p
    · exact ⟨_, _, rfl, rfl, by assumption, p⟩
    · exact False.elim p
  · exact False.elim p
theorem mulOk_ok {i j : Int} (h : mulOk i j = true) : IntMulOk i j := by
  have b : ∀ x : Int, Builtin.Int.intBits x ≤ x.natAbs.log2 + 1 := fun x => by
    unfold Builtin.Int.intBits
    split <;> omega
  have h1 := b i
  have h2 := b j
  have h3 : i.natAbs.log2 + j.natAbs.log2 < 100000000 := of_decide_eq_true h
  have e : bitsLine = 134217728 := by decide
  unfold IntMulOk
  intro z
  rw [Bool.and_eq_true] at z
  have z2 := z.2
  unfold Builtin.Int.intTooBig at z2
  have z3 := of_decide_eq_true z2
  rw [e] at z3
  omega
theorem op_subD : OpR X (binaryOp .Sub) (rD2 X.K dSub) := OpR.imp op_sub fun x y H Q h => by
  obtain ⟨w, ms, st, a, b, σ, W, s, ra, rb, p⟩ := h
  obtain ⟨i, j, rfl, rfl, p⟩ := dI_inv (H := H) ra rb p
  exact ⟨i, j, rfl, rfl, p.val s (.int _)⟩
theorem op_mulB : OpR X (binaryOp .Mult) (rI (fun i j => mulOk i j = true) fun i j => .int (i * j)) := opI fun _ _ _ _ _ _ _ hc q => PyProof.Rows.mul_int q (mulOk_ok hc)
theorem op_mulD : OpR X (binaryOp .Mult) (rD2 X.K dMulI) := OpR.imp op_mulB fun x y H Q h => by
  obtain ⟨w, ms, st, a, b, σ, W, s, ra, rb, p⟩ := h
  obtain ⟨i, j, rfl, rfl, c, p⟩ := dIc_inv (H := H) ra rb p
  exact ⟨i, j, rfl, rfl, c, p.val s (.int _)⟩
theorem op_divD : OpR X (binaryOp .FloorDiv) (rD2 X.K dDiv) := OpR.imp op_fdivW fun x y H Q h => by
  obtain ⟨w, ms, st, a, b, σ, W, s, ra, rb, p⟩ := h
  obtain ⟨i, j, rfl, rfl, c, p⟩ := dIc_inv (H := H) ra rb p
  have c' := Bool.and_eq_true_iff.mp c
  exact ⟨i, j, rfl, rfl, ⟨of_decide_eq_true c'.1, of_decide_eq_true c'.2⟩, p.val s (.int _)⟩
theorem op_modD : OpR X (binaryOp .Mod) (rD2 X.K dMod) := OpR.imp op_mod fun x y H Q h => by
  obtain ⟨w, ms, st, a, b, σ, W, s, ra, rb, p⟩ := h
  obtain ⟨i, j, rfl, rfl, c, p⟩ := dIc_inv (H := H) ra rb p
  exact ⟨i, j, rfl, rfl, of_decide_eq_true c, p.val s (.int _)⟩
theorem op_powD : OpR X (binaryOp .Pow) (rD2 X.K dPow) := OpR.imp op_pow fun x y H Q h => by
  obtain ⟨w, ms, st, a, b, σ, W, s, ra, rb, p⟩ := h
  obtain ⟨i, j, rfl, rfl, c, p⟩ := dIc_inv (H := H) ra rb p
  unfold powOk at c
  rw [Bool.and_eq_true, Bool.and_eq_true] at c
  exact ⟨i, j, rfl, rfl, ⟨of_decide_eq_true c.1.1, of_decide_eq_true c.1.2, of_decide_eq_true c.2⟩, p.val s (.int _)⟩
theorem op_cmpI {op : CmpOp} {g : Int → Int → Bool} (h : OpR X (compareOp op) (rI0 fun i j => .bl (g i j))) : OpR X (compareOp op) (rD2 X.K (dI fun i j => .bool (g i j))) := OpR.imp h fun x y H Q h => by
  obtain ⟨w, ms, st, a, b, σ, W, s, ra, rb, p⟩ := h
  obtain ⟨i, j, rfl, rfl, p⟩ := dI_inv (H := H) ra rb p
  exact ⟨i, j, rfl, rfl, p.val s (.bl _)⟩
theorem op_ltD : OpR X (compareOp .Lt) (rD2 X.K dLt) := op_cmpI op_lt
theorem op_leD : OpR X (compareOp .LtE) (rD2 X.K dLe) := op_cmpI op_le
theorem op_gtD : OpR X (compareOp .Gt) (rD2 X.K dGt) := op_cmpI op_gt
theorem op_geD : OpR X (compareOp .GtE) (rD2 X.K dGe) := op_cmpI op_ge
end

/-! ### == and != -/
def toPD (d : D) (st : List O) : Option PyData := match d with
  | .p d => some d
  | .s ns => some (.list (ns.map .int))
  | .g ds => some (.tuple ds)
  | d => match getL d st with
    | some ds => match unP ds with
      | some ps => some (.list ps)
      | none => none
    | none => none
mutual
theorem Rp.dp {K : PySem.W.Frag} {w : Wd} {ms : List Nat} {st : List O} {H : Hp} (s : RSt K ms w st H) : ∀ {v : V} {d : PyData}, Rp K w.F v d → d.canLay0 = true → Dp K H v d
  | _, _, .non, _ => .non
  | _, _, .bl b, _ => .bl b
  | _, _, .int i, _ => .int i
  | _, _, .str x, _ => .str x
  | _, _, .lst h r, c => .lst (.inl (.inl (s.nd h rfl))) (RpA.dp s r (by rw [PyData.canLay0] at c; exact c))
  | _, _, .tup h r, c => .tup (SqT.of (s.nd h rfl)) (RpA.dp s r (by rw [PyData.canLay0] at c; exact c))
  | _, _, .dK _ _, c => by rw [PyData.canLay0] at c; cases c
  | _, _, .dT _ _ _, c => by rw [PyData.canLay0] at c; cases c
theorem RpA.dp {K : PySem.W.Frag} {w : Wd} {ms : List Nat} {st : List O} {H : Hp} (s : RSt K ms w st H) : ∀ {v : List V} {d : List PyData}, RpA K w.F v d → PyData.canLayAll0 d = true → DpAll K H v d
  | _, _, .nil, _ => .nil
  | _, _, .cons h r, c => by
    rw [PyData.canLayAll0, Bool.and_eq_true] at c
    exact .cons (Rp.dp s h c.1) (RpA.dp s r c.2)
end
theorem DpAll.ints {K : PySem.W.Frag} {H : Hp} : ∀ {ns : List Int}, DpAll K H (ns.map V.int) (ns.map PyData.int)
  | [] => .nil
  | n :: _ => .cons (.int n) DpAll.ints
theorem toPD_dp {K : PySem.W.Frag} {w : Wd} {ms : List Nat} {st : List O} {H : Hp} (s : RSt K ms w st H) {v : V} {d : D} {e : PyData} (r : RD K w v d) (h : toPD d st = some e) (c : SeqAt.shaped e = true) : Dp K H v e := by
  have c1 := SeqAt.canLay_of_shaped c
  cases d with
  | p d => cases h; exact Rp.dp s r c1
  | s ns =>
    cases h
    obtain ⟨a, rfl, q⟩ := r
    exact .lst (s.sqL q) Fk.DpAll.ints
  | o ds => cases h
  | g ds =>
    cases h
    obtain ⟨a, vs, rfl, q, r⟩ := r
    exact .tup (s.sqT q) (RpA.dp s r (by rw [PyData.canLay0] at c1; exact c1))
  | r i =>
    unfold toPD at h
    cases e1 : getL (.r i) st with
    | none => simp only [e1] at h; cases h
    | some ds =>
      simp only [e1] at h
      cases e2 : unP ds with
      | none => simp only [e2] at h; cases h
      | some ps =>
        simp only [e2] at h
        cases h
        obtain ⟨a, vs, rfl, hh, rs⟩ := getL_ok s r e1
        exact .lst (.inl (.inl hh)) (RpA.dp s (rds_unP e2 rs) (by rw [PyData.canLay0] at c1; exact c1))
def dEq : Op2 := fun a b st => match toPD a st, toPD b st with
  | some d, some e => if SeqAt.shaped d = true ∧ SeqAt.shaped e = true then .ok (.p (.bool (PyData.eqv d e))) st else .bad
  | _, _ => .bad
def dNe : Op2 := fun a b st => match toPD a st, toPD b st with
  | some d, some e => if SeqAt.shaped d = true ∧ SeqAt.shaped e = true then .ok (.p (.bool (!PyData.eqv d e))) st else .bad
  | _, _ => .bad
section
variable {X : Cx}
theorem op_eqDD (hu : X.A.units + 200 < cLine) : OpR X (compareOp .Eq) (rD2 X.K dEq) := OpR.imp (op_eqD (by omega)) fun x y H Q h => by
  obtain ⟨w, ms, st, a, b, σ, W, s, ra, rb, p⟩ := h
  unfold dEq at p
  split at p
  · obtain ⟨⟨h1, h2⟩, p⟩ := Post.ite p
    exact ⟨_, _, toPD_dp s ra (by assumption) h1, toPD_dp s rb (by assumption) h2, h1, h2, p.val s (.bl _)⟩
  · exact False.elim p
theorem op_neDD (hu : X.A.units + 200 < cLine) : OpR X (compareOp .NotEq) (rD2 X.K dNe) := OpR.imp (op_neD (by omega)) fun x y H Q h => by
  obtain ⟨w, ms, st, a, b, σ, W, s, ra, rb, p⟩ := h
  unfold dNe at p
  split at p
  · obtain ⟨⟨h1, h2⟩, p⟩ := Post.ite p
    exact ⟨_, _, toPD_dp s ra (by assumption) h1, toPD_dp s rb (by assumption) h2, h1, h2, p.val s (.bl _)⟩
  · exact False.elim p
/-- is None, is not None -/
def dIs (neg : Bool) : Op2 := fun a b st => match a, b with
  | .p d, .p .none => .ok (.p (.bool (match d with | .none => !neg | _ => neg))) st
  | .r _, .p .none => .ok (.p (.bool neg)) st
  | .p (.bool x), .p (.bool y) => .ok (.p (.bool (if neg then !decide (x = y) else decide (x = y)))) st
  | _, _ => .bad
theorem op_isD : OpR X (compareOp .Is) (rD2 X.K (dIs false)) := OpR.imp (OpR.or op_isN op_is_bl) fun x y H Q h => by
  obtain ⟨w, ms, st, a, b, σ, W, s, ra, rb, p⟩ := h
  unfold dIs at p
  split at p
  · cases rb
    refine .inl ⟨rfl, ?_⟩
    cases ra <;> exact p.val s (.bl _)
  · cases rb
    obtain ⟨l, _, rfl⟩ := ra
    exact .inl ⟨rfl, p.val s (.bl _)⟩
  · cases ra; cases rb
    exact .inr ⟨_, _, rfl, rfl, p.val s (.bl _)⟩
  · exact False.elim p
theorem op_isnotD : OpR X (compareOp .IsNot) (rD2 X.K (dIs true)) := OpR.imp (OpR.or op_notN op_isnot_bl) fun x y H Q h => by
  obtain ⟨w, ms, st, a, b, σ, W, s, ra, rb, p⟩ := h
  unfold dIs at p
  split at p
  · cases rb
    refine .inl ⟨rfl, ?_⟩
    cases ra <;> exact p.val s (.bl _)
  · cases rb
    obtain ⟨l, _, rfl⟩ := ra
    exact .inl ⟨rfl, p.val s (.bl _)⟩
  · cases ra; cases rb
    exact .inr ⟨_, _, rfl, rfl, p.val s (.bl _)⟩
  · exact False.elim p
end

/-! ### dicts: what a key holds -/
def keyOf (d : PyData) : Option Key := match d with
  | .int i => some (.inl i)
  | .str x => some (.inr x)
  | _ => none
def keysOf : List PyData → Option (List Key)
  | [] => some []
  | d :: r => match keyOf d, keysOf r with
    | some k, some l => some (k :: l)
    | _, _ => none
def look {κ : Type} [DecidableEq κ] (l : List (κ × D)) (k : κ) : Option D := match l with
  | [] => none
  | (k', d) :: r => if k' = k then some d else look r k
def lookP (l : List (PyData × PyData)) (k : Key) : Option PyData := match l with
  | [] => none
  | (k', d) :: r => match keyOf k' with
    | some j => if j = k then some d else lookP r k
    | none => lookP r k
def lookPT (l : List (PyData × PyData)) (k : List Key) : Option PyData := match l with
  | [] => none
  | (.tuple ks, d) :: r => match keysOf ks with
    | some j => if j = k then some d else lookPT r k
    | none => lookPT r k
  | _ :: r => lookPT r k
/-- a dict asked: none: no dict, or no key -/
def dGet (o y : D) (st : List O) : Option (Option D) :=
  match y with
  | .p (.tuple ks) => match keysOf ks with
    | none => none
    | some k => match o with
      | .p (.dict l) => match l with
        | (.tuple _, _) :: _ => some ((lookPT l k).map .p)
        | _ => none
      | .r i => match st[i]? with
        | some (.dT l) => some (look l k)
        | some (.lk (.dT l)) => some (look l k)
        | _ => none
      | _ => none
  | .p d => match keyOf d with
    | none => none
    | some k => match o with
      | .p (.dict l) => match l with
        | (.tuple _, _) :: _ => none
        | _ => some ((lookP l k).map .p)
      | .r i => match st[i]? with
        | some (.dK l) => some (look l k)
        | some (.lk (.dK l)) => some (look l k)
        | _ => none
      | _ => none
  | _ => none

section
variable {K : PySem.W.Frag} {w : Wd} {ms : List Nat} {st : List O} {H : Hp}
theorem keyOf_kP (k : Key) : keyOf (kP k) = some k := by cases k <;> rfl
theorem keyOf_some {d : PyData} {k : Key} (h : keyOf d = some k) : d = kP k := by
  cases d <;> first | (cases h; rfl) | cases h
theorem keysOf_map : ∀ ks : List Key, keysOf (ks.map kP) = some ks
  | [] => rfl
  | k :: r => by
    show (match keyOf (kP k), keysOf (r.map kP) with | some k, some l => some (k :: l) | _, _ => none) = _
    rw [keyOf_kP, keysOf_map r]
theorem keysOf_some : ∀ {ds : List PyData} {ks : List Key}, keysOf ds = some ks → ds = ks.map kP
  | [], _, h => by cases h; rfl
  | d :: r, ks, h => by
    unfold keysOf at h
    split at h
    · cases h
      rename_i k l e1 e2
      rw [keyOf_some e1, keysOf_some e2]
      rfl
    · cases h
theorem Rp.key {F : Hp} {v : V} {k : Key} (h : Rp K F v (kP k)) : v = kV k := by
  cases k with
  | inl i => cases h; rfl
  | inr x => cases h; rfl
theorem RpA.keys {F : Hp} : ∀ {vs : List V} {ks : List Key}, RpA K F vs (ks.map kP) → vs = ks.map kV
  | _, [], .nil => rfl
  | _, k :: ks, .cons h r => by rw [Rp.key h, RpA.keys r]; rfl
/-- look and valV -/
theorem look_val {κ : Type} [DecidableEq κ] : ∀ {kvs : List (κ × V)} {l : List (κ × D)} (k : κ), Paired (fun (p : κ × V) (q : κ × D) => p.1 = q.1 ∧ RD K w p.2 q.2) kvs l →
    (look l k = none → valV kvs k = none) ∧ ∀ d, look l k = some d → ∃ v, valV kvs k = some v ∧ RD K w v d
  | _, _, _, .nil => ⟨fun _ => rfl, fun _ h => nomatch h⟩
  | (k1, v1) :: kvs, (k2, d2) :: l, k, .cons ⟨e, r⟩ t => by
    have e' : k1 = k2 := e
    subst e'
    obtain ⟨i1, i2⟩ := look_val k t
    by_cases hk : k1 = k
    · have z : look ((k1, d2) :: l) k = some d2 := by show (if k1 = k then some d2 else look l k) = _; rw [if_pos hk]
      rw [z, valV_pos (p := (k1, v1)) hk]
      exact ⟨(fun h => nomatch h), fun d h => by cases h; exact ⟨v1, rfl, r⟩⟩
    · have z : look ((k1, d2) :: l) k = look l k := by show (if k1 = k then some d2 else look l k) = _; rw [if_neg hk]
      rw [z, valV_neg (p := (k1, v1)) hk]
      exact ⟨i1, i2⟩
theorem lookP_val {F : Hp} : ∀ {kvs : List (Key × V)} {l : List (PyData × PyData)} (k : Key), RpK K F kvs l → (lookP l k = none → valV kvs k = none) ∧ ∀ d, lookP l k = some d → ∃ v, valV kvs k = some v ∧ Rp K F v d
  | _, _, _, .nil => ⟨fun _ => rfl, fun _ h => nomatch h⟩
  | _, _, k, .cons (k := k1) (v := v1) (d := d2) (ds := l) r t => by
    obtain ⟨i1, i2⟩ := lookP_val k t
    have z0 : lookP ((kP k1, d2) :: l) k = if k1 = k then some d2 else lookP l k := by
      show (match keyOf (kP k1) with | some j => if j = k then some d2 else lookP l k | none => lookP l k) = _
      rw [keyOf_kP]
    rw [z0]
    by_cases hk : k1 = k
    · rw [if_pos hk, valV_pos (p := (k1, v1)) hk]
      exact ⟨(fun h => nomatch h), fun d h => by cases h; exact ⟨v1, rfl, r⟩⟩
    · rw [if_neg hk, valV_neg (p := (k1, v1)) hk]
      exact ⟨i1, i2⟩
theorem lookPT_val {F : Hp} : ∀ {kvs : List (List Key × V)} {l : List (PyData × PyData)} (k : List Key), RpT K F kvs l → (lookPT l k = none → valV kvs k = none) ∧ ∀ d, lookPT l k = some d → ∃ v, valV kvs k = some v ∧ Rp K F v d
  | _, _, _, .nil => ⟨fun _ => rfl, fun _ h => nomatch h⟩
  | _, _, k, .cons (k := k1) (v := v1) (d := d2) (ds := l) r t => by
    obtain ⟨i1, i2⟩ := lookPT_val k t
    have z0 : lookPT ((.tuple (k1.map kP), d2) :: l) k = if k1 = k then some d2 else lookPT l k := by
      show (match keysOf (k1.map kP) with | some j => if j = k then some d2 else lookPT l k | none => lookPT l k) = _
      rw [keysOf_map]
    rw [z0]
    by_cases hk : k1 = k
    · rw [if_pos hk, valV_pos (p := (k1, v1)) hk]
      exact ⟨(fun h => nomatch h), fun d h => by cases h; exact ⟨v1, rfl, r⟩⟩
    · rw [if_neg hk, valV_neg (p := (k1, v1)) hk]
      exact ⟨i1, i2⟩
/-- what the heap says of a place -/
theorem RSt.dK (s : RSt K ms w st H) {i : Nat} {a : Addr} {l : List (Key × D)} (h : st[i]? = some (.dK l) ∨ st[i]? = some (.lk (.dK l))) (q : w.ρ[i]? = some a) :
    ∃ kvs, Rd H a (.dK kvs) ∧ Paired (fun (p : Key × V) (q : Key × D) => p.1 = q.1 ∧ RD K w p.2 q.2) kvs l := by
  rcases h with h | h
  · obtain ⟨_, _, ho, e, r⟩ := s.at i _ a h q
    cases ho with
    | dK kvs => exact ⟨kvs, .inl e, r⟩
    | _ => exact False.elim r
  · obtain ⟨od, u, _, e, r⟩ := s.at i _ a h q
    cases u with
    | dK kvs => exact ⟨kvs, .inr ⟨od, (s.gz _ _ e).1⟩, r⟩
    | _ => exact False.elim r
theorem RSt.dT (s : RSt K ms w st H) {i : Nat} {a : Addr} {l : List (List Key × D)} (h : st[i]? = some (.dT l) ∨ st[i]? = some (.lk (.dT l))) (q : w.ρ[i]? = some a) :
    ∃ kvs, Rd H a (.dT kvs) ∧ Paired (fun (p : List Key × V) (q : List Key × D) => p.1 = q.1 ∧ RD K w p.2 q.2) kvs l := by
  rcases h with h | h
  · obtain ⟨_, _, ho, e, r⟩ := s.at i _ a h q
    cases ho with
    | dT kvs => exact ⟨kvs, .inl e, r⟩
    | _ => exact False.elim r
  · obtain ⟨od, u, _, e, r⟩ := s.at i _ a h q
    cases u with
    | dT kvs => exact ⟨kvs, .inr ⟨od, (s.gz _ _ e).1⟩, r⟩
    | _ => exact False.elim r
theorem RpK.notup {F : Hp} {kvs : List (Key × V)} {ds : List (PyData × PyData)} (h : RpK K F kvs ds) {xs : List PyData} {d : PyData} {l : List (PyData × PyData)} (e : ds = (.tuple xs, d) :: l) : False := by
  cases h with
  | nil => cases e
  | @cons k _ _ _ _ _ _ =>
    injection e with e1 _
    injection e1 with e2 _
    cases k <;> cases e2
/-- the answers fit -/
def RO' (K : PySem.W.Frag) (w : Wd) : Option V → Option D → Prop
  | none, none => True
  | some v, some d => RD K w v d
  | _, _ => False
theorem ro_of {κ : Type} [DecidableEq κ] {kvs : List (κ × V)} {l : List (κ × D)} (k : κ) (h : Paired (fun (p : κ × V) (q : κ × D) => p.1 = q.1 ∧ RD K w p.2 q.2) kvs l) : RO' K w (valV kvs k) (look l k) := by
  obtain ⟨i1, i2⟩ := look_val k h
  cases e : look l k with
  | none => rw [i1 e]; exact True.intro
  | some d => obtain ⟨v, q, r⟩ := i2 d e; rw [q]; exact r
theorem dGet_ok (s : RSt K ms w st H) {x y : V} {o k : D} {r : Option D} (rx : RD K w x o) (ry : RD K w y k) (h : dGet o k st = some r) : ∃ a rv, x = .ref a ∧ DGet H a y rv ∧ RO' K w rv r := by
  unfold dGet at h
  split at h
  · -- tuple keys
    split at h
    · cases h
    · rename_i ks _ kk ek
      rw [keysOf_some ek] at ry
      cases ry with
      | @tup b vs _ hb rb =>
        rw [RpA.keys rb] at hb
        have hb' := s.nd hb rfl
        split at h
        · split at h
          · cases h
            cases rx with
            | dK h1 r1 => exact (RpK.notup r1 rfl).elim
            | dT h1 n1 r1 =>
              refine ⟨_, _, rfl, .inr ⟨_, kk, b, s.rd h1, rfl, hb', rfl⟩, ?_⟩
              obtain ⟨i1, i2⟩ := lookPT_val kk r1
              cases e : lookPT _ kk with
              | none => rw [i1 e]; exact True.intro
              | some d => obtain ⟨v, q, r⟩ := i2 d e; rw [q]; exact r
          · cases h
        · rename_i i
          obtain ⟨a, ea, rfl⟩ := rx
          split at h
          · cases h
            obtain ⟨kvs, h1, h2⟩ := s.dT (.inl (by assumption)) ea
            exact ⟨a, _, rfl, .inr ⟨kvs, kk, b, h1, rfl, hb', rfl⟩, ro_of kk h2⟩
          · cases h
            obtain ⟨kvs, h1, h2⟩ := s.dT (.inr (by assumption)) ea
            exact ⟨a, _, rfl, .inr ⟨kvs, kk, b, h1, rfl, hb', rfl⟩, ro_of kk h2⟩
          · cases h
        · cases h
  · split at h
    · cases h
    · rename_i d _ _ kk ek
      rw [keyOf_some ek] at ry
      have ey : y = kV kk := Rp.key ry
      split at h
      · split at h
        · cases h
        · rename_i hl
          cases h
          cases rx with
          | dK h1 r1 =>
            refine ⟨_, _, rfl, .inl ⟨_, kk, s.rd h1, ey, rfl⟩, ?_⟩
            obtain ⟨i1, i2⟩ := lookP_val kk r1
            cases e : lookP _ kk with
            | none => rw [i1 e]; exact True.intro
            | some d => obtain ⟨v, q, r⟩ := i2 d e; rw [q]; exact r
          | dT h1 n1 r1 =>
            cases r1 with
            | nil => exact absurd rfl n1
            | cons _ _ => exact absurd rfl (hl _ _ _)
      · rename_i i
        obtain ⟨a, ea, rfl⟩ := rx
        split at h
        · cases h
          obtain ⟨kvs, h1, h2⟩ := s.dK (.inl (by assumption)) ea
          exact ⟨a, _, rfl, .inl ⟨kvs, kk, h1, ey, rfl⟩, ro_of kk h2⟩
        · cases h
          obtain ⟨kvs, h1, h2⟩ := s.dK (.inr (by assumption)) ea
          exact ⟨a, _, rfl, .inl ⟨kvs, kk, h1, ey, rfl⟩, ro_of kk h2⟩
        · cases h
      · cases h
  · cases h
end
end Fk

namespace Fk
open PySem PySem.Spec L2
set_option autoImplicit false

/-! ### sequences -/
def getSeq (d : D) (st : List O) : Option (List D) := match d with
  | .p (.tuple ds) => some (asP ds)
  | .g ds => some (asP ds)
  | .s ns => some (ns.map fun n => .p (.int n))
  | d => getL d st
section
variable {K : PySem.W.Frag} {w : Wd} {ms : List Nat} {st : List O} {H : Hp}
theorem rds_ints : ∀ {ns : List Int}, RDs K w (ns.map V.int) (ns.map fun n => D.p (.int n))
  | [] => .nil
  | n :: _ => .cons (.int n) rds_ints
theorem getSeq_ok (s : RSt K ms w st H) {v : V} {d : D} {ds : List D} (r : RD K w v d) (h : getSeq d st = some ds) : ∃ a vs, v = .ref a ∧ (SqL K H a vs ∨ SqT K H a vs) ∧ RDs K w vs ds := by
  unfold getSeq at h
  split at h
  · cases h
    cases r with
    | tup q z => exact ⟨_, _, rfl, .inr (SqT.of (s.nd q rfl)), z.rds⟩
  · cases h
    obtain ⟨a, vs, rfl, q, z⟩ := r
    exact ⟨a, vs, rfl, .inr (s.sqT q), z.rds⟩
  · cases h
    obtain ⟨a, rfl, q⟩ := r
    exact ⟨a, _, rfl, .inl (s.sqL q), rds_ints⟩
  · obtain ⟨a, vs, rfl, q, z⟩ := getL_ok s r h
    exact ⟨a, vs, rfl, .inl (SqL.of q), z⟩
theorem rds_get : ∀ {vs : List V} {ds : List D} {i : Nat} {d : D}, RDs K w vs ds → ds[i]? = some d → ∃ v, vs[i]? = some v ∧ RD K w v d
  | _, _, _, _, .nil, e => by simp at e
  | _, _, 0, _, .cons h _, e => by simp at e; subst e; exact ⟨_, rfl, h⟩
  | _, _, i + 1, _, .cons _ r, e => by simpa using rds_get r (by simpa using e)
theorem rds_atI {vs : List V} {ds : List D} {i : Int} {d : D} (r : RDs K w vs ds) (h : atI ds i = some d) : ∃ v, atI vs i = some v ∧ RD K w v d := by
  unfold atI at h ⊢
  rw [Paired.length r]
  cases e : ixN ds.length i with
  | none => rw [e] at h; cases h
  | some j =>
    rw [e] at h
    exact rds_get r h
end
/-! ### o[i] -/
def dIx : Op2 := fun o y st => match getSeq o st with
  | some ds => match y with
    | .p (.int i) => match atI ds i with
      | some d => .ok d st
      | none => .bad
    | _ => .bad
  | none => match o, y with
    | .p (.str z), .p (.int i) => if z.length ≤ sizeLine then (match atI z.cps.toList i with
      | some c => .ok (.p (.str ⟨#[c]⟩)) st
      | none => .bad) else .bad
    | o, y => match dGet o y st with
      | some (some d) => .ok d st
      | _ => .bad
def rIxD : R2 := fun x y H Q => ∃ a v, x = .ref a ∧ DGet H a y (some v) ∧ Q v H
theorem IxR.imp {X : Cx} {r r' : R2} (h : IxR X r) (q : ∀ x y H Q, r' x y H Q → r x y H Q) : IxR X r' := fun a b pins s σ H x y v u Q I rx ry z => h a b pins s σ H x y v u Q I rx ry (q x y H Q z)
section
variable {X : Cx}
theorem ix_dict (hu : X.A.units + 200 < cLine) : IxR X rIxD := by
  intro value slice pins s σ H x y v u Q I rx ry h hs
  obtain ⟨a, z, rfl, g, q⟩ := h
  obtain rfl : v = Value.ref a := rx
  exact PyProof.Rows.tail_any (dict_typeIs I g) PySem.F.slot_dict_getitem.lookup (d_getItem (by omega) I g ry fun w' s3 I3 rw' => ⟨z, H, I3, rw', q⟩) hs
theorem ix_D (hu : X.A.units + 200 < cLine) : IxR X (rD2 X.K dIx) := by
  refine IxR.imp (IxR.or ix_list (IxR.or ix_tup (IxR.or ix_str (ix_dict hu)))) fun x y H Q h => ?_
  obtain ⟨w, ms, st, a, b, σ, W, s, ra, rb, p⟩ := h
  unfold dIx at p
  split at p
  · rename_i ds hd
    obtain ⟨l, vs, rfl, q, rs⟩ := getSeq_ok s ra hd
    split at p
    · split at p
      · cases rb
        obtain ⟨v, e, rv⟩ := rds_atI rs (by assumption)
        rcases q with q | q
        · exact .inl ⟨l, vs, _, v, rfl, rfl, q, e, p.val s rv⟩
        · exact .inr (.inl ⟨l, vs, _, v, rfl, rfl, q, e, p.val s rv⟩)
      · exact False.elim p
    · exact False.elim p
  · split at p
    · cases ra; cases rb
      obtain ⟨hl, p⟩ := Post.ite p
      split at p
      · exact .inr (.inr (.inl ⟨_, _, _, rfl, rfl, hl, by assumption, p.val s (.str _)⟩))
      · exact False.elim p
    · split at p
      · obtain ⟨l, rv, rfl, g, ro⟩ := dGet_ok s ra rb (by assumption)
        cases rv with
        | none => exact False.elim ro
        | some v => exact .inr (.inr (.inr ⟨l, v, rfl, g, p.val s ro⟩))
      · exact False.elim p
theorem se_ix {W : Ex} {a b : Expr} {ma mb : M D} {pos : Pos} (hu : X.A.units + 200 < cLine) (ha : PE X a (tE X.K W ma)) (hb : PE X b (tE X.K W mb)) (hs : PlainIx b) : PE X (.Subscript a b pos) (tE X.K W (m2 dIx ma mb)) :=
  pe_imp (pe_ix (ix_D hu) ha hb hs) fun σ H Q h => seq2 h (fun _ _ _ _ l r => r.mono l) fun w ms env st H a b x y s _ ra rb p => ⟨w, ms, st, a, b, σ, W, s, ra, rb, p⟩
end

/-! ### slices -/
def toI (d : D) (st : List O) : R (Option Int) := match d with
  | .p (.int i) => .ok (some i) st
  | _ => .bad
def cutP {α : Type} (xs : List α) (lo hi : Option Int) : List α := (xs.drop (HT.sIx xs.length 0 lo)).take (HT.sIx xs.length xs.length hi - HT.sIx xs.length 0 lo)
def dSl (fl : Bool) (d : D) (lo hi : Option Int) (st : List O) : R D := match d with
  | .p (.tuple ds) => .ok (.p (.tuple (cutP ds lo hi))) st
  | .p (.str z) => if z.length ≤ sizeLine then .ok (.p (.str (cutS z lo hi))) st else .bad
  | d => match getL d st with
    | some ds => mkL fl (cutP ds lo hi) st
    | none => .bad
def mOpt (m : Option (M D)) : M (Option Int) := match m with
  | none => mRet none
  | some m => mB m fun d => fun _ _ st => toI d st
def mSl (fl : Bool) (m : M D) (lo hi : Option (M D)) : M D := mB m fun d => mB (mOpt lo) fun l => mB (mOpt hi) fun h => fun _ _ st => dSl fl d l h st
theorem cutP_nil {α : Type} (xs : List α) (lo hi : Option Int) (h : HT.sIx xs.length 0 lo = 0 ∧ HT.sIx xs.length xs.length hi = xs.length) : cutP xs lo hi = xs := by
  unfold cutP
  rw [h.1, h.2]
  simp
theorem RpA.cut {K : PySem.W.Frag} {F : Hp} {vs : List V} {ds : List PyData} (r : RpA K F vs ds) (lo hi : Option Int) : RpA K F (cutV vs lo hi) (cutP ds lo hi) := by
  unfold cutV cutP
  rw [r.length]
  exact (r.drop _).take _
theorem Paired.take' {α β : Type} {F : α → β → Prop} : ∀ {a : List α} {b : List β} (n : Nat), Paired F a b → Paired F (a.take n) (b.take n)
  | _, _, 0, _ => .nil
  | _, _, _ + 1, .nil => .nil
  | _, _, n + 1, .cons h r => .cons h (Paired.take' n r)
theorem Paired.drop' {α β : Type} {F : α → β → Prop} : ∀ {a : List α} {b : List β} (n : Nat), Paired F a b → Paired F (a.drop n) (b.drop n)
  | _, _, 0, r => r
  | _, _, _ + 1, .nil => .nil
  | _, _, n + 1, .cons _ r => Paired.drop' n r
theorem RDs.cut {K : PySem.W.Frag} {w : Wd} {vs : List V} {ds : List D} (r : RDs K w vs ds) (lo hi : Option Int) : RDs K w (cutV vs lo hi) (cutP ds lo hi) := by
  unfold cutV cutP
  rw [Paired.length r]
  exact Paired.take' _ (Paired.drop' _ r)

theorem SlR.imp {X : Cx} {r r' : V → Option Int → Option Int → Hp → VK → Prop} (h : SlR X r) (q : ∀ x l u H Q, r' x l u H Q → r x l u H Q) : SlR X r' := fun pins s σ H x v vl vu lo hi sl Q I rx hs pl pu z => h pins s σ H x v vl vu lo hi sl Q I rx hs pl pu (q _ _ _ _ _ z)
theorem po_imp {X : Cx} {e : Option Expr} {t t' : TO} (h : PO X e t) (q : ∀ σ H Q, t' σ H Q → t σ H Q) : PO X e t' := ⟨fun pins s σ H Q I h' => h.run pins s σ H Q I (q σ H Q h')⟩
abbrev tO (K : PySem.W.Frag) (W : Ex) (m : M (Option Int)) : TO := tM (fun _ b c => b = c) K W m
section
variable {X : Cx} {W : Ex}
theorem toI_post {K : PySem.W.Frag} {ms : List Nat} {σ : St} {w : Wd} {d : D} {st : List O} {v : V} {H : Hp} {Q : Option Int → Hp → Prop} (s : RSt K ms w st H) (r : RD K w v d) (h : Post (fun _ b c => b = c) K W ms σ w (toI d st) Q) : ∃ i, v = .int i ∧ Q (some i) H := by
  cases d with
  | p d => cases d with
    | int i => cases r; exact ⟨i, rfl, h w (some i) H (Wd.le.refl w) s rfl⟩
    | _ => exact False.elim h
  | _ => exact False.elim h
theorem so_none : PO X none (tO X.K W (mOpt none)) := po_imp po_none fun σ H Q h => by
  obtain ⟨w, ms, env, st, s, e, p⟩ := h
  exact p.val s rfl
theorem so_some {e : Expr} {m : M D} (h : PE X e (tE X.K W m)) : PO X (some e) (tO X.K W (mOpt (some m))) := po_imp (po_some h) fun σ H Q h => seq1 h fun w ms env st H d x s _ r p => toI_post s r p
def rSlD (K : PySem.W.Frag) (fl : Bool) : V → Option Int → Option Int → Hp → VK → Prop := fun x lo hi H Q => ∃ w ms st a σ W, RSt K ms w st H ∧ RD K w x a ∧ Post (RD K) K W ms σ w (dSl fl a lo hi st) Q
theorem sl_D (fl : Bool) : SlR X (rSlD X.K fl) := by
  refine SlR.imp (SlR.or sl_list (SlR.or sl_tupA sl_str)) fun x lo hi H Q h => ?_
  obtain ⟨w, ms, st, a, σ, W, s, ra, p⟩ := h
  unfold dSl at p
  split at p
  · rename_i ds
    cases ra with
    | @tup l vs _ h1 r1 =>
      refine .inr (.inl ⟨l, vs, rfl, SqT.of (s.nd h1 rfl), fun z => p.val s ?_, fun _ q hq => mkT_post (ds := asP (cutP ds lo hi)) s (RpA.cut r1 lo hi).rds hq (W := W) (σ := σ) (by unfold mkT; rw [unP_asP]; exact p)⟩)
      rw [r1.length] at z
      rw [cutP_nil ds lo hi z]
      exact .tup h1 r1
  · cases ra
    obtain ⟨hl, p⟩ := Post.ite p
    exact .inr (.inr ⟨_, rfl, hl, p.val s (.str _)⟩)
  · split at p
    · obtain ⟨l, vs, rfl, h1, r1⟩ := getL_ok s ra (by assumption)
      exact .inl ⟨l, vs, rfl, SqL.of h1, fun q hq => mkL_post s (RDs.cut r1 lo hi) hq p⟩
    · exact False.elim p
theorem se_slice (fl : Bool) {e : Expr} {lo hi : Option Expr} {m : M D} {ml mh : Option (M D)} {p2 pos : Pos} (he : PE X e (tE X.K W m)) (hl : PO X lo (tO X.K W (mOpt ml))) (hh : PO X hi (tO X.K W (mOpt mh))) :
    PE X (.Subscript e (.Slice lo hi none p2) pos) (tE X.K W (mSl fl m ml mh)) := by
  refine pe_imp (pe_slice (sl_D fl) he hl hh) fun σ H Q h => ?_
  obtain ⟨w, ms, env, st, s, e, p⟩ := h
  refine ⟨w, ms, env, st, s, e, post_bind p fun d st1 w1 v H1 _ l1 s1 r1 p1 => ?_⟩
  refine ⟨w1, ms, env, st1, s1, e.mono l1, post_bind p1 fun d2 st2 w2 v2 H2 _ l2 s2 r2 p2 => ?_⟩
  refine ⟨w2, ms, env, st2, s2, e.mono (l1.trans l2), post_bind p2 fun d3 st3 w3 v3 H3 _ l3 s3 r3 p3 => ?_⟩
  subst r2 r3
  exact ⟨w3, ms, st3, d, σ, W, s3, r1.mono (l2.trans l3), p3⟩

/-! ### names, constants -/
def mVar (i : Nat) : M D := fun _ env st => match env[i]? with
  | some (some d) => .ok d st
  | _ => .bad
theorem se_var {i : Nat} {x : Str} {pos : Pos} (hN : X.N[i]? = some x) (hv : Vis X.env.scope x) (hd : (x == ("__debug__" : Str)) = false) (hcd : (x == ("__classdict__" : Str)) = false) : PE X (.Name x pos) (tE X.K W (mVar i)) :=
  pe_imp (pe_var hN hv hd hcd) fun σ H Q h => by
    obtain ⟨w, ms, env, st, s, e, p⟩ := h
    unfold mVar at p
    split at p
    · obtain ⟨v, q, r⟩ := e.get i _ (by assumption)
      exact ⟨v, q, p.val s r⟩
    · exact False.elim p
def mC (d : PyData) : M D := fun _ _ st => .ok (.p d) st
theorem se_c {e : Expr} {d : PyData} {v : V} (h : PE X e (tC v)) (r : ∀ F, Rp X.K F v d) : PE X e (tE X.K W (mC d)) := pe_imp h fun σ H Q h => by
  obtain ⟨w, ms, env, st, s, e, p⟩ := h
  exact p.val s (r w.F)
theorem se_int {i : Int} {j pos} : PE X (.Constant (.int i) j pos) (tE X.K W (mC (.int i))) := se_c pe_int fun _ => .int i
theorem se_bl {b : Bool} {j pos} : PE X (.Constant (.bool b) j pos) (tE X.K W (mC (.bool b))) := se_c pe_bl fun _ => .bl b
theorem se_non {j pos} : PE X (.Constant .none j pos) (tE X.K W (mC .none)) := se_c pe_non fun _ => .non
theorem se_str {x : Str} {j pos} : PE X (.Constant (.str x) j pos) (tE X.K W (mC (.str x))) := se_c pe_str fun _ => .str x
def mD (d : D) : M D := fun _ _ st => .ok d st
/-- a module's name -/
theorem se_glob {x : Str} {d : D} {v : V} {u : Value} {pos : Pos} (hg : Gl X x) (hm : X.mg x = some u) (r : RelV v u) (rd : ∀ w, RD X.K w v d) (hd : (x == ("__debug__" : Str)) = false) : PE X (.Name x pos) (tE X.K W (mD d)) := pe_imp (pe_glob hg hm r hd) fun σ H Q h => by
  obtain ⟨w, ms, env, st, s, e, p⟩ := h
  exact p.val s (rd w)

/-! ### and, or, not, if -/
variable {a b c : Expr} {rest : List Expr} {pos : Pos}
def mAndT (m n : M Bool) : M Bool := mB m fun c => match c with
  | true => n
  | false => mRet false
def mOrT (m n : M Bool) : M Bool := mB m fun c => match c with
  | true => mRet true
  | false => n
def mNotT (m : M Bool) : M Bool := mB m fun c => mRet (!c)
theorem Post.ret {α β : Type} {Rel : Wd → β → α → Prop} {K : PySem.W.Frag} {ms : List Nat} {σ : St} {w : Wd} {env : En} {st : List O} {H : Hp} {d : α} {v : β} {Q : β → Hp → Prop} (s : RSt K ms w st H) (r : Rel w v d) (h : Post Rel K W ms σ w (mRet d ms env st) Q) : Q v H := h.val s r
theorem st_and1 {m : M Bool} (ha : PT X a (tT X.K W m)) : PW X (.BoolOp .And [a] pos) (tT X.K W m) := pw_and1 ha
theorem st_or1 {m : M Bool} (ha : PT X a (tT X.K W m)) : PW X (.BoolOp .Or [a] pos) (tT X.K W m) := pw_or1 ha
theorem pw_imp {e : Expr} {t t' : TT} (h : PW X e t) (q : ∀ σ H Q, t' σ H Q → t σ H Q) : PW X e t' := ⟨fun wh pins s σ H Q I h' => h.run wh pins s σ H Q I (q σ H Q h')⟩
theorem st_and {m n : M Bool} (ha : PT X a (tT X.K W m)) (hb : PW X (.BoolOp .And (b :: rest) pos) (tT X.K W n)) : PW X (.BoolOp .And (a :: b :: rest) pos) (tT X.K W (mAndT m n)) := pw_imp (pw_and ha hb) fun σ H Q h =>
  seq1 h fun w ms env st H d x s e r p => by
    subst r
    cases x with
    | true => rw [if_pos rfl]; exact ⟨w, ms, env, st, s, e, p⟩
    | false => rw [if_neg Bool.false_ne_true]; exact p.val s rfl
theorem st_or {m n : M Bool} (ha : PT X a (tT X.K W m)) (hb : PW X (.BoolOp .Or (b :: rest) pos) (tT X.K W n)) : PW X (.BoolOp .Or (a :: b :: rest) pos) (tT X.K W (mOrT m n)) := pw_imp (pw_or ha hb) fun σ H Q h =>
  seq1 h fun w ms env st H d x s e r p => by
    subst r
    cases x with
    | false => rw [if_neg Bool.false_ne_true]; exact ⟨w, ms, env, st, s, e, p⟩
    | true => rw [if_pos rfl]; exact p.val s rfl
theorem st_not {m : M Bool} (ha : PT X a (tT X.K W m)) : PT X (.UnaryOp .Not a pos) (tT X.K W (mNotT m)) := pt_imp (pt_not ha) fun σ H Q h =>
  seq1 h fun w ms env st H d x s e r p => by
    subst r
    exact p.val s rfl
/-- as values -/
def mAndV (m n : M D) : M D := mB (mT m) fun c => match c with
  | true => n
  | false => mC (.bool false)
def mOrV (m n : M D) : M D := mB (mT m) fun c => match c with
  | true => mC (.bool true)
  | false => n
def mNotV (m : M D) : M D := mB (mT m) fun c => mC (.bool (!c))
/-- a value that is a bool -/
theorem seqB {m : M D} {γ δ : Type} {Rel3 : Wd → δ → γ → Prop} {K : PySem.W.Frag} {f : Bool → M γ} {σ : St} {H : Hp} {Q' : δ → Hp → Prop} {Q : Bool → Hp → Prop}
    (h : tM Rel3 K W (mB (mT m) f) σ H Q')
    (hq : ∀ w ms env st H c, RSt K ms w st H → REn K w σ env → Post Rel3 K W ms σ w (f c ms env st) Q' → Q c H) :
    tM (RD K) K W m σ H fun x H1 => ∃ c, x = .bl c ∧ Q c H1 := by
  obtain ⟨w, ms, env, st, s, e, p⟩ := h
  have p' : Post Rel3 K W ms σ w ((m ms env st).bind fun d st1 => (toB d st1).bind fun c st2 => f c ms env st2) Q' := by
    have e0 : (mB (mT m) f) ms env st = (m ms env st).bind fun d st1 => (toB d st1).bind fun c st2 => f c ms env st2 := by
      show ((m ms env st).bind fun d st1 => toB d st1).bind (fun c st2 => f c ms env st2) = _
      cases m ms env st <;> rfl
    rw [e0] at p
    exact p
  refine ⟨w, ms, env, st, s, e, post_bind p' fun d st1 w1 v H1 _ l1 s1 r1 p1 => ?_⟩
  refine toB_post (W := W) (σ := σ) s1 r1 (post_bind p1 fun c st2 w2 v2 H2 _ l2 s2 r2 p2 => ?_)
  subst r2
  exact hq w2 ms env st2 H2 v2 s2 (e.mono (l1.trans l2)) p2
theorem se_one {op} {m : M D} (h : PE X a (tE X.K W m)) : PE X (.BoolOp op [a] pos) (tE X.K W m) := pe_one h
theorem se_and {m n : M D} (ha : PE X a (tE X.K W m)) (hb : PE X (.BoolOp .And (b :: rest) pos) (tE X.K W n)) : PE X (.BoolOp .And (a :: b :: rest) pos) (tE X.K W (mAndV m n)) := pe_imp (pe_and ha hb) fun σ H Q h =>
  seqB (Q := fun c H1 => if c = true then tE X.K W n σ H1 Q else Q (.bl false) H1) h fun w ms env st H c s e p => by
    cases c with
    | true => rw [if_pos rfl]; exact ⟨w, ms, env, st, s, e, p⟩
    | false => rw [if_neg Bool.false_ne_true]; exact p.val s (.bl _)
theorem se_or {m n : M D} (ha : PE X a (tE X.K W m)) (hb : PE X (.BoolOp .Or (b :: rest) pos) (tE X.K W n)) : PE X (.BoolOp .Or (a :: b :: rest) pos) (tE X.K W (mOrV m n)) := pe_imp (pe_or ha hb) fun σ H Q h =>
  seqB (Q := fun c H1 => if c = true then Q (.bl true) H1 else tE X.K W n σ H1 Q) h fun w ms env st H c s e p => by
    cases c with
    | true => rw [if_pos rfl]; exact p.val s (.bl _)
    | false => rw [if_neg Bool.false_ne_true]; exact ⟨w, ms, env, st, s, e, p⟩
theorem se_not {m : M D} (ha : PE X a (tE X.K W m)) : PE X (.UnaryOp .Not a pos) (tE X.K W (mNotV m)) := pe_imp (pe_not ha) fun σ H Q h =>
  seqB (Q := fun c H1 => Q (.bl (!c)) H1) h fun w ms env st H c s e p => p.val s (.bl _)
def mIf {α : Type} (c : M Bool) (m n : M α) : M α := mB c fun c => match c with
  | true => m
  | false => n
theorem se_if {mc : M Bool} {m n : M D} (hc : PT X c (tT X.K W mc)) (ha : PE X a (tE X.K W m)) (hb : PE X b (tE X.K W n)) : PE X (.IfExp c a b pos) (tE X.K W (mIf mc m n)) := pe_imp (pe_ifExp hc ha hb) fun σ H Q h =>
  seq1 h fun w ms env st H d x s e r p => by
    subst r
    cases x with
    | true => rw [if_pos rfl]; exact ⟨w, ms, env, st, s, e, p⟩
    | false => rw [if_neg Bool.false_ne_true]; exact ⟨w, ms, env, st, s, e, p⟩

/-! ### arguments, displays -/
def mNil : M (List D) := mRet []
def mCons (m : M D) (n : M (List D)) : M (List D) := mB m fun d => mB n fun ds => mRet (d :: ds)
variable {es : List Expr}
theorem sa_nil : PA X [] (tA X.K W mNil) := pa_imp pa_nil fun σ H Q h => by
  obtain ⟨w, ms, env, st, s, e, p⟩ := h
  exact p.val s .nil
def notStar : Expr → Bool
  | .Starred _ _ => false
  | _ => true
theorem star_of {e : Expr} (h : notStar e = true) (es : List Expr) (env : Env) : starEach (e :: es) env = (false, eval e env) :: starEach es env := by
  cases e <;> first | rfl | cases h
theorem sa_cons {m : M D} {n : M (List D)} (h : notStar a = true) (ha : PE X a (tE X.K W m)) (hr : PA X es (tA X.K W n)) : PA X (a :: es) (tA X.K W (mCons m n)) := pa_imp (pa_cons ha hr (star_of h es _)) fun σ H Q h =>
  seq2 h (fun _ _ _ _ l r => r.mono l) fun w ms env st H d ds x xs s e r rs p => p.val s (.cons r rs)
def mTup (m : M (List D)) : M D := mB m fun ds => fun _ _ st => if ds.length ≤ sizeLine then mkT ds st else .bad
def mLst (fl : Bool) (m : M (List D)) : M D := mB m fun ds => fun _ _ st => if ds.length ≤ sizeLine then mkL fl ds st else .bad
theorem se_tup {x1} {m : M (List D)} (h : PA X es (tA X.K W m)) : PE X (.Tuple es x1 pos) (tE X.K W (mTup m)) := pe_imp (pe_tup h) fun σ H Q h =>
  seq1 h fun w ms env st H ds xs s e rs p => by
    obtain ⟨hl, p⟩ := Post.ite p
    exact ⟨by rw [Paired.length rs]; exact hl, fun q hq => mkT_post s rs hq p⟩
theorem se_lst (fl : Bool) {m : M (List D)} (h : PA X es (tA X.K W m)) : PE X (.List es pos) (tE X.K W (mLst fl m)) := pe_imp (pe_lst h) fun σ H Q h =>
  seq1 h fun w ms env st H ds xs s e rs p => by
    obtain ⟨hl, p⟩ := Post.ite p
    exact ⟨by rw [Paired.length rs]; exact hl, fun q hq => mkL_post s rs hq p⟩
end
end Fk

namespace Fk
open PySem PySem.Spec L2
set_option autoImplicit false
section
variable {X : Cx} {W : Ex} {a b c : Expr} {pos : Pos}
/-! ### -x -/
def dNeg (d : D) (st : List O) : R D := match d with
  | .p (.int i) => .ok (.p (.int (-i))) st
  | _ => .bad
def mNeg (m : M D) : M D := mB m fun d => fun _ _ st => dNeg d st
theorem se_neg {m : M D} (ha : PE X a (tE X.K W m)) : PE X (.UnaryOp .USub a pos) (tE X.K W (mNeg m)) := pe_imp (pe_un un_neg ha) fun σ H Q h =>
  seq1 h fun w ms env st H d x s e r p => by
    unfold dNeg at p
    split at p
    · cases r; exact ⟨_, rfl, p.val s (.int _)⟩
    · exact False.elim p
/-! ### a op b op c -/
def mChain (f f' : Op2) (ma mb mc : M D) : M D := mB ma fun x => mB mb fun y => mB (fun _ _ st => (f x y st).bind toB) fun k => match k with
  | true => mB mc fun z => fun _ _ st => f' y z st
  | false => mC (.bool false)
theorem chain_post {f f' : Op2} {ma mb mc : M D} {σ : St} {H : Hp} {Q : VK} (h : tE X.K W (mChain f f' ma mb mc) σ H Q) : tChain (rD2 X.K f) (rD2 X.K f') (tE X.K W ma) (tE X.K W mb) (tE X.K W mc) σ H Q := by
  refine seq2 h (fun _ _ _ _ l r => r.mono l) fun w ms env st H a b x y s e ra rb p => ?_
  refine ⟨w, ms, st, a, b, σ, W, s, ra, rb, ?_⟩
  have p' : Post (RD X.K) X.K W ms σ w ((f a b st).bind fun d st1 => (toB d st1).bind fun k st2 => (match k with
    | true => mB mc fun z => fun _ _ st => f' b z st
    | false => mC (.bool false) : M D) ms env st2) Q := by
    have e0 : (mB (fun _ _ st => (f a b st).bind toB) fun k => (match k with
      | true => mB mc fun z => fun _ _ st => f' b z st
      | false => mC (.bool false) : M D)) ms env st = (f a b st).bind fun d st1 => (toB d st1).bind fun k st2 => (match k with
      | true => mB mc fun z => fun _ _ st => f' b z st
      | false => mC (.bool false) : M D) ms env st2 := by
      show ((f a b st).bind toB).bind _ = _
      cases f a b st <;> rfl
    rw [e0] at p
    exact p
  refine post_bind p' fun d st1 w1 v H1 _ l1 s1 r1 p1 => ?_
  refine toB_post (W := W) (σ := σ) (Q := fun k H3 => if k = true then tE X.K W mc σ H3 fun w' H4 => rD2 X.K f' y w' H4 Q else Q (.bl false) H3) s1 r1 (post_bind p1 fun k st2 w2 v2 H2 _ l2 s2 r2 p2 => ?_)
  subst r2
  cases v2 with
  | false => rw [if_neg Bool.false_ne_true]; exact p2.val s2 (.bl _)
  | true =>
    rw [if_pos rfl]
    have l12 := l1.trans l2
    refine ⟨w2, ms, env, st2, s2, e.mono l12, post_bind p2 fun d3 st3 w3 v3 H3 _ l3 s3 r3 p3 => ?_⟩
    exact ⟨w3, ms, st3, b, d3, σ, W, s3, rb.mono (l12.trans l3), r3, p3⟩
theorem se_chain {op op' : CmpOp} {f f' : Op2} {ma mb mc : M D} (ho : OpR X (compareOp op) (rD2 X.K f)) (ho' : OpR X (compareOp op') (rD2 X.K f')) (ha : PE X a (tE X.K W ma)) (hb : PE X b (tE X.K W mb)) (hc : PE X c (tE X.K W mc))
    (hm : lastMarks [op, op'] [b, c] = false) : PE X (.Compare a [op, op'] [b, c] pos) (tE X.K W (mChain f f' ma mb mc)) := pe_imp (pe_chain ho ho' ha hb hc hm) fun σ H Q h => chain_post h
theorem st_chain {op op' : CmpOp} {f f' : Op2} {ma mb mc : M D} (ho : OpR X (compareOp op) (rD2 X.K f)) (ho' : OpR X (compareOp op') (rD2 X.K f')) (ha : PE X a (tE X.K W ma)) (hb : PE X b (tE X.K W mb)) (hc : PE X c (tE X.K W mc))
    (hm : lastMarks [op, op'] [b, c] = false) : PT X (.Compare a [op, op'] [b, c] pos) (tT X.K W (mT (mChain f f' ma mb mc))) := pt_imp (pt_chain ho ho' ha hb hc hm) fun σ H Q h =>
  chain_post (seq1 h fun w ms env st H d x s _ r p => toB_post s r p)

/-! ### in -/
def flatP : PyData → Bool
  | .none => true
  | .bool _ => true
  | .int _ => true
  | .str _ => true
  | _ => false
def isL (d : D) : Bool := match d with
  | .p (.list _) => true
  | .r _ => true
  | .s _ => true
  | _ => false
def dIn (neg : Bool) : Op2 := fun x y st => match x, y with
  | .p (.str i), .p (.str j) => .ok (.p (.bool (if neg then !(!(Builtin.Str.occurrences j i 0 j.length 1).isEmpty) else !(Builtin.Str.occurrences j i 0 j.length 1).isEmpty))) st
  | x, y => match getSeq y st with
    | some ds => match x, unP ds with
      | .p d, some ps => if flatP d = true ∧ ps.all flatP = true then .ok (.p (.bool (if neg then !(ps.any fun z => PyData.eqv z d) else ps.any fun z => PyData.eqv z d))) st
        else if isL y = true ∧ SeqAt.shaped d = true ∧ SeqAt.shaped (.list ps) = true then .ok (.p (.bool (if neg then !(ps.any fun z => PyData.eqv z d) else ps.any fun z => PyData.eqv z d))) st
        else .bad
      | _, _ => .bad
    | none => match dGet y x st with
      | some r => .ok (.p (.bool (if neg then !r.isSome else r.isSome))) st
      | none => .bad
def rDIn (neg : Bool) : R2 := fun y x H Q => ∃ a o, x = .ref a ∧ DGet H a y o ∧ Q (.bl (if neg then !o.isSome else o.isSome)) H
theorem op_din (hu : X.A.units + 200 < cLine) : OpR X (compareOp .In) (rDIn false) := by
  intro pins s σ H x y v u Q I rx ry h
  obtain ⟨a, o, rfl, g, q⟩ := h
  obtain rfl : u = Value.ref a := ry
  exact d_in (by omega) I g rx fun s3 I3 => ⟨.bl o.isSome, H, I3, rfl, q⟩
theorem op_dnotin (hu : X.A.units + 200 < cLine) : OpR X (compareOp .NotIn) (rDIn true) := by
  intro pins s σ H x y v u Q I rx ry h
  obtain ⟨a, o, rfl, g, q⟩ := h
  obtain rfl : u = Value.ref a := ry
  exact d_notIn (by omega) I g rx fun s3 I3 => ⟨.bl (!o.isSome), H, I3, rfl, q⟩
theorem flat_eqV {K : PySem.W.Frag} {F : Hp} {v u : V} {d e : PyData} (r : Rp K F v d) (q : Rp K F u e) (h : flatP d = true) (h' : flatP e = true) : flatV v = true ∧ eqV v u = PyData.eqv d e := by
  cases r <;> first | (cases h; done) | (cases q <;> first | (cases h'; done) | exact ⟨rfl, by simp only [eqV, PyData.eqv]⟩)
theorem flat_any {K : PySem.W.Frag} {F : Hp} {u : V} {e : PyData} (q : Rp K F u e) (h' : flatP e = true) : ∀ {vs : List V} {ds : List PyData}, RpA K F vs ds → ds.all flatP = true → vs.all flatV = true ∧ inV u vs = ds.any fun z => PyData.eqv z e
  | _, _, .nil, _ => ⟨rfl, rfl⟩
  | _, _, .cons (v := v) (vs := vs) (d := d) (ds := ds) r t, h => by
    rw [List.all_cons, Bool.and_eq_true] at h
    obtain ⟨a1, a2⟩ := flat_eqV r q h.1 h'
    obtain ⟨b1, b2⟩ := flat_any q h' t h.2
    refine ⟨by rw [List.all_cons, a1, b1]; rfl, ?_⟩
    show ((v :: vs).any fun y => eqV y u) = _
    rw [List.any_cons, List.any_cons, a2]
    have b2' : (vs.any fun y => eqV y u) = _ := b2
    rw [b2']
theorem unP_ints : ∀ ns : List Int, unP (ns.map fun n => D.p (.int n)) = some (ns.map .int)
  | [] => rfl
  | n :: r => by show (unP (r.map fun n => D.p (.int n))).map _ = _; rw [unP_ints r]; rfl
theorem seq_toPD {b : D} {st : List O} {ds : List D} {ps : List PyData} (hd : getSeq b st = some ds) (ep : unP ds = some ps) (h : isL b = true) : toPD b st = some (.list ps) := by
  cases b with
  | p z =>
    cases z with
    | list l =>
      have hd' : some (asP l) = some ds := hd
      cases hd'
      rw [unP_asP] at ep
      cases ep
      rfl
    | _ => cases h
  | r i =>
    have hd' : getL (.r i) st = some ds := hd
    show (match getL (.r i) st with
      | some ds => match unP ds with
        | some ps => some (.list ps)
        | none => none
      | none => none) = some (PyData.list ps)
    rw [hd']
    simp only [ep]
  | s ns =>
    have hd' : some (ns.map fun n => D.p (.int n)) = some ds := hd
    cases hd'
    rw [unP_ints] at ep
    cases ep
    rfl
  | g ds => cases h
  | o ds => cases h
theorem in_ok {neg : Bool} {w : Wd} {ms : List Nat} {st : List O} {H : Hp} {σ : St} {a b : D} {x y : V} {Q : VK} (s : RSt X.K ms w st H) (ra : RD X.K w x a) (rb : RD X.K w y b) (p : Post (RD X.K) X.K W ms σ w (dIn neg a b st) Q) :
    (∃ i j, x = .str i ∧ y = .str j ∧ Q (.bl (if neg then !(!(Builtin.Str.occurrences j i 0 j.length 1).isEmpty) else !(Builtin.Str.occurrences j i 0 j.length 1).isEmpty)) H) ∨ rIn X.K neg x y H Q ∨
    (∃ d ds, Dp X.K H x d ∧ Dp X.K H y (.list ds) ∧ SeqAt.shaped d = true ∧ SeqAt.shaped (.list ds) = true ∧ Q (.bl (if neg then !(ds.any fun z => PyData.eqv z d) else ds.any fun z => PyData.eqv z d)) H) ∨ rDIn neg x y H Q := by
  unfold dIn at p
  split at p
  · cases ra; cases rb
    exact .inl ⟨_, _, rfl, rfl, p.val s (.bl _)⟩
  · split at p
    · rename_i ds hd
      split at p
      · rename_i d ps ep _
        obtain ⟨l, vs, e0, q, rs⟩ := getSeq_ok s rb hd
        have rp := rds_unP ep rs
        by_cases hc : flatP d = true ∧ ps.all flatP = true
        · rw [if_pos hc] at p
          obtain ⟨z1, z2⟩ := flat_any ra hc.1 rp hc.2
          have zx : flatV x = true := (flat_eqV ra ra hc.1 hc.1).1
          refine .inr (.inl ⟨l, vs, e0, q, zx, z1, ?_⟩)
          rw [z2]
          exact p.val s (.bl _)
        · rw [if_neg hc] at p
          obtain ⟨⟨h1, h2, h3⟩, p⟩ := Post.ite p
          have hd2 : toPD b st = some (.list ps) := seq_toPD hd ep h1
          exact .inr (.inr (.inl ⟨d, ps, Rp.dp s ra (SeqAt.canLay_of_shaped h2), toPD_dp s rb hd2 h3, h2, h3, p.val s (.bl _)⟩))
      · exact False.elim p
    · split at p
      · obtain ⟨l, rv, rfl, g, ro⟩ := dGet_ok s rb ra (by assumption)
        refine .inr (.inr (.inr ⟨l, rv, rfl, g, ?_⟩))
        rename_i r _
        cases rv with
        | none => cases r with
          | none => exact p.val s (.bl _)
          | some _ => exact False.elim ro
        | some _ => cases r with
          | none => exact False.elim ro
          | some _ => exact p.val s (.bl _)
      · exact False.elim p
theorem op_inDD (hu : X.A.units + 200 < cLine) : OpR X (compareOp .In) (rD2 X.K (dIn false)) := OpR.imp (OpR.or op_in_str (OpR.or op_in_seq (OpR.or (op_inD (by omega)) (op_din hu)))) fun x y H Q h => by
  obtain ⟨w, ms, st, a, b, σ, W, s, ra, rb, p⟩ := h
  rcases in_ok s ra rb p with h | h | h | h
  · exact .inl h
  · exact .inr (.inl h)
  · exact .inr (.inr (.inl h))
  · exact .inr (.inr (.inr h))
theorem op_notinDD (hu : X.A.units + 200 < cLine) : OpR X (compareOp .NotIn) (rD2 X.K (dIn true)) := OpR.imp (OpR.or op_notin_str (OpR.or op_notIn_seq (OpR.or (op_notInD (by omega)) (op_dnotin hu)))) fun x y H Q h => by
  obtain ⟨w, ms, st, a, b, σ, W, s, ra, rb, p⟩ := h
  rcases in_ok s ra rb p with h | h | h | h
  · exact .inl h
  · exact .inr (.inl h)
  · exact .inr (.inr (.inl h))
  · exact .inr (.inr (.inr h))

/-! ### a dict and {} -/
def dLenK (d : D) (st : List O) : Option Nat := match d with
  | .p (.dict l) => match l with
    | (.tuple _, _) :: _ => none
    | l => some l.length
  | .r i => match st[i]? with
    | some (.dK l) => some l.length
    | some (.lk (.dK l)) => some l.length
    | _ => none
  | _ => none
theorem rpK_len {K : PySem.W.Frag} {F : Hp} : ∀ {kvs : List (Key × V)} {l : List (PyData × PyData)}, RpK K F kvs l → kvs.length = l.length
  | _, _, .nil => rfl
  | _, _, .cons _ r => by simp [rpK_len r]
theorem dLenK_ok {K : PySem.W.Frag} {w : Wd} {ms : List Nat} {st : List O} {H : Hp} (s : RSt K ms w st H) {x : V} {d : D} {n : Nat} (r : RD K w x d) (h : dLenK d st = some n) : ∃ a kvs, x = .ref a ∧ Rd H a (.dK kvs) ∧ kvs.length = n := by
  unfold dLenK at h
  split at h
  · split at h
    · cases h
    · rename_i hl
      cases h
      cases r with
      | dK h1 r1 => exact ⟨_, _, rfl, s.rd h1, rpK_len r1⟩
      | dT h1 n1 r1 =>
        cases r1 with
        | nil => exact absurd rfl n1
        | cons _ _ => exact absurd rfl (hl _ _ _)
  · obtain ⟨a, ea, rfl⟩ := r
    split at h
    · cases h
      obtain ⟨kvs, h1, h2⟩ := s.dK (.inl (by assumption)) ea
      exact ⟨a, kvs, rfl, h1, Paired.length h2⟩
    · cases h
      obtain ⟨kvs, h1, h2⟩ := s.dK (.inr (by assumption)) ea
      exact ⟨a, kvs, rfl, h1, Paired.length h2⟩
    · cases h
  · cases h
def rNeE (neg : Bool) : R2 := fun x y H Q => ∃ a b ks, x = .ref a ∧ y = .ref b ∧ Rd H a (.dK ks) ∧ Rd H b (.dK []) ∧ Q (.bl (if neg then !(ks.length == 0) else ks.length == 0)) H
theorem op_neE (hu : X.A.units + 200 < cLine) : OpR X (compareOp .NotEq) (rNeE true) := by
  intro pins s σ H x y v u Q I rx ry h
  obtain ⟨a, b, ks, rfl, rfl, ea, eb, q⟩ := h
  obtain rfl : v = Value.ref a := rx
  obtain rfl : u = Value.ref b := ry
  obtain ⟨_, ya, va, ra, da⟩ := dk_rd I.hok ea
  obtain ⟨_, yb, vb, rb, db⟩ := dk_rd I.hok eb
  cases rb
  refine PySem.W.keq_ne (knd := mixKind X.prog X.w) (r := true) ya yb da db (by omega) (fun e => ?_) (fin_bl I q (by rw [ra.length]; simp))
  cases va with
  | nil => exact .nil
  | cons _ _ => cases e
theorem op_eqE (hu : X.A.units + 200 < cLine) : OpR X (compareOp .Eq) (rNeE false) := by
  intro pins s σ H x y v u Q I rx ry h
  obtain ⟨a, b, ks, rfl, rfl, ea, eb, q⟩ := h
  obtain rfl : v = Value.ref a := rx
  obtain rfl : u = Value.ref b := ry
  obtain ⟨_, ya, va, ra, da⟩ := dk_rd I.hok ea
  obtain ⟨_, yb, vb, rb, db⟩ := dk_rd I.hok eb
  cases rb
  refine PySem.W.keq_eq (knd := mixKind X.prog X.w) (r := true) ya yb da db (by omega) (fun e => ?_) (fin_bl I q (by rw [ra.length]; simp))
  cases va with
  | nil => exact .nil
  | cons _ _ => cases e
def dNe' : Op2 := fun a b st => match b with
  | .p (.dict []) => match dLenK a st with
    | some n => .ok (.p (.bool (!(n == 0)))) st
    | none => .bad
  | b => dNe a b st
def dEq' : Op2 := fun a b st => match b with
  | .p (.dict []) => match dLenK a st with
    | some n => .ok (.p (.bool (n == 0))) st
    | none => .bad
  | b => dEq a b st
theorem op_ne' (hu : X.A.units + 200 < cLine) : OpR X (compareOp .NotEq) (rD2 X.K dNe') := OpR.imp (OpR.or (op_neE hu) (op_neDD hu)) fun x y H Q h => by
  obtain ⟨w, ms, st, a, b, σ, W, s, ra, rb, p⟩ := h
  unfold dNe' at p
  split at p
  · split at p
    · obtain ⟨l, kvs, rfl, h1, rfl⟩ := dLenK_ok s ra (by assumption)
      cases rb with
      | dK h2 r2 => cases r2; exact .inl ⟨l, _, kvs, rfl, rfl, h1, s.rd h2, p.val s (.bl _)⟩
      | dT h2 n2 r2 => cases r2; exact absurd rfl n2
    · exact False.elim p
  · exact .inr ⟨w, ms, st, a, b, σ, W, s, ra, rb, p⟩
theorem op_eq' (hu : X.A.units + 200 < cLine) : OpR X (compareOp .Eq) (rD2 X.K dEq') := OpR.imp (OpR.or (op_eqE hu) (op_eqDD hu)) fun x y H Q h => by
  obtain ⟨w, ms, st, a, b, σ, W, s, ra, rb, p⟩ := h
  unfold dEq' at p
  split at p
  · split at p
    · obtain ⟨l, kvs, rfl, h1, rfl⟩ := dLenK_ok s ra (by assumption)
      cases rb with
      | dK h2 r2 => cases r2; exact .inl ⟨l, _, kvs, rfl, rfl, h1, s.rd h2, p.val s (.bl _)⟩
      | dT h2 n2 r2 => cases r2; exact absurd rfl n2
    · exact False.elim p
  · exact .inr ⟨w, ms, st, a, b, σ, W, s, ra, rb, p⟩
end
end Fk

namespace Fk
open PySem PySem.Spec L2
set_option autoImplicit false

/-! ### sorting -/
def ins {α : Type} (le : α → α → Bool) (x : α) : List α → List α
  | [] => [x]
  | y :: r => match le x y with
    | true => x :: y :: r
    | false => y :: ins le x r
def isort {α : Type} (le : α → α → Bool) : List α → List α
  | [] => []
  | x :: r => ins le x (isort le r)
theorem ins_perm {α : Type} (le : α → α → Bool) (x : α) : ∀ l : List α, (ins le x l).Perm (x :: l)
  | [] => List.Perm.refl _
  | y :: r => by
    unfold ins
    split
    · exact List.Perm.refl _
    · exact ((ins_perm le x r).cons y).trans (List.Perm.swap x y r)
theorem isort_perm {α : Type} (le : α → α → Bool) : ∀ l : List α, (isort le l).Perm l
  | [] => List.Perm.refl _
  | x :: r => (ins_perm le x _).trans ((isort_perm le r).cons x)
theorem ins_sorted {α : Type} {le : α → α → Bool} (tr : ∀ a b c, le a b = true → le b c = true → le a c = true) (tot : ∀ a b, le a b = true ∨ le b a = true) (x : α) : ∀ l : List α, l.Pairwise (fun a b => le a b = true) → (ins le x l).Pairwise (fun a b => le a b = true)
  | [], _ => List.pairwise_singleton _ _
  | y :: r, h => by
    rw [List.pairwise_cons] at h
    unfold ins
    split
    · rename_i hxy
      exact List.pairwise_cons.mpr ⟨fun z hz => by
        rcases List.mem_cons.mp hz with rfl | hz
        · exact hxy
        · exact tr _ _ _ hxy (h.1 z hz), List.pairwise_cons.mpr h⟩
    · rename_i hxy
      refine List.pairwise_cons.mpr ⟨fun z hz => ?_, ins_sorted tr tot x r h.2⟩
      rcases List.mem_cons.mp ((ins_perm le x r).mem_iff.mp hz) with rfl | hz
      · rcases tot z y with q | q
        · rw [q] at hxy; cases hxy
        · exact q
      · exact h.1 z hz
theorem isort_sorted {α : Type} {le : α → α → Bool} (tr : ∀ a b c, le a b = true → le b c = true → le a c = true) (tot : ∀ a b, le a b = true ∨ le b a = true) : ∀ l : List α, (isort le l).Pairwise (fun a b => le a b = true)
  | [] => List.Pairwise.nil
  | x :: r => ins_sorted tr tot x _ (isort_sorted tr tot r)
def leI (a b : Int) : Bool := decide (a ≤ b)
theorem isortI_eq {a b : List Int} (h : a.Perm b) (p : a.Pairwise (· ≤ ·)) : a = isort leI b := by
  refine (h.trans (isort_perm leI b).symm).eq_of_pairwise (le := fun a b => a ≤ b) (fun x y _ _ h1 h2 => Int.le_antisymm h1 h2) p ?_
  exact (isort_sorted (le := leI) (fun a b c h1 h2 => decide_eq_true (Int.le_trans (of_decide_eq_true h1) (of_decide_eq_true h2))) (fun a b => (Int.le_total a b).elim (fun h => .inl (decide_eq_true h)) fun h => .inr (decide_eq_true h)) b).imp fun h => of_decide_eq_true h
def leS (a b : Str) : Bool := !ltCps b.cps.toList a.cps.toList
theorem leS_iff (a b : Str) : leS a b = true ↔ a.cps.toList ≤ b.cps.toList := by
  unfold leS
  rw [PyProof.Rows.ltCps_eq]
  simp [List.not_lt]
theorem leS_trans (a b c : Str) (h1 : leS a b = true) (h2 : leS b c = true) : leS a c = true := (leS_iff a c).mpr (List.le_trans ((leS_iff a b).mp h1) ((leS_iff b c).mp h2))
theorem leS_total (a b : Str) : leS a b = true ∨ leS b a = true := (List.le_total a.cps.toList b.cps.toList).elim (fun h => .inl ((leS_iff a b).mpr h)) fun h => .inr ((leS_iff b a).mpr h)
theorem leS_anti (a b : Str) (h1 : leS a b = true) (h2 : leS b a = true) : a = b := by
  have h := List.le_antisymm ((leS_iff a b).mp h1) ((leS_iff b a).mp h2)
  obtain ⟨⟨x⟩⟩ := a
  obtain ⟨⟨y⟩⟩ := b
  have h' : x = y := h
  rw [h']
theorem rising_pw : ∀ (l : List Str) (p : Str), PyProof.Rows.risingS p l = true → (p :: l).Pairwise (fun a b => leS a b = true)
  | [], _, _ => List.pairwise_singleton _ _
  | x :: r, p, h => by
    have h' : (!ltCps x.cps.toList p.cps.toList && PyProof.Rows.risingS x r) = true := h
    rw [Bool.and_eq_true] at h'
    have ih := rising_pw r x h'.2
    refine List.pairwise_cons.mpr ⟨fun z hz => ?_, ih⟩
    rcases List.mem_cons.mp hz with rfl | hz
    · exact h'.1
    · exact leS_trans p x z h'.1 ((List.pairwise_cons.mp ih).1 z hz)
theorem isortS_eq {a b : List Str} (h : a.Perm b) (p : PyProof.Rows.sortedS a = true) : a = isort leS b := by
  have pw : a.Pairwise (fun a b => leS a b = true) := by
    cases a with
    | nil => exact List.Pairwise.nil
    | cons x r => exact rising_pw r x p
  exact (h.trans (isort_perm leS b).symm).eq_of_pairwise (fun x y _ _ h1 h2 => leS_anti x y h1 h2) pw (isort_sorted leS_trans leS_total b)

/-! ### built-in functions -/
abbrev OpN := List D → List O → R D
def rDs (K : PySem.W.Frag) (f : OpN) : List V → Hp → VK → Prop := fun vs H Q => ∃ w ms st ds σ W, RSt K ms w st H ∧ RDs K w vs ds ∧ Post (RD K) K W ms σ w (f ds st) Q
theorem CallR.imp {X : Cx} {f : Value} {r r' : List V → Hp → VK → Prop} (h : CallR X f r) (q : ∀ x H Q, r' x H Q → r x H Q) : CallR X f r' := fun pins s σ H xs us Q I rx z => h pins s σ H xs us Q I rx (q xs H Q z)
def mN (f : OpN) (m : M (List D)) : M D := mB m fun ds => fun _ _ st => f ds st
section
variable {X : Cx} {W : Ex} {e : Expr} {es : List Expr} {p pos : Pos} {x : Str}
theorem back_any : ∀ {es : List Expr} {pos : Pos} {env : Env}, es.all notStar = true → (backTo pos (starEach es env)).any (·.1) = false := by
  intro es
  induction es with
  | nil => intro pos env _; rfl
  | cons e r ih =>
    intro pos env h
    rw [List.all_cons, Bool.and_eq_true] at h
    rw [star_of h.1]
    have := ih (pos := pos) (env := env) h.2
    first
      | exact this
      | (show (false || (backTo pos (starEach r env)).any (·.1)) = false; rw [this]; rfl)
      | simpa [backTo] using this
theorem se_callB {id : String} {f : OpN} {m : M (List D)} (hc : CallR X (.builtin id) (rDs X.K f)) (hg : Gl X x) (hm : X.mg x = none) (hv : bootBuiltins x = some (.builtin id)) (ha : PA X (e :: es) (tA X.K W m)) (hn : x ≠ "__name__") (hdb : (x == ("__debug__" : Str)) = false)
    (hs : (e :: es).all notStar = true) : PE X (.Call (.Name x p) (e :: es) [] pos) (tE X.K W (mN f m)) := by
  rw [List.all_cons, Bool.and_eq_true] at hs
  exact pe_imp (pe_callB hc hg hm hv ha hn hdb (star_of hs.1 es _) (back_any hs.2)) fun σ H Q h => seq1 h fun w ms env st H d x s _ r p => ⟨w, ms, st, d, σ, W, s, r, p⟩
theorem se_callTy {T : String} {f : OpN} {m : M (List D)} (hc : CallR X (.type T) (rDs X.K f)) (hg : Gl X x) (hm : X.mg x = none) (hv : bootBuiltins x = some (.type T)) (ha : PA X (e :: es) (tA X.K W m)) (hn : x ≠ "__name__") (hdb : (x == ("__debug__" : Str)) = false)
    (hs : (e :: es).all notStar = true) : PE X (.Call (.Name x p) (e :: es) [] pos) (tE X.K W (mN f m)) := by
  rw [List.all_cons, Bool.and_eq_true] at hs
  exact pe_imp (pe_callTy hc hg hm hv ha hn hdb (star_of hs.1 es _) (back_any hs.2)) fun σ H Q h => seq1 h fun w ms env st H d x s _ r p => ⟨w, ms, st, d, σ, W, s, r, p⟩
end
/-- ints, bools, texts of pure data -/
def intsP : List PyData → Option (List Int)
  | [] => some []
  | .int i :: r => (intsP r).map (i :: ·)
  | _ :: _ => none
def strsP : List PyData → Option (List Str)
  | [] => some []
  | .str i :: r => (strsP r).map (i :: ·)
  | _ :: _ => none
def bls : List PyData → Option (List Bool)
  | [] => some []
  | .bool i :: r => (bls r).map (i :: ·)
  | _ :: _ => none
theorem ints_some : ∀ {ds : List PyData} {ns : List Int}, intsP ds = some ns → ds = ns.map .int
  | [], _, h => by cases h; rfl
  | .int i :: r, ns, h => by
    have h' : (intsP r).map (i :: ·) = some ns := h
    cases e : intsP r with
    | none => rw [e] at h'; cases h'
    | some l => rw [e] at h'; cases h'; rw [ints_some e]; rfl
theorem strs_some : ∀ {ds : List PyData} {ns : List Str}, strsP ds = some ns → ds = ns.map .str
  | [], _, h => by cases h; rfl
  | .str i :: r, ns, h => by
    have h' : (strsP r).map (i :: ·) = some ns := h
    cases e : strsP r with
    | none => rw [e] at h'; cases h'
    | some l => rw [e] at h'; cases h'; rw [strs_some e]; rfl
theorem bls_some : ∀ {ds : List PyData} {ns : List Bool}, bls ds = some ns → ds = ns.map .bool
  | [], _, h => by cases h; rfl
  | .bool i :: r, ns, h => by
    have h' : (bls r).map (i :: ·) = some ns := h
    cases e : bls r with
    | none => rw [e] at h'; cases h'
    | some l => rw [e] at h'; cases h'; rw [bls_some e]; rfl
/-- a list of pure data -/
def getP (d : D) (st : List O) : Option (List PyData) := match getL d st with
  | some ds => unP ds
  | none => none
theorem getP_ok {K : PySem.W.Frag} {w : Wd} {ms : List Nat} {st : List O} {H : Hp} (s : RSt K ms w st H) {v : V} {d : D} {ps : List PyData} (r : RD K w v d) (h : getP d st = some ps) : ∃ a vs, v = .ref a ∧ H a = some (.lst vs) ∧ RpA K w.F vs ps := by
  unfold getP at h
  split at h
  · obtain ⟨a, vs, e, q, rs⟩ := getL_ok s r (by assumption)
    exact ⟨a, vs, e, q, rds_unP h rs⟩
  · cases h
def fLen : OpN := fun ds st => match ds with
  | [.p (.str z)] => if z.length ≤ sizeLine then .ok (.p (.int z.length)) st else .bad
  | [d] => match getSeq d st with
    | some l => .ok (.p (.int l.length)) st
    | none => match dLenK d st with
      | some n => .ok (.p (.int n)) st
      | none => .bad
  | _ => .bad
def fSum : OpN := fun ds st => match ds with
  | [d] => match getP d st with
    | some ps => match intsP ps with
      | some ns => .ok (.p (.int ns.sum)) st
      | none => .bad
    | none => .bad
  | _ => .bad
def mostI (l : List Int) : Option Int := match l with
  | [] => none
  | x :: r => some (r.foldl (fun a b => if a < b then b else a) x)
def leastI (l : List Int) : Option Int := match l with
  | [] => none
  | x :: r => some (r.foldl (fun a b => if b < a then b else a) x)
def fMax : OpN := fun ds st => match ds with
  | [.p (.int i), .p (.int j)] => .ok (.p (.int (if j > i then j else i))) st
  | [d] => match getP d st with
    | some ps => match intsP ps with
      | some ns => match mostI ns with
        | some m => .ok (.p (.int m)) st
        | none => .bad
      | none => .bad
    | none => .bad
  | _ => .bad
def fMin : OpN := fun ds st => match ds with
  | [.p (.int i), .p (.int j)] => .ok (.p (.int (if j < i then j else i))) st
  | [d] => match getP d st with
    | some ps => match intsP ps with
      | some ns => match leastI ns with
        | some m => .ok (.p (.int m)) st
        | none => .bad
      | none => .bad
    | none => .bad
  | _ => .bad
def fAny (all : Bool) : OpN := fun ds st => match ds with
  | [d] => match getP d st with
    | some ps => match bls ps with
      | some ns => .ok (.p (.bool (if all then ns.all id else ns.any id))) st
      | none => .bad
    | none => .bad
  | _ => .bad
def fSorted (fl : Bool) : OpN := fun ds st => match ds with
  | [d] => match getP d st with
    | some ps => match intsP ps with
      | some ns => mkL fl ((isort leI ns).map fun n => .p (.int n)) st
      | none => match strsP ps with
        | some ns => if ns.length < 64 then mkL fl ((isort leS ns).map fun n => .p (.str n)) st else .bad
        | none => .bad
    | none => .bad
  | _ => .bad
def keysD (d : D) (st : List O) : Option (List Key) := match d with
  | .r i => match st[i]? with
    | some (.dK l) => some (l.map (·.1))
    | some (.lk (.dK l)) => some (l.map (·.1))
    | _ => none
  | .p (.dict l) => keysOf (l.map (·.1))
  | _ => none
def fList (fl : Bool) : OpN := fun ds st => match ds with
  | [d] => match getSeq d st with
    | some l => mkL fl l st
    | none => match keysD d st with
      | some ks => mkL fl (ks.map fun k => .p (kP k)) st
      | none => .bad
  | _ => .bad
def fTuple : OpN := fun ds st => match ds with
  | [.p (.tuple l)] => .ok (.p (.tuple l)) st
  | [d] => match getL d st with
    | some l => mkT l st
    | none => .bad
  | _ => .bad
def fInt : OpN := fun ds st => match ds with
  | [.p (.int i)] => .ok (.p (.int i)) st
  | [.p (.bool k)] => .ok (.p (.int (if k then 1 else 0))) st
  | [.p (.str a)] => match PySem.intText? a with
    | some n => if a.length ≤ 640 then .ok (.p (.int n)) st else .bad
    | none => .bad
  | _ => .bad
def fStr : OpN := fun ds st => match ds with
  | [.p (.int i)] => if i.natAbs.log2 < 1920 then .ok (.p (.str (toString i))) st else .bad
  | _ => .bad

section
variable {X : Cx}
theorem vals1D {K : PySem.W.Frag} {w : Wd} {vs : List V} {d : D} (r : RDs K w vs [d]) : ∃ v, vs = [v] ∧ RD K w v d := by
  cases r with
  | cons h t => cases t; exact ⟨_, rfl, h⟩
theorem vals2D {K : PySem.W.Frag} {w : Wd} {vs : List V} {d e : D} (r : RDs K w vs [d, e]) : ∃ v u, vs = [v, u] ∧ RD K w v d ∧ RD K w u e := by
  cases r with
  | cons h t => cases t with
    | cons h2 t2 => cases t2; exact ⟨_, _, rfl, h, h2⟩
theorem d_lenR : CallR X (.builtin "len") (fun xs H Q => ∃ a kvs, xs = [V.ref a] ∧ Rd H a (.dK kvs) ∧ Q (.int kvs.length) H) := by
  intro pins s σ H xs us Q I r h
  obtain ⟨a, kvs, rfl, hk, q⟩ := h
  obtain ⟨u, rfl, rx⟩ := vals1 r
  obtain rfl : u = .ref a := rx
  exact d_len I hk fun t s' I' => ⟨.int kvs.length, H, I', ⟨t, rfl⟩, q⟩
theorem cr_lenD : CallR X (.builtin "len") (rDs X.K fLen) := CallR.imp (CallR.or call_len d_lenR) fun vs H Q h => by
  obtain ⟨w, ms, st, ds, σ, W, s, rs, p⟩ := h
  unfold fLen at p
  split at p
  · obtain ⟨v, rfl, r⟩ := vals1D rs
    cases r
    obtain ⟨hl, p⟩ := Post.ite p
    exact .inl ⟨_, _, rfl, ⟨hl, rfl⟩, p.val s (.int _)⟩
  · obtain ⟨v, rfl, r⟩ := vals1D rs
    split at p
    · obtain ⟨a, us, rfl, q, rr⟩ := getSeq_ok s r (by assumption)
      have hl := Paired.length rr
      refine .inl ⟨_, us.length, rfl, ?_, ?_⟩
      · rcases q with q | q
        · exact .inl ⟨us, q, rfl⟩
        · exact .inr ⟨us, q, rfl⟩
      · rw [hl]; exact p.val s (.int _)
    · split at p
      · obtain ⟨a, kvs, rfl, h1, rfl⟩ := dLenK_ok s r (by assumption)
        exact .inr ⟨a, kvs, rfl, h1, p.val s (.int _)⟩
      · exact False.elim p
  · exact False.elim p
theorem cr_sumD (hc : X.calm = true) : CallR X (.builtin "sum") (rDs X.K fSum) := CallR.imp (cr_sum hc) fun vs H Q h => by
  obtain ⟨w, ms, st, ds, σ, W, s, rs, p⟩ := h
  unfold fSum at p
  split at p
  · obtain ⟨v, rfl, r⟩ := vals1D rs
    split at p
    · split at p
      · rename_i ps hp _ ns hn
        obtain ⟨a, us, rfl, q, rr⟩ := getP_ok s r hp
        rw [ints_some hn] at rr
        rw [RpA.of_ints rr] at q
        exact ⟨a, ns, rfl, SqL.of q, p.val s (.int _)⟩
      · exact False.elim p
    · exact False.elim p
  · exact False.elim p
theorem most_foldl : ∀ (l : List Int) (x : Int), (l.foldl (fun a b => if a < b then b else a) x) ∈ x :: l ∧ ∀ y ∈ x :: l, y ≤ l.foldl (fun a b => if a < b then b else a) x
  | [], x => ⟨List.mem_singleton.mpr rfl, fun y hy => by rw [List.mem_singleton.mp hy]; exact Int.le_refl _⟩
  | z :: r, x => by
    obtain ⟨h1, h2⟩ := most_foldl r (if x < z then z else x)
    show (r.foldl _ (if x < z then z else x)) ∈ _ ∧ ∀ y ∈ _, y ≤ r.foldl _ (if x < z then z else x)
    refine ⟨?_, fun y hy => ?_⟩
    · rcases List.mem_cons.mp h1 with h | h
      · rw [h]
        split
        · exact List.mem_cons_of_mem _ List.mem_cons_self
        · exact List.mem_cons_self
      · exact List.mem_cons_of_mem _ (List.mem_cons_of_mem _ h)
    · have h0 := h2 _ List.mem_cons_self
      rcases List.mem_cons.mp hy with rfl | hy
      · split at h0 <;> rename_i hc
        · rw [if_pos hc]; omega
        · rw [if_neg hc]; omega
      · rcases List.mem_cons.mp hy with rfl | hy
        · split at h0 <;> rename_i hc
          · rw [if_pos hc]; omega
          · rw [if_neg hc]; omega
        · exact h2 y (List.mem_cons_of_mem _ hy)
theorem least_foldl : ∀ (l : List Int) (x : Int), (l.foldl (fun a b => if b < a then b else a) x) ∈ x :: l ∧ ∀ y ∈ x :: l, l.foldl (fun a b => if b < a then b else a) x ≤ y
  | [], x => ⟨List.mem_singleton.mpr rfl, fun y hy => by rw [List.mem_singleton.mp hy]; exact Int.le_refl _⟩
  | z :: r, x => by
    obtain ⟨h1, h2⟩ := least_foldl r (if z < x then z else x)
    show (r.foldl _ (if z < x then z else x)) ∈ _ ∧ ∀ y ∈ _, r.foldl _ (if z < x then z else x) ≤ y
    refine ⟨?_, fun y hy => ?_⟩
    · rcases List.mem_cons.mp h1 with h | h
      · rw [h]
        split
        · exact List.mem_cons_of_mem _ List.mem_cons_self
        · exact List.mem_cons_self
      · exact List.mem_cons_of_mem _ (List.mem_cons_of_mem _ h)
    · have h0 := h2 _ List.mem_cons_self
      rcases List.mem_cons.mp hy with rfl | hy
      · split at h0 <;> rename_i hc
        · rw [if_pos hc]; omega
        · rw [if_neg hc]; omega
      · rcases List.mem_cons.mp hy with rfl | hy
        · split at h0 <;> rename_i hc
          · rw [if_pos hc]; omega
          · rw [if_neg hc]; omega
        · exact h2 y (List.mem_cons_of_mem _ hy)
theorem mostI_ok {l : List Int} {m : Int} (h : mostI l = some m) : 0 < l.length ∧ ∀ m', m' ∈ l → (∀ y ∈ l, y ≤ m') → m' = m := by
  cases l with
  | nil => cases h
  | cons x r =>
    cases h
    obtain ⟨h1, h2⟩ := most_foldl r x
    exact ⟨Nat.succ_pos _, fun m' hm hy => Int.le_antisymm (h2 m' hm) (hy _ h1)⟩
theorem leastI_ok {l : List Int} {m : Int} (h : leastI l = some m) : 0 < l.length ∧ ∀ m', m' ∈ l → (∀ y ∈ l, m' ≤ y) → m' = m := by
  cases l with
  | nil => cases h
  | cons x r =>
    cases h
    obtain ⟨h1, h2⟩ := least_foldl r x
    exact ⟨Nat.succ_pos _, fun m' hm hy => Int.le_antisymm (hy _ h1) (h2 m' hm)⟩
theorem cr_maxD (hc : X.calm = true) : CallR X (.builtin "max") (rDs X.K fMax) := CallR.imp (CallR.or (call_max2 hc) (cr_max hc)) fun vs H Q h => by
  obtain ⟨w, ms, st, ds, σ, W, s, rs, p⟩ := h
  unfold fMax at p
  split at p
  · obtain ⟨v, u, rfl, r1, r2⟩ := vals2D rs
    cases r1; cases r2
    exact .inl ⟨_, _, rfl, p.val s (.int _)⟩
  · obtain ⟨v, rfl, r⟩ := vals1D rs
    split at p
    · split at p
      · split at p
        · rename_i ps hp _ ns hn _ m hm
          obtain ⟨a, us, rfl, q, rr⟩ := getP_ok s r hp
          rw [ints_some hn] at rr
          rw [RpA.of_ints rr] at q
          obtain ⟨z1, z2⟩ := mostI_ok hm
          exact .inr ⟨a, ns, rfl, SqL.of q, z1, fun m' h1 h2 => by rw [z2 m' h1 h2]; exact p.val s (.int _)⟩
        · exact False.elim p
      · exact False.elim p
    · exact False.elim p
  · exact False.elim p
theorem cr_minD (hc : X.calm = true) : CallR X (.builtin "min") (rDs X.K fMin) := CallR.imp (CallR.or (call_min2 hc) (cr_min hc)) fun vs H Q h => by
  obtain ⟨w, ms, st, ds, σ, W, s, rs, p⟩ := h
  unfold fMin at p
  split at p
  · obtain ⟨v, u, rfl, r1, r2⟩ := vals2D rs
    cases r1; cases r2
    exact .inl ⟨_, _, rfl, p.val s (.int _)⟩
  · obtain ⟨v, rfl, r⟩ := vals1D rs
    split at p
    · split at p
      · split at p
        · rename_i ps hp _ ns hn _ m hm
          obtain ⟨a, us, rfl, q, rr⟩ := getP_ok s r hp
          rw [ints_some hn] at rr
          rw [RpA.of_ints rr] at q
          obtain ⟨z1, z2⟩ := leastI_ok hm
          exact .inr ⟨a, ns, rfl, SqL.of q, z1, fun m' h1 h2 => by rw [z2 m' h1 h2]; exact p.val s (.int _)⟩
        · exact False.elim p
      · exact False.elim p
    · exact False.elim p
  · exact False.elim p
theorem cr_anyD (hc : X.calm = true) : CallR X (.builtin "any") (rDs X.K (fAny false)) := CallR.imp (cr_any hc) fun vs H Q h => by
  obtain ⟨w, ms, st, ds, σ, W, s, rs, p⟩ := h
  unfold fAny at p
  split at p
  · obtain ⟨v, rfl, r⟩ := vals1D rs
    split at p
    · split at p
      · rename_i ps hp _ ns hn
        obtain ⟨a, us, rfl, q, rr⟩ := getP_ok s r hp
        rw [bls_some hn] at rr
        rw [RpA.of_bls rr] at q
        exact ⟨a, ns, rfl, SqL.of q, p.val s (.bl _)⟩
      · exact False.elim p
    · exact False.elim p
  · exact False.elim p
theorem cr_allD (hc : X.calm = true) : CallR X (.builtin "all") (rDs X.K (fAny true)) := CallR.imp (cr_all hc) fun vs H Q h => by
  obtain ⟨w, ms, st, ds, σ, W, s, rs, p⟩ := h
  unfold fAny at p
  split at p
  · obtain ⟨v, rfl, r⟩ := vals1D rs
    split at p
    · split at p
      · rename_i ps hp _ ns hn
        obtain ⟨a, us, rfl, q, rr⟩ := getP_ok s r hp
        rw [bls_some hn] at rr
        rw [RpA.of_bls rr] at q
        exact ⟨a, ns, rfl, SqL.of q, p.val s (.bl _)⟩
      · exact False.elim p
    · exact False.elim p
  · exact False.elim p
theorem rds_strs {K : PySem.W.Frag} {w : Wd} : ∀ {ns : List Str}, RDs K w (ns.map V.str) (ns.map fun n => D.p (.str n))
  | [] => .nil
  | n :: _ => .cons (.str n) rds_strs
theorem cr_sortedD (fl : Bool) : CallR X (.builtin "sorted") (rDs X.K (fSorted fl)) := CallR.imp (CallR.or cr_sortedI cr_sortedS) fun vs H Q h => by
  obtain ⟨w, ms, st, ds, σ, W, s, rs, p⟩ := h
  unfold fSorted at p
  split at p
  · obtain ⟨v, rfl, r⟩ := vals1D rs
    split at p
    · split at p
      · rename_i ps hp _ ns hn
        obtain ⟨a, us, rfl, q, rr⟩ := getP_ok s r hp
        rw [ints_some hn] at rr
        rw [RpA.of_ints rr] at q
        refine .inl ⟨a, ns, rfl, SqL.of q, fun ns' z h1 h2 hz => ?_⟩
        rw [isortI_eq h1 h2]
        exact mkL_post s rds_ints hz p
      · split at p
        · rename_i ps hp _ _ _ ns hn
          obtain ⟨hl, p⟩ := Post.ite p
          obtain ⟨a, us, rfl, q, rr⟩ := getP_ok s r hp
          rw [strs_some hn] at rr
          rw [RpA.of_strs rr] at q
          refine .inr ⟨a, ns, rfl, SqL.of q, hl, fun ns' z h1 h2 hz => ?_⟩
          rw [isortS_eq h1 h2]
          exact mkL_post s rds_strs hz p
        · exact False.elim p
    · exact False.elim p
  · exact False.elim p
theorem rds_keys {K : PySem.W.Frag} {w : Wd} : ∀ {ks : List Key}, RDs K w (ks.map kV) (ks.map fun k => D.p (kP k))
  | [] => .nil
  | .inl i :: _ => .cons (.int i) rds_keys
  | .inr x :: _ => .cons (.str x) rds_keys
theorem rpK_keys {K : PySem.W.Frag} {F : Hp} : ∀ {kvs : List (Key × V)} {l : List (PyData × PyData)}, RpK K F kvs l → keysOf (l.map (·.1)) = some (kvs.map (·.1))
  | _, _, .nil => rfl
  | _, _, .cons (k := k) (kvs := kvs) (d := d) (ds := ds) _ r => by
    show (match keyOf (kP k), keysOf (ds.map (·.1)) with | some k, some l => some (k :: l) | _, _ => none) = _
    rw [keyOf_kP, rpK_keys r]
    rfl
theorem paired_keys {K : PySem.W.Frag} {w : Wd} : ∀ {kvs : List (Key × V)} {l : List (Key × D)}, Paired (fun (p : Key × V) (q : Key × D) => p.1 = q.1 ∧ RD K w p.2 q.2) kvs l → kvs.map (·.1) = l.map (·.1)
  | _, _, .nil => rfl
  | _, _, .cons h r => by rw [List.map_cons, List.map_cons, h.1, paired_keys r]
theorem keysD_ok {K : PySem.W.Frag} {w : Wd} {ms : List Nat} {st : List O} {H : Hp} (s : RSt K ms w st H) {v : V} {d : D} {ks : List Key} (r : RD K w v d) (h : keysD d st = some ks) : ∃ a kvs, v = .ref a ∧ Rd H a (.dK kvs) ∧ kvs.map (·.1) = ks := by
  unfold keysD at h
  split at h
  · obtain ⟨a, ea, rfl⟩ := r
    split at h
    · cases h
      obtain ⟨kvs, h1, h2⟩ := s.dK (.inl (by assumption)) ea
      exact ⟨a, kvs, rfl, h1, paired_keys h2⟩
    · cases h
      obtain ⟨kvs, h1, h2⟩ := s.dK (.inr (by assumption)) ea
      exact ⟨a, kvs, rfl, h1, paired_keys h2⟩
    · cases h
  · cases r with
    | dK h1 r1 =>
      rw [rpK_keys r1] at h
      cases h
      exact ⟨_, _, rfl, s.rd h1, rfl⟩
    | dT h1 n1 r1 =>
      cases r1 with
      | nil => exact absurd rfl n1
      | cons _ _ => cases h
  · cases h
theorem cr_listD (hc : X.calm = true) (fl : Bool) : CallR X (.type "list") (rDs X.K (fList fl)) := CallR.imp (CallR.or call_list_of (call_listD hc)) fun vs H Q h => by
  obtain ⟨w, ms, st, ds, σ, W, s, rs, p⟩ := h
  unfold fList at p
  split at p
  · obtain ⟨v, rfl, r⟩ := vals1D rs
    split at p
    · obtain ⟨a, us, rfl, q, rr⟩ := getSeq_ok s r (by assumption)
      exact .inl ⟨a, us, rfl, q, fun l hl => mkL_post s rr hl p⟩
    · split at p
      · obtain ⟨a, kvs, rfl, h1, rfl⟩ := keysD_ok s r (by assumption)
        refine .inr ⟨a, kvs, rfl, h1, fun l hl => ?_⟩
        have e : (kvs.map fun kv => kV kv.1) = (kvs.map (·.1)).map kV := by rw [List.map_map]; rfl
        rw [e]
        exact mkL_post s rds_keys hl p
      · exact False.elim p
  · exact False.elim p
theorem cr_tupleD : CallR X (.type "tuple") (rDs X.K fTuple) := CallR.imp call_tuple_of fun vs H Q h => by
  obtain ⟨w, ms, st, ds, σ, W, s, rs, p⟩ := h
  unfold fTuple at p
  split at p
  · obtain ⟨v, rfl, r⟩ := vals1D rs
    cases r with
    | tup q rr => exact ⟨_, _, rfl, .inr ⟨SqT.of (s.nd q rfl), p.val s (.tup q rr)⟩⟩
  · obtain ⟨v, rfl, r⟩ := vals1D rs
    split at p
    · obtain ⟨a, us, rfl, q, rr⟩ := getL_ok s r (by assumption)
      exact ⟨a, us, rfl, .inl ⟨SqL.of q, fun l hl => mkT_post s rr hl p⟩⟩
    · exact False.elim p
  · exact False.elim p
theorem cr_intD : CallR X (.type "int") (rDs X.K fInt) := CallR.imp (CallR.or call_int1 call_int_str) fun vs H Q h => by
  obtain ⟨w, ms, st, ds, σ, W, s, rs, p⟩ := h
  unfold fInt at p
  split at p
  · obtain ⟨v, rfl, r⟩ := vals1D rs
    cases r
    exact .inl (.inl ⟨_, rfl, p.val s (.int _)⟩)
  · obtain ⟨v, rfl, r⟩ := vals1D rs
    cases r
    exact .inl (.inr ⟨_, rfl, p.val s (.int _)⟩)
  · obtain ⟨v, rfl, r⟩ := vals1D rs
    cases r
    split at p
    · obtain ⟨hl, p⟩ := Post.ite p
      exact .inr ⟨_, _, rfl, by assumption, hl, p.val s (.int _)⟩
    · exact False.elim p
  · exact False.elim p
theorem cr_strD : CallR X (.type "str") (rDs X.K fStr) := CallR.imp call_str_int fun vs H Q h => by
  obtain ⟨w, ms, st, ds, σ, W, s, rs, p⟩ := h
  unfold fStr at p
  split at p
  · obtain ⟨v, rfl, r⟩ := vals1D rs
    cases r
    obtain ⟨hl, p⟩ := Post.ite p
    exact ⟨_, rfl, hl, p.val s (.str _)⟩
  · exact False.elim p
end
end Fk

namespace Fk
open PySem PySem.Spec L2
set_option autoImplicit false
section
variable {K : PySem.W.Frag} {ms : List Nat} {w : Wd} {st : List O} {H : Hp}
/-! ### a thing of the store becomes one that never changes -/
theorem RSt.kill (s : RSt K ms w st H) {i : Nat} {o : O} {a : Addr} {u : HO} (h : st[i]? = some o) (hl : ∀ z, o ≠ .lk z) (ha : o.alive = true) (q : w.ρ[i]? = some a) (hu : H a = some u) : RSt K ms (w.frz a u) (st.set i .dead) H ∧ w.F a = none := by
  have z := s.at i o a h q
  have fg : w.F a = none ∧ w.G a = none := by
    cases o with
    | dead => cases ha
    | lk z1 => exact absurd rfl (hl z1)
    | lst z1 => exact ⟨z.1, z.2.1⟩
    | dK z1 => exact ⟨z.1, z.2.1⟩
    | dT z1 => exact ⟨z.1, z.2.1⟩
  obtain ⟨fn, gn⟩ := fg
  have hux : isX u = false := by
    cases o with
    | dead => cases ha
    | lk z1 => exact absurd rfl (hl z1)
    | lst z1 => obtain ⟨_, _, ho, t, r⟩ := z; rw [hu] at t; cases t; exact r.isX
    | dK z1 => obtain ⟨_, _, ho, t, r⟩ := z; rw [hu] at t; cases t; exact r.isX
    | dT z1 => obtain ⟨_, _, ho, t, r⟩ := z; rw [hu] at t; cases t; exact r.isX
  have le := Wd.le_frz (u := u) fn
  have hil : i < st.length := (List.getElem?_eq_some_iff.mp h).1
  have spl : ∀ (j : Nat) (o' : O), (st.set i .dead)[j]? = some o' → o'.alive = true → j ≠ i ∧ st[j]? = some o' := fun j o' e l => by
    by_cases hj : j = i
    · subst hj
      rw [List.getElem?_set_self hil] at e
      cases e
      cases l
    · rw [List.getElem?_set_ne (Ne.symm hj)] at e
      exact ⟨hj, e⟩
  refine ⟨⟨by rw [List.length_set]; exact s.len, fun x o' e => ?_, fun x o' e => ?_, fun j o' b e q' => ?_, fun j k o1 o2 b e1 e2 l1 l2 q1 q2 => ?_, fun m hm j o' e hj => ?_, fun m hm => by rw [List.length_set]; exact s.mle m hm, s.tbl.ws (nx_upd s.tbl.nt hux) s.tbl.ng⟩, fn⟩
  · have e' : upd w.F a u x = some o' := e
    by_cases hx : x = a
    · subst hx
      rw [upd_same] at e'
      cases e'
      exact .inl hu
    · rw [upd_ne hx] at e'
      exact s.fz x o' e'
  · have hx : x ≠ a := fun t => by
      subst t
      have e' : w.G x = some o' := e
      rw [gn] at e'; cases e'
    refine ⟨(s.gz x o' e).1, fun v t => ?_⟩
    have t' : upd w.F a u x = some v := t
    rw [upd_ne hx] at t'
    exact (s.gz x o' e).2 v t'
  · by_cases l : o'.alive = true
    · obtain ⟨hj, e'⟩ := spl j o' e l
      have hne : b ≠ a := fun t => by
        subst t
        exact hj (s.inj j i o' o b e' h l ha q' q)
      exact (s.at j o' b e' q').mono le (fun f => by show upd w.F a u b = none; rw [upd_ne hne]; exact f) fun ho t _ _ => t
    · cases o' <;> first | exact True.intro | exact absurd rfl l
  · obtain ⟨_, e1'⟩ := spl j o1 e1 l1
    obtain ⟨_, e2'⟩ := spl k o2 e2 l2
    exact s.inj j k o1 o2 b e1' e2' l1 l2 q1 q2
  · by_cases hji : j = i
    · subst hji
      rw [List.getElem?_set_self hil] at e
      cases e
      intro z hz
      cases hz
    · rw [List.getElem?_set_ne (Ne.symm hji)] at e
      exact s.mrk m hm j o' e hj
/-! ### the store is cut -/
def Wd.cut (w : Wd) (n : Nat) : Wd := ⟨w.F, w.ρ.take n, w.G⟩
theorem take_get {α : Type} {l : List α} {n i : Nat} {x : α} (h : (l.take n)[i]? = some x) : i < n ∧ l[i]? = some x := by
  rw [List.getElem?_take] at h
  split at h
  · exact ⟨by assumption, h⟩
  · cases h
theorem get_take {α : Type} {l : List α} {n i : Nat} {x : α} (hi : i < n) (h : l[i]? = some x) : (l.take n)[i]? = some x := by
  rw [List.getElem?_take, if_pos hi]
  exact h
/-- a value that names no place from n on -/
def D.under (n : Nat) : D → Bool
  | .r i => decide (i < n)
  | _ => true
theorem RD.cut {v : V} {d : D} {n : Nat} (h : RD K w v d) (u : d.under n = true) : RD K (w.cut n) v d := by
  cases d with
  | p d => exact h
  | s ns => exact h
  | g ds => exact h
  | o ds => exact h
  | r i =>
    obtain ⟨a, e, q⟩ := h
    exact ⟨a, get_take (of_decide_eq_true u) e, q⟩
theorem mem_refs {α : Type} {l : List α} {f : α → Option Nat} {x : α} {j : Nat} (hx : x ∈ l) (e : f x = some j) : j ∈ l.filterMap f := List.mem_filterMap.mpr ⟨x, hx, e⟩
theorem Paired.memR {α β : Type} {F : α → β → Prop} {y : β} : ∀ {a : List α} {b : List β}, Paired F a b → y ∈ b → ∃ x, F x y
  | _, _, .nil, h => nomatch h
  | _, _, .cons h r, m => by
    rcases List.mem_cons.mp m with rfl | m
    · exact ⟨_, h⟩
    · exact Paired.memR r m
theorem Paired.mapMem {α β : Type} {F G : α → β → Prop} : ∀ {a : List α} {b : List β}, Paired F a b → (∀ x y, y ∈ b → F x y → G x y) → Paired G a b
  | _, _, .nil, _ => .nil
  | _, _, .cons h r, f => .cons (f _ _ List.mem_cons_self h) (Paired.mapMem r fun x y hy => f x y (List.mem_cons_of_mem _ hy))
theorem RO.cut {ho : HO} {o : O} {n : Nat} (h : RO K w ho o) (u : ∀ j ∈ o.refs, j < n) : RO K (w.cut n) ho o := by
  have key : ∀ (v : V) (d : D), RD K w v d → (∀ j, d = .r j → j < n) → RD K (w.cut n) v d := fun v d r q => r.cut (by
    cases d with
    | r j => exact decide_eq_true (q j rfl)
    | _ => rfl)
  cases ho <;> cases o <;> first | exact False.elim h | skip
  · exact Paired.mapMem h fun x y hy r => key x y r fun j e => u j (mem_refs hy (by subst e; rfl))
  · exact Paired.mapMem h fun x y hy r => ⟨r.1, key x.2 y.2 r.2 fun j e => u j (mem_refs hy (by rw [e]))⟩
  · exact Paired.mapMem h fun x y hy r => ⟨r.1, key x.2 y.2 r.2 fun j e => u j (mem_refs hy (by rw [e]))⟩
theorem RSt.cut {n : Nat} (s : RSt K (n :: ms) w st H) (hm : ∀ m ∈ ms, m ≤ n) : RSt K ms (w.cut n) (st.take n) H := by
  have hn : n ≤ st.length := s.mle n List.mem_cons_self
  refine ⟨?_, s.fz, s.gz, fun i o a e q => ?_, fun i j o o' a e e' l l' q q' => ?_, fun m h i o e hi => ?_, fun m h => ?_, s.tbl.ws s.tbl.nt s.tbl.ng⟩
  · show (w.ρ.take n).length = (st.take n).length
    rw [List.length_take, List.length_take, s.len]
  · obtain ⟨hi, e⟩ := take_get e
    obtain ⟨_, q⟩ := take_get q
    have z := s.at i o a e q
    have u := s.mrk n List.mem_cons_self i o e hi
    cases o with
    | dead => exact True.intro
    | lk o => obtain ⟨od, x, f, g, r⟩ := z; exact ⟨od, x, f, g, r.cut u⟩
    | lst l => obtain ⟨f, g, ho, t, r⟩ := z; exact ⟨f, g, ho, t, r.cut u⟩
    | dK l => obtain ⟨f, g, ho, t, r⟩ := z; exact ⟨f, g, ho, t, r.cut u⟩
    | dT l => obtain ⟨f, g, ho, t, r⟩ := z; exact ⟨f, g, ho, t, r.cut u⟩
  · exact s.inj i j o o' a (take_get e).2 (take_get e').2 l l' (take_get q).2 (take_get q').2
  · obtain ⟨_, e⟩ := take_get e
    exact s.mrk m (List.mem_cons_of_mem _ h) i o e hi
  · rw [List.length_take]
    have := hm m h
    omega
theorem le_cut {w w' : Wd} {n : Nat} (l : w.le w') (h : w.ρ.length = n) : w.le (w'.cut n) := by
  refine ⟨l.f, ?_, l.g⟩
  obtain ⟨t, e⟩ := l.r
  show w.ρ <+: w'.ρ.take n
  rw [← e, ← h, List.take_left']
  · exact List.prefix_refl _
  · rfl
/-- a mark more -/
theorem RSt.mark (s : RSt K ms w st H) (hw : ∀ (i : Nat) (o : O), st[i]? = some o → ∀ j ∈ o.refs, j < st.length) : RSt K (st.length :: ms) w st H :=
  ⟨s.len, s.fz, s.gz, s.at, s.inj, fun m h i o e hi => by
    rcases List.mem_cons.mp h with rfl | h
    · exact hw i o e
    · exact s.mrk m h i o e hi, fun m h => by
    rcases List.mem_cons.mp h with rfl | h
    · exact Nat.le_refl _
    · exact s.mle m h, s.tbl⟩
/-- every place that is named is there -/
theorem RSt.refs (s : RSt K ms w st H) (i : Nat) (o : O) (e : st[i]? = some o) : ∀ j ∈ o.refs, j < st.length := by
  have hil : i < w.ρ.length := by rw [s.len]; exact (List.getElem?_eq_some_iff.mp e).1
  have z := s.at i o _ e (List.getElem?_eq_getElem hil)
  have key : ∀ (v : V) (j : Nat), RD K w v (.r j) → j < st.length := fun v j ⟨a, q, _⟩ => by
    rw [← s.len]
    exact (List.getElem?_eq_some_iff.mp q).1
  have ro : ∀ {ho : HO} {o : O}, RO K w ho o → ∀ j ∈ o.refs, j < st.length := by
    intro ho o r j hj
    cases ho <;> cases o <;> first | exact False.elim r | skip
    · obtain ⟨d, hd, e⟩ := List.mem_filterMap.mp hj
      obtain ⟨x, hx⟩ := Paired.memR r hd
      cases d <;> first | (cases e; done) | skip
      cases e
      exact key x j hx
    · obtain ⟨⟨k, d⟩, hd, e⟩ := List.mem_filterMap.mp hj
      obtain ⟨x, hx⟩ := Paired.memR r hd
      cases d <;> first | (cases e; done) | skip
      cases e
      exact key x.2 j hx.2
    · obtain ⟨⟨k, d⟩, hd, e⟩ := List.mem_filterMap.mp hj
      obtain ⟨x, hx⟩ := Paired.memR r hd
      cases d <;> first | (cases e; done) | skip
      cases e
      exact key x.2 j hx.2
  cases o with
  | dead => intro j hj; cases hj
  | lk o => obtain ⟨_, u, _, _, r⟩ := z; intro j hj; exact ro r j hj
  | lst l => obtain ⟨_, _, ho, _, r⟩ := z; exact ro r
  | dK l => obtain ⟨_, _, ho, _, r⟩ := z; exact ro r
  | dT l => obtain ⟨_, _, ho, _, r⟩ := z; exact ro r
end
end Fk

namespace Fk
open PySem PySem.Spec L2
set_option autoImplicit false

/-! ### isinstance(x, T), T a built-in class -/
def tyN (d : D) (st : List O) : Option String := match d with
  | .p .none => some "NoneType"
  | .p (.bool _) => some "bool"
  | .p (.int _) => some "int"
  | .p (.str _) => some "str"
  | .p (.list _) => some "list"
  | .p (.tuple _) => some "tuple"
  | .p (.dict _) => none
  | .s _ => none
  | .g _ => none
  | .o _ => none
  | .r i => match st[i]? with
    | some (.lst _) => some "list"
    | some (.dK _) => some "dict"
    | some (.dT _) => some "dict"
    | _ => none
def isTy (n : String) : Bool := n == "int" || n == "bool" || n == "str" || n == "tuple" || n == "list"
def isiB (a b : String) : Bool := a == b || (a == "bool" && b == "int")
theorem kit_tab (a b : String) (ha : a = "NoneType" ∨ a = "bool" ∨ a = "int" ∨ a = "str" ∨ a = "list" ∨ a = "tuple" ∨ a = "dict") (hb : isTy b = true) : kitB a b = some (isiB a b) := by
  have hb' : b = "int" ∨ b = "bool" ∨ b = "str" ∨ b = "tuple" ∨ b = "list" := by
    unfold isTy at hb
    simp only [Bool.or_eq_true, beq_iff_eq] at hb
    rcases hb with (((h | h) | h) | h) | h
    · exact .inl h
    · exact .inr (.inl h)
    · exact .inr (.inr (.inl h))
    · exact .inr (.inr (.inr (.inl h)))
    · exact .inr (.inr (.inr (.inr h)))
  rcases ha with rfl | rfl | rfl | rfl | rfl | rfl | rfl <;> rcases hb' with rfl | rfl | rfl | rfl | rfl <;> decide +kernel
theorem tyN_ok {K : PySem.W.Frag} {w : Wd} {ms : List Nat} {st : List O} {H : Hp} (s : RSt K ms w st H) {v : V} {d : D} {a : String} (r : RD K w v d) (h : tyN d st = some a) :
    TyX K H v (.type a) ∧ (a = "NoneType" ∨ a = "bool" ∨ a = "int" ∨ a = "str" ∨ a = "list" ∨ a = "tuple" ∨ a = "dict") := by
  unfold tyN at h
  split at h
  · cases h; cases r; exact ⟨.base .non, .inl rfl⟩
  · cases h; cases r; exact ⟨.base (.bl _), .inr (.inl rfl)⟩
  · cases h; cases r; exact ⟨.base (.int _), .inr (.inr (.inl rfl))⟩
  · cases h; cases r; exact ⟨.base (.str _), .inr (.inr (.inr (.inl rfl)))⟩
  · cases h
    cases r with
    | lst q _ => exact ⟨.base (.lst (s.nd q rfl)), .inr (.inr (.inr (.inr (.inl rfl))))⟩
  · cases h
    cases r with
    | tup q _ => exact ⟨.base (.tup (s.nd q rfl)), .inr (.inr (.inr (.inr (.inr (.inl rfl)))))⟩
  · cases h
  · cases h
  · cases h
  · cases h
  · obtain ⟨l, e, rfl⟩ := r
    split at h
    · cases h
      obtain ⟨_, _, ho, q, ro⟩ := s.at _ _ l (by assumption) e
      cases ho with
      | lst vs => exact ⟨.base (.lst q), .inr (.inr (.inr (.inr (.inl rfl))))⟩
      | _ => exact False.elim ro
    · cases h
      obtain ⟨_, _, ho, q, ro⟩ := s.at _ _ l (by assumption) e
      cases ho with
      | dK vs => exact ⟨.base (.dK q), .inr (.inr (.inr (.inr (.inr (.inr rfl)))))⟩
      | _ => exact False.elim ro
    · cases h
      obtain ⟨_, _, ho, q, ro⟩ := s.at _ _ l (by assumption) e
      cases ho with
      | dT vs => exact ⟨.base (.dT q), .inr (.inr (.inr (.inr (.inr (.inr rfl)))))⟩
      | _ => exact False.elim ro
    · cases h
def fIsi (T : String) (d : D) (st : List O) : R D := match tyN d st with
  | some a => .ok (.p (.bool (isiB a T))) st
  | none => .bad
def mIsi (T : String) (m : M D) : M D := mB m fun d => fun _ _ st => fIsi T d st
section
variable {X : Cx} {W : Ex} {e o : Expr} {es : List Expr} {p p2 pos apos cpos : Pos} {x : Str}
theorem se_isi {T : String} {m : M D} {t : Str} (ha : PE X e (tE X.K W m)) (hs : notStar e = true) (hT : isTy T = true) (hg : Gl X "isinstance") (hm : X.mg "isinstance" = none) (hgT : Gl X t) (hmT : X.mg t = none) (hvT : bootBuiltins t = some (.type T)) (hn : t ≠ "__name__") (hd : (t == ("__debug__" : Str)) = false) :
    PE X (.Call (.Name "isinstance" p) [e, .Name t p2] [] pos) (tE X.K W (mIsi T m)) := by
  have hb : PE X (.Name t p2) (tC (.ty T)) := pe_bltn hgT hmT hvT rfl hn hd
  refine pe_imp (pe_callB call_isi hg hm PyProof.Rows.boot_isinstance (pa_cons ha (pa_cons hb pa_nil (by rfl)) (star_of hs _ _)) (by decide) (by decide) (star_of hs _ _) (by rfl)) fun σ H Q h => ?_
  refine seq1 h fun w ms env st H d x s _ r q => ?_
  unfold fIsi at q
  split at q
  · obtain ⟨ty, ha⟩ := tyN_ok s r (by assumption)
    exact ⟨x, .ty T, _, _, _, rfl, .ty T, ty, kit_ty (kit_tab _ T ha hT), q.val s (.bl _)⟩
  · exact False.elim q

/-! ### places that may be stored -/
def okRef (ms : List Nat) (i : Nat) (d : D) : Bool := match d with
  | .r j => ms.all fun m => decide (m ≤ i) || decide (j < m)
  | _ => true
theorem okRef_ok {ms : List Nat} {i j m : Nat} {d : D} (h : okRef ms i d = true) (e : d = .r j) (hm : m ∈ ms) (hi : i < m) : j < m := by
  subst e
  have z := List.all_eq_true.mp h m hm
  rw [Bool.or_eq_true] at z
  rcases z with z | z
  · have := of_decide_eq_true z; omega
  · exact of_decide_eq_true z

/-! ### xs.append(x), xs.pop() -/
def fAppend (o a : D) (ms : List Nat) (st : List O) : R D := match o with
  | .r i => match st[i]? with
    | some (.lst ds) => if ds.length < sizeLine ∧ okRef ms i a = true then .ok (.p .none) (st.set i (.lst (ds ++ [a]))) else .bad
    | _ => .bad
  | _ => .bad
def isLst (d : D) (st : List O) : R Unit := match getL d st with
  | some _ => .ok () st
  | none => .bad
def mAppend (mo ma : M D) : M D := mB mo fun o => mB (fun _ _ st => isLst o st) fun _ => mB ma fun a => fun ms _ st => fAppend o a ms st
theorem append_ok {K : PySem.W.Frag} {w : Wd} {ms : List Nat} {st : List O} {H : Hp} {σ : St} {d a : D} {x y : V} {Q : VK} (s : RSt K ms w st H) (r : RD K w x d) (ra : RD K w y a) (h : Post (RD K) K W ms σ w (fAppend d a ms st) Q) : rAppend x [y] H Q := by
  unfold fAppend at h
  split at h
  · obtain ⟨l, e, rfl⟩ := r
    split at h
    · rename_i i _ ds hi
      obtain ⟨⟨hl, ok⟩, h⟩ := Post.ite h
      obtain ⟨_, _, ho, q, ro⟩ := s.at i _ l hi e
      cases ho with
      | lst vs =>
        have rr : RDs K w (vs ++ [y]) (ds ++ [a]) := Paired.app ro (.cons ra .nil)
        refine ⟨l, vs, y, rfl, rfl, q, by rw [Paired.length ro]; exact hl, ?_⟩
        refine h w .non _ (Wd.le.refl w) (s.setO (u := .lst (vs ++ [y])) hi rfl (fun z q => nomatch q) e rr ?_) .non
        intro m hm him j hj
        obtain ⟨d, hd, ed⟩ := List.mem_filterMap.mp hj
        rcases List.mem_append.mp hd with hd | hd
        · exact s.mrk m hm i _ hi him j (mem_refs hd ed)
        · have : d = a := List.mem_singleton.mp hd
          subst this
          cases d <;> first | (cases ed; done) | (cases ed; exact okRef_ok ok rfl hm him)
      | _ => exact False.elim ro
    · exact False.elim h
  · exact False.elim h
/-- attributeBase is nothing for what is no call without arguments -/
def noSuper : Expr → Bool
  | .Call (.Name _ _) [] [] _ => false
  | _ => true
theorem base_of {o : Expr} (h : noSuper o = true) (name : Str) (env : Env) (wh : Sem Value) : attributeBase o name env wh = wh := by
  unfold attributeBase
  split
  · cases h
  · rfl
theorem few_of {es : List Expr} {env : Env} {cpos : Pos} (h : es.all notStar = true) (hl : es.length < 30) :
    ((backTo cpos (starEach es env)).all (fun x => !x.1) && (backToKw cpos (keywordEach [] env)).all (fun x => x.1.isSome) && decide (es.length + ([] : List Keyword).length + (if ([] : List Keyword).isEmpty then 0 else 1) < 30)) = true := by
  have h1 : (backTo cpos (starEach es env)).all (fun x => !x.1) = true := by
    have := back_any (pos := cpos) (env := env) h
    rw [List.all_eq_true]
    intro x hx
    rw [List.any_eq_false] at this
    have := this x hx
    simpa using this
  rw [h1]
  have h2 : (backToKw cpos (keywordEach [] env)).all (fun x => x.1.isSome) = true := by rfl
  rw [h2]
  simp
  exact hl
theorem isLst_post {K : PySem.W.Frag} {w : Wd} {ms : List Nat} {st : List O} {H : Hp} {σ : St} {d : D} {x : V} {Q : Unit → Hp → Prop} (s : RSt K ms w st H) (r : RD K w x d) (h : Post (fun _ (_ : Unit) (_ : Unit) => True) K W ms σ w (isLst d st) Q) : tyV K "list" x H ∧ Q () H := by
  unfold isLst at h
  split at h
  · obtain ⟨a, vs, rfl, q, _⟩ := getL_ok s r (by assumption)
    exact ⟨.inl ⟨rfl, vs, SqL.of q⟩, h w () H (Wd.le.refl w) s True.intro⟩
  · exact False.elim h
theorem se_append {mo ma : M D} (ho : PE X o (tE X.K W mo)) (ha : PE X e (tE X.K W ma)) (hs : notStar e = true) (hb : noSuper o = true) (hl : (apos.endLine == cpos.line) = true) : PE X (.Call (.Attribute o "append" apos) [e] [] cpos) (tE X.K W (mAppend mo ma)) := by
  refine pe_imp (pe_bm PySem.F.plainAttrs_list PySem.F.slot_list_append PySem.F.type_list_append mt_append ho (pa_cons ha pa_nil (star_of hs _ _)) (base_of hb _ _ _) (few_of (by simp [hs]) (by show 1 < 30; decide)) hl (star_of hs _ _) (by rfl)) fun σ H Q h => ?_
  refine seq1 h fun w ms env st H d x s e r q => ?_
  obtain ⟨ty, t⟩ := isLst_post (Q := fun _ H1 => tE X.K W ma σ H1 fun y H2 => rAppend x [y] H2 Q) s r (post_bind q fun _ st1 w1 _ H1 _ l1 s1 _ q1 => by
    refine ⟨w1, ms, env, st1, s1, e.mono l1, post_bind q1 fun a st2 w2 y H2 _ l2 s2 ra q2 => ?_⟩
    exact append_ok s2 (r.mono (l1.trans l2)) ra q2)
  exact ⟨ty, t⟩
def fPop (o : D) (st : List O) : R D := match o with
  | .r i => match st[i]? with
    | some (.lst ds) => match ds[ds.length - 1]? with
      | some d => .ok d (st.set i (.lst ds.dropLast))
      | none => .bad
    | _ => .bad
  | _ => .bad
def mPop (mo : M D) : M D := mB mo fun o => fun _ _ st => fPop o st
theorem Paired.dropLast {α β : Type} {F : α → β → Prop} {a : List α} {b : List β} (h : Paired F a b) : Paired F a.dropLast b.dropLast := by
  rw [List.dropLast_eq_take, List.dropLast_eq_take, Paired.length h]
  exact Paired.take' _ h
theorem se_pop {mo : M D} (ho : PE X o (tE X.K W mo)) (hb : noSuper o = true) (hl : (apos.endLine == cpos.line) = true) : PE X (.Call (.Attribute o "pop" apos) [] [] cpos) (tE X.K W (mPop mo)) := by
  refine pe_imp (pe_bm0 PySem.F.plainAttrs_list PySem.F.slot_list_pop PySem.F.type_list_pop mt_pop ho (base_of hb _ _ _) hl) fun σ H Q h => ?_
  refine seq1 h fun w ms env st H d x s e r h => ?_
  unfold fPop at h
  split at h
  · obtain ⟨l, ea, rfl⟩ := r
    split at h
    · split at h
      · rename_i i _ ds hi _ y hy
        obtain ⟨_, _, ho, q, ro⟩ := s.at i _ l hi ea
        cases ho with
        | lst vs =>
          obtain ⟨v, ev, rv⟩ := rds_get ro hy
          rw [← Paired.length ro] at ev
          refine ⟨.inl ⟨rfl, vs, SqL.of q⟩, l, vs, v, rfl, rfl, q, ev, ?_⟩
          refine h w v _ (Wd.le.refl w) (s.setO (u := .lst vs.dropLast) hi rfl (fun z q => nomatch q) ea (Paired.dropLast ro) ?_) rv
          intro m hm him j hj
          obtain ⟨d, hd, ed⟩ := List.mem_filterMap.mp hj
          exact s.mrk m hm i _ hi him j (mem_refs (List.dropLast_subset _ hd) ed)
        | _ => exact False.elim ro
      · exact False.elim h
    · exact False.elim h
  · exact False.elim h

/-! ### d.get(k), d.get(k, x) -/
def isDct (d : D) (st : List O) : Bool := match d with
  | .p (.dict _) => true
  | .r i => match st[i]? with
    | some (.dK _) => true
    | some (.dT _) => true
    | some (.lk (.dK _)) => true
    | some (.lk (.dT _)) => true
    | _ => false
  | _ => false
theorem isDct_ok {K : PySem.W.Frag} {w : Wd} {ms : List Nat} {st : List O} {H : Hp} (s : RSt K ms w st H) {d : D} {x : V} (r : RD K w x d) (h : isDct d st = true) : ∃ a, x = .ref a ∧ IsD H a := by
  unfold isDct at h
  split at h
  · cases r with
    | dK q _ => exact ⟨_, rfl, .inl ⟨_, s.rd q⟩⟩
    | dT q _ _ => exact ⟨_, rfl, .inr ⟨_, s.rd q⟩⟩
  · obtain ⟨l, ea, rfl⟩ := r
    split at h
    · obtain ⟨kvs, h1, _⟩ := s.dK (.inl (by assumption)) ea; exact ⟨l, rfl, .inl ⟨kvs, h1⟩⟩
    · obtain ⟨kvs, h1, _⟩ := s.dT (.inl (by assumption)) ea; exact ⟨l, rfl, .inr ⟨kvs, h1⟩⟩
    · obtain ⟨kvs, h1, _⟩ := s.dK (.inr (by assumption)) ea; exact ⟨l, rfl, .inl ⟨kvs, h1⟩⟩
    · obtain ⟨kvs, h1, _⟩ := s.dT (.inr (by assumption)) ea; exact ⟨l, rfl, .inr ⟨kvs, h1⟩⟩
    · cases h
  · cases h
def chk (b : Bool) : M Unit := fun _ _ st => if b = true then .ok () st else .bad
def chkD (d : D) : M Unit := fun _ _ st => if isDct d st = true then .ok () st else .bad
def fGet2 (o k z : D) (st : List O) : R D := match dGet o k st with
  | some (some d) => .ok d st
  | some none => .ok z st
  | none => .bad
def mGet2 (mo mk mz : M D) : M D := mB mo fun o => mB (chkD o) fun _ => mB mk fun k => mB mz fun z => fun _ _ st => fGet2 o k z st
theorem se_get2 {f : Expr} {mo mk mz : M D} (hu : X.A.units + 200 < cLine) (ho : PE X o (tE X.K W mo)) (he : PE X e (tE X.K W mk)) (hf : PE X f (tE X.K W mz)) (hs : notStar e = true) (hs2 : notStar f = true) (hb : noSuper o = true) (hl : (apos.endLine == cpos.line) = true) :
    PE X (.Call (.Attribute o "get" apos) [e, f] [] cpos) (tE X.K W (mGet2 mo mk mz)) := by
  have m : M2 X o "get" apos e f cpos := ⟨base_of hb _ _ _, few_of (by simp [hs, hs2]) (by show 2 < 30; decide), hl, by rw [star_of hs, star_of hs2]; rfl⟩
  refine pe_imp (pe_dget2 (by omega) ho he hf m) fun σ H Q h => ?_
  obtain ⟨w, ms, env, st, s, ee, p⟩ := h
  refine ⟨w, ms, env, st, s, ee, post_bind p fun d st1 w1 x H1 _ l1 s1 r1 p1 => ?_⟩
  have p1' : Post (RD X.K) X.K W ms σ w1 ((chkD d ms env st1).bind fun a st' => (mB mk fun k => mB mz fun z => fun _ _ st => fGet2 d k z st) ms env st') Q := p1
  unfold chkD at p1'
  by_cases hd : isDct d st1 = true
  · rw [if_pos hd] at p1'
    obtain ⟨a, rfl, isd⟩ := isDct_ok s1 r1 hd
    refine ⟨a, rfl, isd, w1, ms, env, st1, s1, ee.mono l1, post_bind p1' fun k st2 w2 y H2 _ l2 s2 r2 p2 => ?_⟩
    refine ⟨w2, ms, env, st2, s2, ee.mono (l1.trans l2), post_bind p2 fun z st3 w3 u H3 _ l3 s3 r3 p3 => ?_⟩
    have p3' : Post (RD X.K) X.K W ms σ w3 (fGet2 d k z st3) Q := p3
    clear p3
    unfold fGet2 at p3'
    split at p3'
    · obtain ⟨b, rv, e1, g, ro⟩ := dGet_ok s3 (r1.mono (l2.trans l3)) (r2.mono l3) (by assumption)
      injection e1 with e1
      subst e1
      cases rv with
      | none => exact False.elim ro
      | some v => exact ⟨some v, g, p3'.val s3 ro⟩
    · obtain ⟨b, rv, e1, g, ro⟩ := dGet_ok s3 (r1.mono (l2.trans l3)) (r2.mono l3) (by assumption)
      injection e1 with e1
      subst e1
      cases rv with
      | none => exact ⟨none, g, p3'.val s3 r3⟩
      | some v => exact False.elim ro
    · exact False.elim p3'
  · rw [if_neg hd] at p1'
    exact False.elim p1'

/-! ### {} -/
def mkD (fl : Nat) (st : List O) : R D := match fl with
  | 0 => .ok (.p (.dict [])) st
  | 1 => .ok (.r st.length) (st ++ [.dK []])
  | _ => .ok (.r st.length) (st ++ [.dT []])
def mDict0 (fl : Nat) : M D := fun _ _ st => mkD fl st
theorem se_dict0 (fl : Nat) : PE X (.Dict [] [] pos) (tE X.K W (mDict0 fl)) := by
  cases fl with
  | zero =>
    refine pe_imp pe_dnewK fun σ H Q h => ?_
    obtain ⟨w, ms, env, st, s, ee, p⟩ := h
    intro q hq
    exact p (w.frz q (.dK [])) (.ref q) _ (Wd.le_frz (s.fnone hq)) (s.newF hq) (Rp.dK (kvs := []) upd_same .nil)
  | succ fl =>
    have fin : ∀ {w : Wd} {ms : List Nat} {st : List O} {H : Hp} {q : Addr}, RSt X.K ms w st H → (w.add q).ρ[st.length]? = some q := fun {w ms st H q} s => by
      show (w.ρ ++ [q])[st.length]? = some q
      rw [← s.len, List.getElem?_append_right (Nat.le_refl _), Nat.sub_self]
      rfl
    cases fl with
    | zero =>
      refine pe_imp pe_dnewK fun σ H Q h => ?_
      obtain ⟨w, ms, env, st, s, ee, p⟩ := h
      intro q hq
      exact p (w.add q) (.ref q) _ Wd.le_add (s.newO (o := .dK []) hq .nil) ⟨q, fin s, rfl⟩
    | succ fl =>
      refine pe_imp pe_dnewT fun σ H Q h => ?_
      obtain ⟨w, ms, env, st, s, ee, p⟩ := h
      intro q hq
      exact p (w.add q) (.ref q) _ Wd.le_add (s.newO (o := .dT []) hq .nil) ⟨q, fin s, rfl⟩

/-! ### the call of a def -/
/-- a def as the evaluator has it -/
abbrev Fn := List D → List Nat → List O → R D
def PostF (K : PySem.W.Frag) (mg : Str → Option Value) (ms : List Nat) (w : Wd) (r : R D) (Q : VK) (E : XK) : Prop :=
  match r with
  | .ok d st => ∀ w' v H', w.le w' → RSt K ms w' st H' → RD K w' v d → Q v H'
  | .ex c st => ∀ w' H' cv, w.le w' → RSt K ms w' st H' → mg c = some cv → E cv none H'
  | .bad => False
def spOf (K : PySem.W.Frag) (mg : Str → Option Value) (n : Nat) (g : Fn) : Sp := fun vs H Q E => vs.length = n ∧ ∃ w ms st ds, RSt K ms w st H ∧ RDs K w vs ds ∧ PostF K mg ms w (g ds ms st) Q E
/-- what an exception must meet, by the evaluator's wish -/
def WXof (mg : Str → Option Value) (W : Ex) : WX := fun cls d σ H => d = none ∧ ∃ c, mg c = some cls ∧ W c σ H
def mCall (g : Fn) (m : M (List D)) : M D := mB m fun ds => fun ms _ st => g ds ms st
structure FnIs (X : Cx) (x : Str) (n : Nat) (g : Fn) : Prop where
  ex : ∃ (k : Nat) (f : Addr) (fd : FuncData) (ps : List Str), FnOk X.prog X.w X.K X.mg X.base (L2N.CX X.prog X.w) k f fd ps (spOf X.K X.mg n g) ∧ Room k X.A ∧ X.mg x = some (.ref f) ∧ PySem.W.keepIn X.K (.ref f) = true ∧ Binds X.K fd ps []
theorem se_call {n : Nat} {g : Fn} {m : M (List D)} (F : FnIs X x n g) (tk : L2N.Takes X (WXof X.mg W)) (hg : Gl X x) (ha : PA X (e :: es) (tA X.K W m)) (hdb : (x == ("__debug__" : Str)) = false) (hs : (e :: es).all notStar = true) (hn : ∀ ms env st ds st', m ms env st = .ok ds st' → ds.length = n) :
    PE X (.Call (.Name x p) (e :: es) [] pos) (tE X.K W (mCall g m)) := by
  obtain ⟨k, f, fd, ps, F, hr, hm, hk, hb⟩ := F.ex
  rw [List.all_cons, Bool.and_eq_true] at hs
  refine pe_imp (pe_callS F hr hg hm hk hb (fun σ => L2N.passAt tk σ) ha hdb (star_of hs.1 es _) (back_any hs.2)) fun σ H Q h => ?_
  obtain ⟨w, ms, env, st, s, ee, p⟩ := h
  refine ⟨w, ms, env, st, s, ee, post_bind p fun ds st1 w1 vs H1 e1 l1 s1 rs p1 => ?_⟩
  refine ⟨by rw [Paired.length rs]; exact hn _ _ _ _ _ e1, w1, ms, st1, ds, s1, rs, ?_⟩
  revert p1
  show Post (RD X.K) X.K W ms σ w1 (g ds ms st1) Q → _
  cases g ds ms st1 with
  | ok d st2 => exact fun p1 => p1
  | ex c st2 => exact fun p1 w' H' cv l s2 hc => ⟨rfl, c, hc, p1 w' H' l s2⟩
  | bad => exact fun p1 => p1
end
end Fk

namespace Fk
open PySem PySem.Spec L2
set_option autoImplicit false

/-! ### a thing that is being made -/
def Wd.pin (w : Wd) (p : Addr) (u : HO) : Wd := ⟨w.F, w.ρ, upd w.G p u⟩
section
variable {K : PySem.W.Frag} {ms : List Nat} {w : Wd} {st : List O} {H : Hp} {p : Addr} {xs ys : List V}
theorem RO.pin {w' : Wd} (hf : w'.F = w.F) (hr : w'.ρ = w.ρ) {ho : HO} {o : O} (h : RO K w ho o) : RO K w' ho o := by
  have key : ∀ v d, RD K w v d → RD K w' v d := fun v d r => by
    cases d with
    | p d => show Rp K w'.F v d; rw [hf]; exact r
    | r i => show ∃ a, w'.ρ[i]? = some a ∧ v = .ref a; rw [hr]; exact r
    | s ns => show ∃ a, v = .ref a ∧ SqL K w'.F a (ns.map V.int); rw [hf]; exact r
    | g ds => show ∃ a vs, v = .ref a ∧ SqT K w'.F a vs ∧ RpA K w'.F vs ds; rw [hf]; exact r
    | o a => exact r
  cases ho <;> cases o <;> first | exact False.elim h | skip
  · exact Paired.mapP h key
  · exact Paired.mapP h fun _ _ q => ⟨q.1, key _ _ q.2⟩
  · exact Paired.mapP h fun _ _ q => ⟨q.1, key _ _ q.2⟩
theorem RSt.pinN (s : RSt K ms w st H) (h : H p = none) : RSt K ms (w.pin p (.lst xs)) st (upd H p (.lst xs)) := by
  have fn := s.fnone h
  have gn := s.gnone h
  refine ⟨s.len, fun x o e => ?_, fun x o e => ?_, fun i o a e q => ?_, s.inj, s.mrk, s.mle, (s.tbl.new h).ws s.tbl.nt (nx_upd s.tbl.ng rfl)⟩
  · have hx : x ≠ p := fun z => by
      subst z
      have e' : w.F x = some o := e
      rw [fn] at e'; cases e'
    rw [upd_ne hx]
    rcases s.fz x o e with z | ⟨z, od, g⟩
    · exact .inl z
    · exact .inr ⟨z, od, by show upd w.G p _ x = _; rw [upd_ne hx]; exact g⟩
  · have e' : upd w.G p (.lst xs) x = some o := e
    by_cases hx : x = p
    · subst hx
      rw [upd_same] at e'
      cases e'
      exact ⟨upd_same, fun u z => by
        have z' : w.F x = some u := z
        rw [fn] at z'; cases z'⟩
    · rw [upd_ne hx] at e'
      exact ⟨by rw [upd_ne hx]; exact (s.gz x o e').1, (s.gz x o e').2⟩
  · have z := s.at i o a e q
    by_cases ha : o.alive = true
    · have hne : a ≠ p := fun r => by
        obtain ⟨ho, t⟩ := s.there e q ha
        rw [r, h] at t; cases t
      cases o with
      | dead => cases ha
      | lk o => obtain ⟨od, u, f, g, r⟩ := z; exact ⟨od, u, f, by show upd w.G p _ a = _; rw [upd_ne hne]; exact g, RO.pin rfl rfl r⟩
      | lst l => obtain ⟨f, g, ho, t, r⟩ := z; exact ⟨f, by show upd w.G p _ a = _; rw [upd_ne hne]; exact g, ho, by rw [upd_ne hne]; exact t, RO.pin (w := w) rfl rfl r⟩
      | dK l => obtain ⟨f, g, ho, t, r⟩ := z; exact ⟨f, by show upd w.G p _ a = _; rw [upd_ne hne]; exact g, ho, by rw [upd_ne hne]; exact t, RO.pin (w := w) rfl rfl r⟩
      | dT l => obtain ⟨f, g, ho, t, r⟩ := z; exact ⟨f, by show upd w.G p _ a = _; rw [upd_ne hne]; exact g, ho, by rw [upd_ne hne]; exact t, RO.pin (w := w) rfl rfl r⟩
    · cases o <;> first | exact True.intro | exact absurd rfl ha
/-- what is pinned is nobody's -/
theorem RSt.pin_ne (s : RSt K ms (w.pin p (.lst xs)) st H) {i : Nat} {o : O} {a : Addr} (e : st[i]? = some o) (q : w.ρ[i]? = some a) (l : o.alive = true) : a ≠ p := fun z => by
  subst z
  have t := s.at i o a e q
  have g0 : (w.pin a (.lst xs)).G a = some (.lst xs) := upd_same
  cases o with
  | dead => cases l
  | lk o => obtain ⟨od, u, f, g, r⟩ := t; rw [g0] at g; cases g
  | lst l => obtain ⟨f, g, _⟩ := t; rw [g0] at g; cases g
  | dK l => obtain ⟨f, g, _⟩ := t; rw [g0] at g; cases g
  | dT l => obtain ⟨f, g, _⟩ := t; rw [g0] at g; cases g
theorem RSt.pin_f (s : RSt K ms (w.pin p (.lst xs)) st H) : w.F p = none := by
  have g0 : (w.pin p (.lst xs)).G p = some (.lst xs) := upd_same
  cases e : w.F p with
  | none => rfl
  | some u =>
    obtain ⟨_, od, z⟩ := (s.gz p _ g0).2 u e
    cases z
theorem RSt.pin_at (s : RSt K ms (w.pin p (.lst xs)) st H) : H p = some (.lst xs) := (s.gz p _ (show (w.pin p (.lst xs)).G p = some (.lst xs) from upd_same)).1
theorem RSt.pinU (s : RSt K ms (w.pin p (.lst xs)) st H) : RSt K ms (w.pin p (.lst ys)) st (upd H p (.lst ys)) := by
  have fn := s.pin_f
  have gx : ∀ x (zs : List V), x ≠ p → (w.pin p (.lst zs)).G x = w.G x := fun x zs hx => by show upd w.G p _ x = _; rw [upd_ne hx]
  refine ⟨s.len, fun x o e => ?_, fun x o e => ?_, fun i o a e q => ?_, s.inj, s.mrk, s.mle, (s.tbl.upd fun o e => by rw [s.pin_at] at e; cases e; rfl).ws s.tbl.nt fun x o e => by
    by_cases hx : x = p
    · subst hx
      have e' : upd w.G x (.lst ys) x = some o := e
      rw [upd_same] at e'
      cases e'
      rfl
    · rw [gx x ys hx, ← gx x xs hx] at e
      exact s.tbl.ng x o e⟩
  · have hx : x ≠ p := fun z => by
      subst z
      have e' : w.F x = some o := e
      rw [fn] at e'; cases e'
    rw [upd_ne hx]
    rcases s.fz x o e with z | ⟨z, od, g⟩
    · exact .inl z
    · exact .inr ⟨z, od, by rw [gx x ys hx]; rw [gx x xs hx] at g; exact g⟩
  · by_cases hx : x = p
    · subst hx
      have e' : upd w.G x (.lst ys) x = some o := e
      rw [upd_same] at e'
      cases e'
      exact ⟨upd_same, fun u z => by
        have z' : w.F x = some u := z
        rw [fn] at z'; cases z'⟩
    · rw [gx x ys hx, ← gx x xs hx] at e
      exact ⟨by rw [upd_ne hx]; exact (s.gz x o e).1, (s.gz x o e).2⟩
  · by_cases ha : o.alive = true
    · have hne := s.pin_ne e q ha
      have z := s.at i o a e q
      cases o with
      | dead => cases ha
      | lk o => obtain ⟨od, u, f, g, r⟩ := z; exact ⟨od, u, f, by rw [gx a ys hne]; rw [gx a xs hne] at g; exact g, RO.pin rfl rfl r⟩
      | lst l => obtain ⟨f, g, ho, t, r⟩ := z; exact ⟨f, by rw [gx a ys hne]; rw [gx a xs hne] at g; exact g, ho, by rw [upd_ne hne]; exact t, RO.pin (w := w.pin p (.lst xs)) rfl rfl r⟩
      | dK l => obtain ⟨f, g, ho, t, r⟩ := z; exact ⟨f, by rw [gx a ys hne]; rw [gx a xs hne] at g; exact g, ho, by rw [upd_ne hne]; exact t, RO.pin (w := w.pin p (.lst xs)) rfl rfl r⟩
      | dT l => obtain ⟨f, g, ho, t, r⟩ := z; exact ⟨f, by rw [gx a ys hne]; rw [gx a xs hne] at g; exact g, ho, by rw [upd_ne hne]; exact t, RO.pin (w := w.pin p (.lst xs)) rfl rfl r⟩
    · cases o <;> first | exact True.intro | exact absurd rfl ha
/-- the pin is taken away; the thing stands untold in H -/
theorem RSt.unpin (s : RSt K ms (w.pin p (.lst xs)) st H) (hg : w.G p = none) : RSt K ms w st H := by
  have fn := s.pin_f
  have gx : ∀ x, x ≠ p → (w.pin p (.lst xs)).G x = w.G x := fun x hx => by show upd w.G p _ x = _; rw [upd_ne hx]
  refine ⟨s.len, fun x o e => ?_, fun x o e => ?_, fun i o a e q => ?_, s.inj, s.mrk, s.mle, s.tbl.ws s.tbl.nt fun x o e => by
    have hx : x ≠ p := fun z => by
      subst z
      rw [hg] at e; cases e
    rw [← gx x hx] at e
    exact s.tbl.ng x o e⟩
  · have hx : x ≠ p := fun z => by
      subst z
      rw [fn] at e; cases e
    rcases s.fz x o e with z | ⟨z, od, g⟩
    · exact .inl z
    · exact .inr ⟨z, od, by rw [← gx x hx]; exact g⟩
  · have hx : x ≠ p := fun z => by
      subst z
      rw [hg] at e; cases e
    rw [← gx x hx] at e
    exact s.gz x o e
  · by_cases ha : o.alive = true
    · have hne := s.pin_ne e q ha
      have z := s.at i o a e q
      cases o with
      | dead => cases ha
      | lk o => obtain ⟨od, u, f, g, r⟩ := z; exact ⟨od, u, f, by rw [← gx a hne]; exact g, RO.pin rfl rfl r⟩
      | lst l => obtain ⟨f, g, ho, t, r⟩ := z; exact ⟨f, by rw [← gx a hne]; exact g, ho, t, RO.pin (w := w.pin p (.lst xs)) rfl rfl r⟩
      | dK l => obtain ⟨f, g, ho, t, r⟩ := z; exact ⟨f, by rw [← gx a hne]; exact g, ho, t, RO.pin (w := w.pin p (.lst xs)) rfl rfl r⟩
      | dT l => obtain ⟨f, g, ho, t, r⟩ := z; exact ⟨f, by rw [← gx a hne]; exact g, ho, t, RO.pin (w := w.pin p (.lst xs)) rfl rfl r⟩
    · cases o <;> first | exact True.intro | exact absurd rfl ha
/-- the heap without it -/
def hid (H : Hp) (p : Addr) : Hp := fun x => if x = p then none else H x
theorem hid_ne {H : Hp} {p x : Addr} (h : x ≠ p) : hid H p x = H x := by unfold hid; rw [if_neg h]
theorem hid_same {H : Hp} {p : Addr} : hid H p p = none := by unfold hid; rw [if_pos rfl]
theorem upd_hid {H : Hp} {p : Addr} {u : HO} (h : H p = some u) : upd (hid H p) p u = H := by
  funext x
  by_cases hx : x = p
  · subst hx; rw [upd_same, h]
  · rw [upd_ne hx, hid_ne hx]
theorem RSt.hide (s : RSt K ms (w.pin p (.lst xs)) st H) (hg : w.G p = none) : RSt K ms w st (hid H p) := by
  have t := s.unpin hg
  have fn := s.pin_f
  refine ⟨t.len, fun x o e => ?_, fun x o e => ?_, fun i o a e q => ?_, t.inj, t.mrk, t.mle, ⟨fun q hq => ?_, t.tbl.nt, t.tbl.ng⟩⟩
  · have hx : x ≠ p := fun z => by
      subst z
      rw [fn] at e; cases e
    rw [hid_ne hx]
    exact t.fz x o e
  · have hx : x ≠ p := fun z => by
      subst z
      rw [hg] at e; cases e
    rw [hid_ne hx]
    exact t.gz x o e
  · by_cases ha : o.alive = true
    · have hne := s.pin_ne e q ha
      exact (t.at i o a e q).mono (Wd.le.refl w) (fun f => f) fun ho z _ _ => by rw [hid_ne hne]; exact z
    · cases o <;> first | exact True.intro | exact absurd rfl ha
  · obtain ⟨ps, h1, h2, h3⟩ := t.tbl.tb q hq
    have ne : ∀ {b : Addr} {o : HO}, H b = some o → isX o = true → b ≠ p := fun e x z => by
      subst z
      rw [s.pin_at] at e
      cases e
      cases x
    refine ⟨ps, by rw [hid_ne (ne h1 rfl)]; exact h1, h2, fun pos cv hc => ?_⟩
    obtain ⟨c, e1, e2⟩ := h3 pos cv hc
    exact ⟨c, e1, by rw [hid_ne (ne e2 rfl)]; exact e2⟩
/-- made: handed out -/
theorem made_post {W : Ex} {σ : St} {fl : Bool} {ds : List D} {Q : VK} (s : RSt K ms (w.pin p (.lst xs)) st H) (hg : w.G p = none) (r : RDs K w xs ds) (h : Post (RD K) K W ms σ w (mkL fl ds st) Q) : Q (.ref p) H := by
  have z := mkL_post (s.hide hg) r hid_same h
  rw [upd_hid s.pin_at] at z
  exact z
theorem RD.pin {u : HO} {v : V} {d : D} : RD K (w.pin p u) v d ↔ RD K w v d := by cases d <;> exact Iff.rfl
theorem REn.pin {u : HO} {σ : St} {env : En} (e : REn K w σ env) : REn K (w.pin p u) σ env := ⟨e.len, fun i d h => let ⟨v, q, r⟩ := e.get i d h; ⟨v, q, RD.pin.mpr r⟩⟩
theorem Wd.le_pin {w' : Wd} {u : HO} (l : (w.pin p u).le w') : w.le ⟨w'.F, w'.ρ, w.G⟩ ∧ w' = (Wd.pin ⟨w'.F, w'.ρ, w.G⟩ p u) := by
  refine ⟨⟨l.f, l.r, rfl⟩, ?_⟩
  cases w'
  have g := l.g
  simp only at g
  subst g
  rfl
end
end Fk

namespace Fk
open PySem PySem.Spec L2
set_option autoImplicit false

/-! ### targets -/
inductive Tg where
  | nm (i : Nat)
  | tp (l : List Tg)
mutual
def asg : Tg → D → En → Option En
  | .nm i, d, env => some (env.set i (some d))
  | .tp ts, .p (.tuple ds), env => asgs ts ds env
  | .tp _, _, _ => none
def asgs : List Tg → List PyData → En → Option En
  | [], [], env => some env
  | t :: ts, d :: ds, env => match asg t (.p d) env with
    | some env' => asgs ts ds env'
    | none => none
  | [], _ :: _, _ => none
  | _ :: _, [], _ => none
end
mutual
def Tg.slots : Tg → List Nat
  | .nm i => [i]
  | .tp ts => slotsL ts
def slotsL : List Tg → List Nat
  | [] => []
  | t :: ts => t.slots ++ slotsL ts
end
/-- only some slots have changed -/
structure off (l : List Nat) (σ σ' : St) : Prop where
  len : σ'.length = σ.length
  get : ∀ j : Nat, j ∉ l → σ'[j]? = σ[j]?
def tG (K : PySem.W.Frag) (t : Tg) : TG := fun v σ H Q => ∃ w ms env st d, RSt K ms w st H ∧ REn K w σ env ∧ RD K w v d ∧ ∃ env', asg t d env = some env' ∧ ∀ σ', REn K w σ' env' → off t.slots σ σ' → Q σ' H
def tGs (K : PySem.W.Frag) (t : List Tg) : TGs := fun vs σ H Q => ∃ w ms env st ds, RSt K ms w st H ∧ REn K w σ env ∧ RpA K w.F vs ds ∧ ∃ env', asgs t ds env = some env' ∧ ∀ σ', REn K w σ' env' → off (slotsL t) σ σ' → Q σ' H
theorem pg_imp {X : Cx} {e : Expr} {t t' : TG} (h : PG X e t) (q : ∀ v σ H Q, t' v σ H Q → t v σ H Q) : PG X e t' := ⟨fun pins s σ H v u Q I r h' => h.run pins s σ H v u Q I r (q v σ H Q h')⟩
theorem pgs_imp {X : Cx} {e : List Expr} {t t' : TGs} (h : PGs X e t) (q : ∀ v σ H Q, t' v σ H Q → t v σ H Q) : PGs X e t' := ⟨fun pins s σ H v u Q I r h' => h.run pins s σ H v u Q I r (q v σ H Q h')⟩
section
variable {X : Cx} {W : Ex} {pos : Pos}
theorem sg_name {i : Nat} {x : Str} (hN : X.N.Nodup) (hi : X.N[i]? = some x) (hx : Loc X.env.scope x) (hf : X.fn x = true ∨ X.env.scope.names.lookup x = some .local) : PG X (.Name x pos) (tG X.K (.nm i)) := pg_imp (pg_name hN hi hx hf) fun v σ H Q h => by
  obtain ⟨w, ms, env, st, d, s, e, r, env', q, k⟩ := h
  rw [asg] at q
  cases q
  refine k _ (e.set i r) ⟨by simp, fun j hj => ?_⟩
  rw [Tg.slots] at hj
  exact List.getElem?_set_ne (fun z => hj (by simp [z]))
theorem sgs_nil : PGs X [] (tGs X.K []) := pgs_imp pgs_nil fun v σ H Q h => by
  obtain ⟨w, ms, env, st, ds, s, e, r, env', q, k⟩ := h
  cases r with
  | nil => rw [asgs] at q; cases q; exact ⟨rfl, k _ e ⟨rfl, fun _ _ => rfl⟩⟩
  | cons _ _ => rw [asgs] at q; cases q
theorem asgEach_of {e : Expr} (h : notStar e = true) (es : List Expr) (env : Env) : assignEach (e :: es) env = (false, assign e env) :: assignEach es env := by
  cases e <;> first | rfl | cases h
theorem asg_ren {K : PySem.W.Frag} {w : Wd} {t : Tg} : True := trivial
theorem sgs_cons {e : Expr} {es : List Expr} {t : Tg} {ts : List Tg} (hs : notStar e = true) (h1 : PG X e (tG X.K t)) (h2 : PGs X es (tGs X.K ts)) : PGs X (e :: es) (tGs X.K (t :: ts)) := pgs_imp (pgs_cons h1 h2 (by rw [asgEach_of hs]; rfl)) fun v σ H Q h => by
  obtain ⟨w, ms, env, st, ds, s, e, r, env', q, k⟩ := h
  cases r with
  | nil => rw [asgs] at q; cases q
  | @cons u us d ds r1 r2 =>
    have q' : (match asg t (.p d) env with | some env' => asgs ts ds env' | none => none) = some env' := by
      rw [asgs] at q; exact q
    cases e1 : asg t (.p d) env with
    | none => rw [e1] at q'; cases q'
    | some env1 =>
      rw [e1] at q'
      refine ⟨u, us, rfl, w, ms, env, st, .p d, s, e, r1, env1, e1, fun σ1 en1 of1 => ?_⟩
      refine ⟨w, ms, env1, st, ds, s, en1, r2, env', q', fun σ2 en2 of2 => k σ2 en2 ⟨of2.len.trans of1.len, fun j hj => ?_⟩⟩
      rw [slotsL] at hj
      exact (of2.get j fun z => hj (List.mem_append_right _ z)).trans (of1.get j fun z => hj (List.mem_append_left _ z))
theorem each_len {es : List Expr} {env : Env} : es.all notStar = true → (assignEach es env).length = es.length ∧ (assignEach es env).findIdx? (·.1) = none := by
  induction es with
  | nil => intro _; exact ⟨rfl, rfl⟩
  | cons e r ih =>
    intro h
    rw [List.all_cons, Bool.and_eq_true] at h
    obtain ⟨i1, i2⟩ := ih h.2
    rw [asgEach_of h.1]
    refine ⟨by rw [List.length_cons, List.length_cons, i1], ?_⟩
    rw [List.findIdx?_cons]
    simp [i2]
theorem asgs_len : ∀ {ts : List Tg} {ds : List PyData} {env env' : En}, asgs ts ds env = some env' → ts.length = ds.length
  | [], [], _, _, _ => rfl
  | [], _ :: _, _, _, h => by rw [asgs] at h; cases h
  | _ :: _, [], _, _, h => by rw [asgs] at h; cases h
  | t :: ts, d :: ds, env, env', h => by
    rw [asgs] at h
    cases e : asg t (.p d) env with
    | none => rw [e] at h; cases h
    | some env1 => rw [e] at h; rw [List.length_cons, List.length_cons, asgs_len h]
theorem sg_tup {es : List Expr} {k : Nat} {ts : List Tg} (hc : X.calm = true) (h : PGs X es (tGs X.K ts)) (hs : es.all notStar = true) (hl : es.length = ts.length) : PG X (.Tuple es k pos) (tG X.K (.tp ts)) := pg_imp (pg_tup hc h (each_len hs).1 (each_len hs).2) fun v σ H Q h => by
  obtain ⟨w, ms, env, st, d, s, e, r, env', q, kk⟩ := h
  cases d with
  | p d =>
    cases d with
    | tuple ds =>
      rw [asg] at q
      cases r with
      | @tup a xs _ h1 r1 =>
        exact ⟨a, xs, rfl, SqT.of (s.nd h1 rfl), by rw [r1.length, hl, asgs_len q], w, ms, env, st, ds, s, e, r1, env', q, fun σ' en of => kk σ' en (by rw [Tg.slots]; exact of)⟩
    | _ => rw [asg] at q; cases q; intros; contradiction
  | _ => rw [asg] at q; cases q; intros; contradiction
end

theorem RD.mono2 {K : PySem.W.Frag} {w w' : Wd} {v : V} {d : D} (f : ∀ x o, w.F x = some o → w'.F x = some o) (r : w.ρ <+: w'.ρ) (h : RD K w v d) : RD K w' v d := by
  have z := RD.mono (w' := ⟨w'.F, w'.ρ, w.G⟩) ⟨f, r, rfl⟩ h
  cases d <;> exact z
theorem RDs.mono2 {K : PySem.W.Frag} {w w' : Wd} {vs : List V} {ds : List D} (f : ∀ x o, w.F x = some o → w'.F x = some o) (r : w.ρ <+: w'.ρ) (h : RDs K w vs ds) : RDs K w' vs ds := Paired.mapP h fun _ _ q => RD.mono2 f r q
/-! ### what is walked -/
structure ItOk (K : PySem.W.Frag) (I0 : Wd → Prop) (J : It) (ds : List D) : Prop where
  mono : ∀ w w' : Wd, (∀ x o, w.F x = some o → w'.F x = some o) → w.ρ <+: w'.ρ → (∀ x o, w.G x = some o → w'.G x = some o) → I0 w → I0 w'
  go : ∀ (i : Nat) (d : D) (w : Wd) (ms : List Nat) (st : List O) (H : Hp), ds[i]? = some d → I0 w → RSt K ms w st H → J.go i H ∧ ∀ x H', J.yld i H x H' → ∃ w', w.le w' ∧ RSt K ms w' st H' ∧ RD K w' x d
  stop : ∀ (w : Wd) (ms : List Nat) (st : List O) (H : Hp), I0 w → RSt K ms w st H → J.stop ds.length H
def PostI (K : PySem.W.Frag) (W : Ex) (ms : List Nat) (σ : St) (w : Wd) (r : R (List D)) (Q : It → Hp → Prop) : Prop :=
  match r with
  | .ok ds st => ∀ w' H' J I0, w.le w' → RSt K ms w' st H' → I0 w' → ItOk K I0 J ds → Q J H'
  | .ex c st => ∀ w' H', w.le w' → RSt K ms w' st H' → W c σ H'
  | .bad => False
def tI (K : PySem.W.Frag) (W : Ex) (m : M (List D)) : TI := fun σ H Q => ∃ w ms env st, RSt K ms w st H ∧ REn K w σ env ∧ PostI K W ms σ w (m ms env st) Q
theorem pi_imp {X : Cx} {tg e : Expr} {t t' : TI} (h : PI X tg e t) (q : ∀ σ H Q, t' σ H Q → t σ H Q) : PI X tg e t' := ⟨fun pins s σ H Q I h' => h.run pins s σ H Q I (q σ H Q h')⟩
theorem PostI.mono {K : PySem.W.Frag} {W : Ex} {ms : List Nat} {σ : St} {w w' : Wd} {r : R (List D)} {Q : It → Hp → Prop} (l : w.le w') (h : PostI K W ms σ w r Q) : PostI K W ms σ w' r Q := by
  cases r with
  | ok d st => exact fun w2 H' J I0 l2 => h w2 H' J I0 (l.trans l2)
  | ex c st => exact fun w2 H' l2 => h w2 H' (l.trans l2)
  | bad => exact h
theorem seqI {α β : Type} {Rel : Wd → β → α → Prop} {K : PySem.W.Frag} {W : Ex} {ma : M α} {f : α → M (List D)} {σ : St} {H : Hp} {Q' : It → Hp → Prop} {Q : β → Hp → Prop}
    (h : tI K W (mB ma f) σ H Q')
    (hq : ∀ w ms env st H a x, RSt K ms w st H → REn K w σ env → Rel w x a → PostI K W ms σ w (f a ms env st) Q' → Q x H) :
    tM Rel K W ma σ H Q := by
  obtain ⟨w, ms, env, st, s, e, p⟩ := h
  refine ⟨w, ms, env, st, s, e, ?_⟩
  have p' : PostI K W ms σ w ((ma ms env st).bind fun a st' => f a ms env st') Q' := p
  revert p'
  cases ma ms env st with
  | ok d st1 => exact fun p' w1 v H1 l1 s1 r1 => hq w1 ms env st1 H1 d v s1 (e.mono l1) r1 (PostI.mono l1 p')
  | ex c st1 => exact fun p' => p'
  | bad => exact fun p' => p'
/-- lists and tuples; a list of the store is used up -/
def itSeq (d : D) (st : List O) : R (List D) := match d with
  | .r i => match st[i]? with
    | some (.lst ds) => .ok ds (st.set i .dead)
    | _ => .bad
  | .p (.str z) => .ok (z.cps.toList.map fun c => .p (.str ⟨#[c]⟩)) st
  | d => match getSeq d st with
    | some ds => .ok ds st
    | none => .bad
section
variable {K : PySem.W.Frag}
theorem it_list {a : Addr} {vs : List V} {ds : List D} : ItOk K (fun w => w.F a = some (.lst vs) ∧ RDs K w vs ds) (Itl K a) ds where
  mono := fun w w' f r _ h => ⟨f _ _ h.1, RDs.mono2 f r h.2⟩
  go := fun i d w ms st H e h s => by
    have q : SqL K H a vs := SqL.of (s.nd h.1 rfl)
    obtain ⟨v, ev, rv⟩ := rds_get h.2 e
    refine ⟨⟨vs, v, q, ev⟩, fun x H' y => ?_⟩
    obtain ⟨rfl, y⟩ := y
    have : x = v := Option.some.inj ((y vs q).symm.trans ev)
    subst this
    exact ⟨w, Wd.le.refl w, s, rv⟩
  stop := fun w ms st H h s => ⟨vs, SqL.of (s.nd h.1 rfl), by rw [Paired.length h.2]; exact Nat.le_refl _⟩
theorem it_script {a : Addr} {vs : List V} {ds : List D} : ItOk K (fun w => SqL K w.F a vs ∧ RDs K w vs ds) (Itl K a) ds where
  mono := fun w w' f r _ h => ⟨SqL.sub f h.1, RDs.mono2 f r h.2⟩
  go := fun i d w ms st H e h s => by
    have q : SqL K H a vs := s.sqL h.1
    obtain ⟨v, ev, rv⟩ := rds_get h.2 e
    refine ⟨⟨vs, v, q, ev⟩, fun x H' y => ?_⟩
    obtain ⟨rfl, y⟩ := y
    have : x = v := Option.some.inj ((y vs q).symm.trans ev)
    subst this
    exact ⟨w, Wd.le.refl w, s, rv⟩
  stop := fun w ms st H h s => ⟨vs, s.sqL h.1, by rw [Paired.length h.2]; exact Nat.le_refl _⟩
theorem it_tup {a : Addr} {vs : List V} {ds : List D} : ItOk K (fun w => SqT K w.F a vs ∧ RDs K w vs ds) (Itt K a) ds where
  mono := fun w w' f r _ h => ⟨SqT.sub f h.1, RDs.mono2 f r h.2⟩
  go := fun i d w ms st H e h s => by
    have q : SqT K H a vs := s.sqT h.1
    obtain ⟨v, ev, rv⟩ := rds_get h.2 e
    refine ⟨⟨vs, v, q, ev⟩, fun x H' y => ?_⟩
    obtain ⟨rfl, y⟩ := y
    have : x = v := Option.some.inj ((y vs q).symm.trans ev)
    subst this
    exact ⟨w, Wd.le.refl w, s, rv⟩
  stop := fun w ms st H h s => ⟨vs, s.sqT h.1, by rw [Paired.length h.2]; exact Nat.le_refl _⟩
theorem it_str {z : Str} : ItOk K (fun _ => True) (Its z) (z.cps.toList.map fun c => .p (.str ⟨#[c]⟩)) where
  mono := fun _ _ _ _ _ _ => trivial
  go := fun i d w ms st H e _ s => by
    rw [List.getElem?_map] at e
    cases q : z.cps.toList[i]? with
    | none => rw [q] at e; cases e
    | some c =>
      rw [q] at e
      cases e
      have q' : z.cps[i]? = some c := by simpa using q
      refine ⟨(Array.getElem?_eq_some_iff.mp q').1, fun x H' y => ?_⟩
      obtain ⟨rfl, c', h1, rfl⟩ := y
      rw [q'] at h1
      cases h1
      exact ⟨w, Wd.le.refl w, s, .str _⟩
  stop := fun w ms st H _ s => by
    show z.cps.size ≤ _
    simp
def rangeD (lo c : Int) (n : Nat) : List D := (List.range n).map fun (i : Nat) => .p (.int (lo + (i : Int) * c))
theorem it_rangeC {lo c : Int} {n : Nat} : ItOk K (fun _ => True) (Itc lo c n) (rangeD lo c n) where
  mono := fun _ _ _ _ _ _ => trivial
  go := fun i d w ms st H e _ s => by
    unfold rangeD at e
    rw [List.getElem?_map] at e
    cases q : (List.range n)[i]? with
    | none => rw [q] at e; cases e
    | some j =>
      rw [q] at e
      cases e
      obtain ⟨h1, h2⟩ := List.getElem?_eq_some_iff.mp q
      rw [List.length_range] at h1
      rw [List.getElem_range] at h2
      subst h2
      refine ⟨h1, fun x H' y => ?_⟩
      obtain ⟨rfl, rfl⟩ := y
      exact ⟨w, Wd.le.refl w, s, .int _⟩
  stop := fun w ms st H _ s => by
    show n ≤ _
    unfold rangeD
    simp
theorem it_range {lo : Int} {n : Nat} : ItOk K (fun _ => True) (Itr lo n) (rangeD lo 1 n) where
  mono := fun _ _ _ _ _ _ => trivial
  go := fun i d w ms st H e _ s => by
    unfold rangeD at e
    rw [List.getElem?_map] at e
    cases q : (List.range n)[i]? with
    | none => rw [q] at e; cases e
    | some j =>
      rw [q] at e
      cases e
      obtain ⟨h1, h2⟩ := List.getElem?_eq_some_iff.mp q
      rw [List.length_range] at h1
      rw [List.getElem_range] at h2
      subst h2
      refine ⟨h1, fun x H' y => ?_⟩
      obtain ⟨rfl, rfl⟩ := y
      refine ⟨w, Wd.le.refl w, s, ?_⟩
      show Rp K w.F (.int (lo + (i : Int))) (.int (lo + (i : Int) * 1))
      rw [Int.mul_one]
      exact .int _
  stop := fun w ms st H _ s => by
    show n ≤ _
    unfold rangeD
    simp
end
end Fk

namespace Fk
open PySem PySem.Spec L2
set_option autoImplicit false

/-! ### enumerate of a tuple, of a text -/
set_option maxHeartbeats 1000000 in
theorem meets_enum1 {v : Value} {o : Obj} {H : Heap → Prop} (B : Begins v o H) :
    Meets (Builtin.«enumerate.__new__» ⟨[.type "enumerate", v], []⟩) (fun _ R s => H s.heap ∧
      R (.ok (.ret (.ref (s.heap.push o).objs.size))) { s with heap := (s.heap.push o).push { cls := .type "enumerate", data := .fields #[.none, .bool false, .ref s.heap.objs.size, rawInt 0, .none, .none] } }) :=
  .of_wp fun prog w A R s h => by
    obtain ⟨hp, g, d, tk, os⟩ := s; obtain ⟨h1, h⟩ := h
    have hsub := sub_enumerate
    have q1 : ∀ {A' : Around} {E : Value → Shared → Prop} {Q : Value → Shared → Prop}, Q (.ref hp.objs.size) ⟨hp.push o, g, d, tk, os⟩ → wpAny (model prog w) A' (pyIter v) Q E ⟨hp, g, d, tk, os⟩ :=
      fun q => B.iter prog w _ _ ⟨hp, g, d, tk, os⟩ _ h1 q
    wp_walk using q1
    refine wpAny_stack_any fun st => wpAny_pure ?_
    split
    · rename_i c _ _ _ _ _
      cases (c == Value.type "enumerate")
      · wp_walk using q1
        exact ⟨_, rfl, h⟩
      · wp_walk using q1
        exact ⟨_, rfl, h⟩
    · wp_walk using q1
      exact ⟨_, rfl, h⟩
section
variable {prog : Program} {w : World} {A : Around} {E : Value → Shared → Prop} {s : Shared}
theorem enum_begins1 {v : Value} {o : Obj} {H : Heap → Prop} {Q : Value → Shared → Prop} (B : Begins v o H) (h1 : H s.heap)
    (h : ∀ h', IsEnum h' (s.heap.objs.size + 1) s.heap.objs.size 0 .none → h'.get? s.heap.objs.size = some o → h'.objs.size = s.heap.objs.size + 2 →
      (∀ b o, s.heap.get? b = some o → h'.get? b = some o) → Q (.ref (s.heap.objs.size + 1)) { s with heap := h' }) :
    wpAny (model prog w) A (call (.type "enumerate") [v]) Q E s := by
  refine callType_new F.called_enumerate (by decide) (F.typeCall_enumerate_1 _) (F.newCall_enumerate_1 _) (fun obj => F.args_object_init_2 obj _) F.entry_enumerate_new
    (meets_enum1 B) ⟨h1, ?_⟩
  have hz : (s.heap.push o).objs.size = s.heap.objs.size + 1 := Heap.size_push ..
  show _ ∧ _
  rw [hz]
  have he : IsEnum ((s.heap.push o).push { cls := .type "enumerate", data := .fields #[.none, .bool false, .ref s.heap.objs.size, rawInt 0, .none, .none] }) (s.heap.objs.size + 1) s.heap.objs.size 0 .none := by
    have := Heap.get?_push_size (s.heap.push o) (o := { cls := .type "enumerate", data := .fields #[.none, .bool false, .ref s.heap.objs.size, rawInt 0, .none, .none] }) rfl
    rw [hz] at this; exact this
  refine ⟨⟨_, he, rfl⟩, h _ he (Heap.get?_push_of_some _ (Heap.get?_push_size _ B.free)) (by rw [Heap.size_push, hz]) fun b o x => Heap.get?_push_of_some _ (Heap.get?_push_of_some _ x)⟩
end
/-- a tuple's items, each in a new pair -/
def IteT (K : PySem.W.Frag) (a : Addr) : It :=
  ⟨fun i H => ∃ (xs : List V) (x : V), SqT K H a xs ∧ xs[i]? = some x, fun i H v H' => ∃ T x, v = .ref T ∧ H T = none ∧ H' = upd H T (.tup [.int (i : Nat), x]) ∧ ∀ xs, SqT K H a xs → xs[i]? = some x, fun i H => ∃ xs : List V, SqT K H a xs ∧ xs.length = i⟩
/-- a text's signs, each in a new pair -/
def IteS (z : Str) : It :=
  ⟨fun i H => i < z.cps.size, fun i H v H' => ∃ T c, v = .ref T ∧ H T = none ∧ H' = upd H T (.tup [.int (i : Nat), .str ⟨#[c]⟩]) ∧ z.cps[i]? = some c, fun i H => z.cps.size = i⟩
theorem turn_enumT {P : Program} {w : World} {K : PySem.W.Frag} {elts : List Expr} {kk : Nat} {tpos : Pos} (a e it : Addr) :
    Turn P w K (.Tuple elts kk tpos) (IteT K a) [e, it] e (fun i h => (∃ old, IsEnum h e it ((i : Nat) : Int) old) ∧ h.IsTupleIter it a i ∧ e ≠ it ∧ e ≠ a ∧ a ≠ it) where
  mem := by simp
  obj := fun i h st b hb => by
    obtain ⟨⟨old, he⟩, ⟨o, ho, hc, hd⟩, _⟩ := st
    have e' : b = e ∨ b = it := by simpa using hb
    rcases e' with z | z
    · rw [z]; exact ⟨_, he, fun v q => nomatch q⟩
    · rw [z]; exact ⟨o, ho, fun v q => by rw [hd] at q; cases q⟩
  keep := fun i h h' st k => let ⟨⟨old, he⟩, hi, hne⟩ := st; ⟨⟨old, k e (by simp) _ he⟩, hi.at fun o q => k it (by simp) o q, hne⟩
  item := by
    intro X hP hw hK hc i pins s σ H E I hf st hg
    subst hP hw hK
    obtain ⟨⟨old, he⟩, hit, hne, hea, hai⟩ := st
    obtain ⟨xs, x, hq, hx⟩ := hg
    obtain ⟨its, rv, p, hz⟩ := I.tuple hq
    obtain ⟨u, hu, ru⟩ := rv.get hx
    have hel : e < s.heap.objs.size := Heap.lt_size he
    have hil : it < s.heap.objs.size := by obtain ⟨_, q, _⟩ := hit; exact Heap.lt_size q
    have hlt : i < its.toArray.size := by
      have := (List.getElem?_eq_some_iff.mp hu).1
      simpa using this
    have hef : e ∉ [it, a] := fun z => by
      rcases List.mem_cons.mp z with z | z
      · exact hne z
      · exact hea (List.mem_singleton.mp z)
    refine wpAny_pyNext_enum_itemD (Draws.tuple (A := X.A.in1) (I.ok.hd hc) it a hai its.toArray) he ⟨hit, p⟩ hlt hne hef fun u' h' tk hP ho hit' hT hsz hk => ?_
    have eu : u' = u := by
      have h1 : its.toArray[i]? = some u' := hP
      have h2 : its.toArray[i]? = some u := by simpa using hu
      rw [h1] at h2
      exact Option.some.inj h2
    subst eu
    refine ⟨_, rfl, wpAny_letOwnedTupleGo_enum (s := { s with heap := h', toks := tk + 1 }) ho fun h'' he' sb => ?_⟩
    have hT2 : h''.get? s.heap.objs.size = some { cls := .type "tuple", data := .seq #[.int i tk, u'] } := (sb.2 _ (Nat.ne_of_gt hel)).trans hT
    have new : ObjOk X.prog X.w (upd H s.heap.objs.size (.tup [.int (i : Nat), x])) h'' s.heap.objs.size (.tup [.int (i : Nat), x]) :=
      ⟨by show 2 ≤ sizeLine; decide, [.int i tk, u'], .cons ⟨_, rfl⟩ (.cons ru .nil), ⟨_, hT2, rfl, _, rfl⟩⟩
    have I1 : Inv X pins σ (upd H s.heap.objs.size (.tup [.int (i : Nat), x])) { s with heap := h'', toks := tk + 1 } :=
      I.turnedNew (ch := [e, it]) (fun b ob hb q => (sb.2 b (fun z => hb (by simp [z]))).trans (hk b ob (fun z => hb (by simp [z])) (fun z => hb (by simp [z])) q)) hf (Nat.le_refl _) new
    refine ⟨.ref s.heap.objs.size, _, I1, rfl, ⟨_, x, rfl, I.hok.fresh (Nat.le_refl _), rfl, fun ys hy => by rw [I.tuple_inj hy hq]; exact hx⟩, ⟨⟨u', ?_⟩, hit'.1.at fun o q => (sb.2 it (Ne.symm hne)).trans q, hne, hea, hai⟩, fun b hb => ?_⟩
    · have e1 : ((i + 1 : Nat) : Int) = (i : Int) + 1 := by omega
      rw [e1]; exact he'
    · have hb' : b < s.heap.objs.size := by
        have e' : b = e ∨ b = it := by simpa using hb
        rcases e' with z | z
        · rw [z]; exact hel
        · rw [z]; exact hil
      rw [upd_ne (Nat.ne_of_lt hb')]
      exact (hf b hb).1
  done := by
    intro X hP hw hK hc i pins s σ H E I hf st hg
    subst hP hw hK
    obtain ⟨⟨old, he⟩, hit, hne, hea, hai⟩ := st
    obtain ⟨xs, hq, hx⟩ := hg
    obtain ⟨its, rv, p, hz⟩ := I.tuple hq
    obtain ⟨f0, f1, f2, f3, f4, f5⟩ := hf it (by simp)
    have hl : its.toArray.size = i := by
      have := rv.length
      simp only [List.size_toArray]; omega
    subst hl
    exact wpAny_pyNext_enum_endD (Draws.tuple (A := X.A.in1) (I.ok.hd hc) it a hai its.toArray) he ⟨hit, p⟩ fun h' eb => ⟨rfl, I.turned (t' := s.toks) (fun b o hb q => eb b o hb q) f0 f1 f3 f4 f5⟩
  self := fun A i s Q E st h => let ⟨⟨_, he⟩, _⟩ := st; wpAny_pyIter_enum he h
theorem turn_enumS {P : Program} {w : World} {K : PySem.W.Frag} {elts : List Expr} {kk : Nat} {tpos : Pos} (z : Str) (t : Tok) (e it : Addr) :
    Turn P w K (.Tuple elts kk tpos) (IteS z) [e, it] e (fun i h => (∃ old, IsEnum h e it ((i : Nat) : Int) old) ∧ h.IsStrIter it (strIterType z) z t i ∧ e ≠ it) where
  mem := by simp
  obj := fun i h st b hb => by
    obtain ⟨⟨old, he⟩, ⟨o, ho, hc, hd⟩, _⟩ := st
    have e' : b = e ∨ b = it := by simpa using hb
    rcases e' with z | z
    · rw [z]; exact ⟨_, he, fun v q => nomatch q⟩
    · rw [z]; exact ⟨o, ho, fun v q => by rw [hd] at q; cases q⟩
  keep := fun i h h' st k => let ⟨⟨old, he⟩, hi, hne⟩ := st; ⟨⟨old, k e (by simp) _ he⟩, (by
    obtain ⟨o, ho, hc, hd⟩ := hi
    exact ⟨o, k it (by simp) o ho, hc, hd⟩), hne⟩
  item := by
    intro X hP hw hK hc i pins s σ H E I hf st hg
    subst hP hw hK
    obtain ⟨⟨old, he⟩, hit, hne⟩ := st
    have hel : e < s.heap.objs.size := Heap.lt_size he
    have hil : it < s.heap.objs.size := by obtain ⟨_, q, _⟩ := hit; exact Heap.lt_size q
    have hef : e ∉ [it] := fun q => hne (List.mem_singleton.mp q)
    refine wpAny_pyNext_enum_itemD (Draws.text (A := X.A.in1) (I.ok.hd hc) it z t) he hit hg hne hef fun u' h' tk hP ho hit' hT hsz hk => ?_
    obtain ⟨c, t2, hcx, rfl⟩ := hP
    refine ⟨_, rfl, wpAny_letOwnedTupleGo_enum (s := { s with heap := h', toks := tk + 1 }) ho fun h'' he' sb => ?_⟩
    have hT2 : h''.get? s.heap.objs.size = some { cls := .type "tuple", data := .seq #[.int i tk, .str ⟨#[c]⟩ t2] } := (sb.2 _ (Nat.ne_of_gt hel)).trans hT
    have new : ObjOk X.prog X.w (upd H s.heap.objs.size (.tup [.int (i : Nat), .str ⟨#[c]⟩])) h'' s.heap.objs.size (.tup [.int (i : Nat), .str ⟨#[c]⟩]) :=
      ⟨by show 2 ≤ sizeLine; decide, [.int i tk, .str ⟨#[c]⟩ t2], .cons ⟨_, rfl⟩ (.cons ⟨_, rfl⟩ .nil), ⟨_, hT2, rfl, _, rfl⟩⟩
    have I1 : Inv X pins σ (upd H s.heap.objs.size (.tup [.int (i : Nat), .str ⟨#[c]⟩])) { s with heap := h'', toks := tk + 1 } :=
      I.turnedNew (ch := [e, it]) (fun b ob hb q => (sb.2 b (fun z => hb (by simp [z]))).trans (hk b ob (fun z => hb (by simp [z])) (fun z => hb (by simp [z])) q)) hf (Nat.le_refl _) new
    refine ⟨.ref s.heap.objs.size, _, I1, rfl, ⟨_, c, rfl, I.hok.fresh (Nat.le_refl _), rfl, hcx⟩, ⟨⟨.str ⟨#[c]⟩ t2, ?_⟩, (by
      obtain ⟨o, ho2, hc2, hd2⟩ := hit'
      exact ⟨o, (sb.2 it (Ne.symm hne)).trans ho2, hc2, hd2⟩), hne⟩, fun b hb => ?_⟩
    · have e1 : ((i + 1 : Nat) : Int) = (i : Int) + 1 := by omega
      rw [e1]; exact he'
    · have hb' : b < s.heap.objs.size := by
        have e' : b = e ∨ b = it := by simpa using hb
        rcases e' with z | z
        · rw [z]; exact hel
        · rw [z]; exact hil
      rw [upd_ne (Nat.ne_of_lt hb')]
      exact (hf b hb).1
  done := by
    intro X hP hw hK hc i pins s σ H E I hf st hg
    subst hP hw hK
    obtain ⟨⟨old, he⟩, hit, hne⟩ := st
    obtain ⟨f0, f1, f2, f3, f4, f5⟩ := hf it (by simp)
    have hl : z.cps.size = i := hg
    subst hl
    exact wpAny_pyNext_enum_endD (Draws.text (A := X.A.in1) (I.ok.hd hc) it z t) he hit fun h' eb => ⟨rfl, I.turned (t' := s.toks) (fun b o hb q => eb b o hb q) f0 f1 f3 f4 f5⟩
  self := fun A i s Q E st h => let ⟨⟨_, he⟩, _⟩ := st; wpAny_pyIter_enum he h
def iEnumT (K : PySem.W.Frag) (ta : TA) : TI := fun σ H R => ta σ H fun vs H1 => (∃ a xs, vs = [.ref a] ∧ SqT K H1 a xs ∧ R (IteT K a) H1) ∨ (∃ z, vs = [.str z] ∧ R (IteS z) H1)
theorem pi_enumT {X : Cx} {e : Expr} {ta : TA} {p pos tpos : Pos} {elts : List Expr} {kk : Nat} (hg : Gl X "enumerate") (hm : X.mg "enumerate" = none) (ha : PA X [e] ta) (hs : starEach [e] X.env = [(false, eval e X.env)]) :
    PI X (.Tuple elts kk tpos) (.Call (.Name "enumerate" p) [e] [] pos) (iEnumT X.K ta) := by
  refine ⟨fun pins s σ H R I h => ?_⟩
  refine PyProof.Rows.Call_ (ld_blt I hg hm PyProof.Rows.boot_enumerate (PyProof.Rows.callWith_type1 (thn (ha.run pos pins s σ H _ I h) fun us s1 ⟨vs, H1, I1, r1, q1⟩ => ?_) hs rfl))
  have fin : ∀ b, (b = s1.heap.objs.size + 1 ∨ b = s1.heap.objs.size) → FpOk X pins H1 b := fun b e' => by
    have hle : s1.heap.objs.size ≤ b := by
      rcases e' with z | z
      · rw [z]; exact Nat.le_add_right _ _
      · rw [z]; exact Nat.le_refl _
    exact I1.fpOk hle (I1.hok.fresh hle)
  rcases q1 with ⟨a, xs, ex, hq, q⟩ | ⟨z, ex, q⟩
  · subst ex
    cases r1 with
    | cons r rr =>
      cases rr
      cases r
      obtain ⟨its, rv, p', hz⟩ := I1.tuple hq
      have hal : a < s1.heap.objs.size := p'.lt
      refine enum_begins1 (begins_tuple a its.toArray) p' fun h' he hit hsz hk => wpAny_pyIter_enum he ?_
      have I2 : Inv X pins σ H1 { s1 with heap := h' } := I1.kept (t' := s1.toks) hk
      refine ⟨s1.heap.objs.size + 1, [s1.heap.objs.size + 1, s1.heap.objs.size], _, _, H1, rfl, I2, turn_enumT a (s1.heap.objs.size + 1) s1.heap.objs.size, ⟨⟨.none, he⟩, ⟨_, hit, rfl, rfl⟩, Nat.succ_ne_self _, Nat.ne_of_gt (Nat.lt_succ_of_lt hal), Nat.ne_of_lt hal⟩, fun b hb => fin b (by simpa using hb), q⟩
  · subst ex
    cases r1 with
    | cons r rr =>
      cases rr
      obtain ⟨t, rfl⟩ := r
      refine enum_begins1 (begins_text z t) trivial fun h' he hit hsz hk => wpAny_pyIter_enum he ?_
      have I2 : Inv X pins σ H1 { s1 with heap := h' } := I1.kept (t' := s1.toks) hk
      refine ⟨s1.heap.objs.size + 1, [s1.heap.objs.size + 1, s1.heap.objs.size], _, _, H1, rfl, I2, turn_enumS z t (s1.heap.objs.size + 1) s1.heap.objs.size, ⟨⟨.none, he⟩, ⟨_, hit, rfl, rfl⟩, Nat.succ_ne_self _⟩, fun b hb => fin b (by simpa using hb), q⟩
end Fk

namespace Fk
open PySem PySem.Spec L2
set_option autoImplicit false
section
variable {X : Cx} {W : Ex} {tg e : Expr} {p pos : Pos}
theorem PI.or {t t' : TI} (h : PI X tg e t) (h' : PI X tg e t') : PI X tg e (fun σ H Q => t σ H Q ∨ t' σ H Q) := ⟨fun pins s σ H R I q => q.elim (h.run pins s σ H R I) (h'.run pins s σ H R I)⟩
def mIt (m : M D) : M (List D) := mB m fun d => fun _ _ st => itSeq d st
/-- which way an iterable goes: 0 a list, 1 a tuple, 2 a text -/
theorem si_seq {m : M D} (he : PE X e (tE X.K W m)) : PI X tg e (tI X.K W (mIt m)) := by
  refine pi_imp (PI.or (pi_list he) (PI.or (pi_tup he) (pi_str he))) fun σ H Q h => ?_
  obtain ⟨w, ms, env, st, s, en, p⟩ := h
  have p' : PostI X.K W ms σ w ((m ms env st).bind fun a st' => itSeq a st') Q := p
  clear p
  cases em : m ms env st with
  | bad => rw [em] at p'; exact False.elim p'
  | ex c st1 =>
    rw [em] at p'
    exact .inl ⟨w, ms, env, st, s, en, by rw [em]; exact p'⟩
  | ok d st1 =>
    rw [em] at p'
    have p1 : PostI X.K W ms σ w (itSeq d st1) Q := p'
    clear p'
    have go : ∀ {Q' : VK}, (∀ w1 v H1, w.le w1 → RSt X.K ms w1 st1 H1 → RD X.K w1 v d → Q' v H1) → tE X.K W m σ H Q' := fun h => ⟨w, ms, env, st, s, en, by rw [em]; exact h⟩
    cases d with
    | r i =>
      unfold itSeq at p1
      dsimp only at p1
      cases eo : st1[i]? with
      | none => rw [eo] at p1; exact False.elim p1
      | some o =>
        rw [eo] at p1
        cases o with
        | lst ds =>
          refine .inl (go fun w1 v H1 l1 s1 r1 => ?_)
          obtain ⟨a, ea, rfl⟩ := r1
          obtain ⟨_, _, ho, q, ro⟩ := s1.at i _ a eo ea
          cases ho with
          | lst vs =>
            obtain ⟨s2, fn⟩ := s1.kill eo (fun z q => nomatch q) rfl ea q
            have ll : w1.le (w1.frz a (.lst vs)) := Wd.le_frz fn
            exact ⟨a, rfl, ⟨vs, SqL.of q⟩, p1 _ _ _ _ (l1.trans ll) s2 ⟨upd_same, RDs.mono ll ro⟩ it_list⟩
          | _ => exact False.elim ro
        | _ => exact False.elim p1
    | s ns =>
      refine .inl (go fun w1 v H1 l1 s1 r1 => ?_)
      obtain ⟨a, rfl, q⟩ := r1
      exact ⟨a, rfl, ⟨_, s1.sqL q⟩, p1 w1 H1 _ _ l1 s1 ⟨q, rds_ints⟩ it_script⟩
    | o ds => exact False.elim p1
    | g ds =>
      refine .inr (.inl (go fun w1 v H1 l1 s1 r1 => ?_))
      obtain ⟨a, vs, rfl, q, r⟩ := r1
      exact ⟨a, rfl, ⟨vs, s1.sqT q⟩, p1 w1 H1 _ _ l1 s1 ⟨q, r.rds⟩ it_tup⟩
    | p d =>
      cases d with
      | str z =>
        refine .inr (.inr (go fun w1 v H1 l1 s1 r1 => ?_))
        cases r1
        exact ⟨z, rfl, p1 w1 H1 _ _ l1 s1 trivial it_str⟩
      | list ds =>
        refine .inl (go fun w1 v H1 l1 s1 r1 => ?_)
        cases r1 with
        | @lst a vs _ q r => exact ⟨a, rfl, ⟨vs, SqL.of (s1.nd q rfl)⟩, p1 w1 H1 _ _ l1 s1 ⟨q, r.rds⟩ it_list⟩
      | tuple ds =>
        refine .inr (.inl (go fun w1 v H1 l1 s1 r1 => ?_))
        cases r1 with
        | @tup a vs _ q r => exact ⟨a, rfl, ⟨vs, SqT.of (s1.nd q rfl)⟩, p1 w1 H1 _ _ l1 s1 ⟨.inl (.inl q), r.rds⟩ it_tup⟩
      | _ => exact False.elim p1

/-! ### range -/
def okL (i : Int) : Bool := decide (-(2 ^ 62) ≤ i) && decide (i < 2 ^ 62)
def itRange1 (ds : List D) (st : List O) : R (List D) := match ds with
  | [.p (.int j)] => if okL j = true then .ok (rangeD 0 1 j.toNat) st else .bad
  | _ => .bad
def itRange2 (ds : List D) (st : List O) : R (List D) := match ds with
  | [.p (.int i), .p (.int j)] => if okL i = true ∧ okL j = true then .ok (rangeD i 1 (j - i).toNat) st else .bad
  | _ => .bad
def itRange3 (ds : List D) (st : List O) : R (List D) := match ds with
  | [.p (.int i), .p (.int j), .p (.int c)] => if c ≠ 0 ∧ c.natAbs < 1073741824 ∧ Builtin.Range.small i j c = true ∧ Builtin.Range.rangeSize i j c = ((Builtin.Range.rangeSize i j c).toNat : Int) then .ok (rangeD i c (Builtin.Range.rangeSize i j c).toNat) st else .bad
  | _ => .bad
def mR1 (m : M (List D)) : M (List D) := mB m fun ds => fun _ _ st => itRange1 ds st
def mR2 (m : M (List D)) : M (List D) := mB m fun ds => fun _ _ st => itRange2 ds st
def mR3 (m : M (List D)) : M (List D) := mB m fun ds => fun _ _ st => itRange3 ds st
theorem okL_ok {i : Int} (h : okL i = true) : -(2 ^ 62) ≤ i ∧ i < 2 ^ 62 := by
  unfold okL at h
  rw [Bool.and_eq_true] at h
  exact ⟨of_decide_eq_true h.1, of_decide_eq_true h.2⟩
theorem PostI.ite {K : PySem.W.Frag} {ms : List Nat} {σ : St} {w : Wd} {c : Prop} [Decidable c] {r : R (List D)} {Q : It → Hp → Prop} (h : PostI K W ms σ w (if c then r else .bad) Q) : c ∧ PostI K W ms σ w r Q := by
  by_cases hc : c
  · rw [if_pos hc] at h; exact ⟨hc, h⟩
  · rw [if_neg hc] at h; exact False.elim h
theorem si_range1 {a : Expr} {m : M (List D)} (hg : Gl X "range") (hm : X.mg "range" = none) (ha : PA X [a] (tA X.K W m)) (hs : notStar a = true) : PI X tg (.Call (.Name "range" p) [a] [] pos) (tI X.K W (mR1 m)) := by
  refine pi_imp (pi_range1 hg hm ha (by rw [star_of hs]; rfl)) fun σ H Q h => seqI h fun w ms env st H ds vs s en rs q => ?_
  unfold itRange1 at q
  split at q
  · obtain ⟨v, rfl, r⟩ := vals1D rs
    cases r
    obtain ⟨hc, q⟩ := PostI.ite q
    exact ⟨_, rfl, (okL_ok hc).1, (okL_ok hc).2, q w H _ _ (Wd.le.refl w) s trivial it_range⟩
  · exact False.elim q
theorem si_range2 {a b : Expr} {m : M (List D)} (hg : Gl X "range") (hm : X.mg "range" = none) (ha : PA X [a, b] (tA X.K W m)) (hs : notStar a = true) (hs2 : notStar b = true) : PI X tg (.Call (.Name "range" p) [a, b] [] pos) (tI X.K W (mR2 m)) := by
  refine pi_imp (pi_range2 hg hm ha (by rw [star_of hs, star_of hs2]; rfl) (by rw [star_of hs2]; rfl)) fun σ H Q h => seqI h fun w ms env st H ds vs s en rs q => ?_
  unfold itRange2 at q
  split at q
  · obtain ⟨v, u, rfl, r, r2⟩ := vals2D rs
    cases r
    cases r2
    obtain ⟨⟨hc, hc2⟩, q⟩ := PostI.ite q
    exact ⟨_, _, rfl, ⟨(okL_ok hc).1, (okL_ok hc).2, (okL_ok hc2).1, (okL_ok hc2).2⟩, q w H _ _ (Wd.le.refl w) s trivial it_range⟩
  · exact False.elim q
theorem vals3D {K : PySem.W.Frag} {w : Wd} {vs : List V} {d e f : D} (r : RDs K w vs [d, e, f]) : ∃ v u z, vs = [v, u, z] ∧ RD K w v d ∧ RD K w u e ∧ RD K w z f := by
  cases r with
  | cons h t => cases t with
    | cons h2 t2 => cases t2 with
      | cons h3 t3 => cases t3; exact ⟨_, _, _, rfl, h, h2, h3⟩
theorem si_range3 {a b c : Expr} {m : M (List D)} (hg : Gl X "range") (hm : X.mg "range" = none) (ha : PA X [a, b, c] (tA X.K W m)) (hs : notStar a = true) (hs2 : notStar b = true) (hs3 : notStar c = true) : PI X tg (.Call (.Name "range" p) [a, b, c] [] pos) (tI X.K W (mR3 m)) := by
  refine pi_imp (pi_range3 hg hm ha (star_of hs _ _) (back_any (by simp [hs2, hs3]))) fun σ H Q h => seqI h fun w ms env st H ds vs s en rs q => ?_
  unfold itRange3 at q
  split at q
  · obtain ⟨v, u, z, rfl, r, r2, r3⟩ := vals3D rs
    cases r
    cases r2
    cases r3
    obtain ⟨⟨h1, h2, h3, h4⟩, q⟩ := PostI.ite q
    exact ⟨_, _, _, _, rfl, ⟨h1, h2, h3, h4⟩, q w H _ _ (Wd.le.refl w) s trivial it_rangeC⟩
  · exact False.elim q

/-! ### enumerate -/
def pairD (i : Nat) (d : PyData) : D := .p (.tuple [.int i, d])
def enumD (k : Nat) : List PyData → List D
  | [] => []
  | d :: r => pairD k d :: enumD (k + 1) r
theorem enumD_len : ∀ (k : Nat) (l : List PyData), (enumD k l).length = l.length
  | _, [] => rfl
  | k, _ :: r => by show (enumD (k + 1) r).length + 1 = _; rw [enumD_len (k + 1) r, List.length_cons]
theorem enumD_get : ∀ (k : Nat) (l : List PyData) (i : Nat) (d : D), (enumD k l)[i]? = some d → ∃ z, l[i]? = some z ∧ d = pairD (k + i) z
  | _, [], i, _, h => by simp [enumD] at h
  | k, z :: r, 0, d, h => by
    have h' : some (pairD k z) = some d := h
    cases h'
    exact ⟨z, rfl, rfl⟩
  | k, z :: r, i + 1, d, h => by
    have h' : (enumD (k + 1) r)[i]? = some d := h
    obtain ⟨y, h1, h2⟩ := enumD_get (k + 1) r i d h'
    exact ⟨y, h1, by rw [h2]; congr 1; omega⟩
def itEnum (d : D) (st : List O) : R (List D) := match d with
  | .p (.list ds) => .ok (enumD 0 ds) st
  | .p (.tuple ds) => .ok (enumD 0 ds) st
  | .g ds => .ok (enumD 0 ds) st
  | .p (.str z) => .ok (enumD 0 (z.cps.toList.map fun c => .str ⟨#[c]⟩)) st
  | .r i => match st[i]? with
    | some (.lst ds) => match unP ds with
      | some ps => .ok (enumD 0 ps) (st.set i .dead)
      | none => .bad
    | _ => .bad
  | _ => .bad
def mEnum (m : M D) : M (List D) := mB m fun d => fun _ _ st => itEnum d st
theorem pair_new {K : PySem.W.Frag} {ms : List Nat} {w : Wd} {st : List O} {H : Hp} {T : Addr} {i : Nat} {x : V} {z : PyData} (s : RSt K ms w st H) (hT : H T = none) (r : Rp K w.F x z) :
    ∃ w', w.le w' ∧ RSt K ms w' st (upd H T (.tup [.int (i : Nat), x])) ∧ RD K w' (.ref T) (pairD i z) := by
  have l := Wd.le_frz (u := .tup [.int (i : Nat), x]) (s.fnone hT)
  exact ⟨w.frz T (.tup [.int (i : Nat), x]), l, s.newF hT, Rp.tup (xs := [.int (i : Nat), x]) upd_same (.cons (.int _) (.cons (r.sub l.f) .nil))⟩
theorem it_enumL {K : PySem.W.Frag} {a : Addr} {vs : List V} {ps : List PyData} : ItOk K (fun w => w.F a = some (.lst vs) ∧ RpA K w.F vs ps) (Ite K a) (enumD 0 ps) where
  mono := fun w w' f r _ h => ⟨f _ _ h.1, h.2.sub f⟩
  go := fun i d w ms st H e h s => by
    obtain ⟨z, ez, rfl⟩ := enumD_get 0 ps i d e
    have q : SqL K H a vs := SqL.of (s.nd h.1 rfl)
    obtain ⟨v, ev, rv⟩ := h.2.get ez
    refine ⟨⟨vs, v, q, ev⟩, fun x H' y => ?_⟩
    obtain ⟨T, x', rfl, hT, rfl, y⟩ := y
    have : x' = v := Option.some.inj ((y vs q).symm.trans ev)
    subst this
    rw [Nat.zero_add]
    exact pair_new s hT rv
  stop := fun w ms st H h s => ⟨vs, SqL.of (s.nd h.1 rfl), by rw [enumD_len, h.2.length]; exact Nat.le_refl _⟩
theorem it_enumT {K : PySem.W.Frag} {a : Addr} {vs : List V} {ps : List PyData} : ItOk K (fun w => SqT K w.F a vs ∧ RpA K w.F vs ps) (IteT K a) (enumD 0 ps) where
  mono := fun w w' f r _ h => ⟨SqT.sub f h.1, h.2.sub f⟩
  go := fun i d w ms st H e h s => by
    obtain ⟨z, ez, rfl⟩ := enumD_get 0 ps i d e
    have q : SqT K H a vs := s.sqT h.1
    obtain ⟨v, ev, rv⟩ := h.2.get ez
    refine ⟨⟨vs, v, q, ev⟩, fun x H' y => ?_⟩
    obtain ⟨T, x', rfl, hT, rfl, y⟩ := y
    have : x' = v := Option.some.inj ((y vs q).symm.trans ev)
    subst this
    rw [Nat.zero_add]
    exact pair_new s hT rv
  stop := fun w ms st H h s => ⟨vs, s.sqT h.1, by rw [enumD_len, h.2.length]⟩
theorem it_enumS {K : PySem.W.Frag} {z : Str} : ItOk K (fun _ => True) (IteS z) (enumD 0 (z.cps.toList.map fun c => .str ⟨#[c]⟩)) where
  mono := fun _ _ _ _ _ _ => trivial
  go := fun i d w ms st H e _ s => by
    obtain ⟨y, ey, rfl⟩ := enumD_get 0 _ i d e
    rw [List.getElem?_map] at ey
    cases q : z.cps.toList[i]? with
    | none => rw [q] at ey; cases ey
    | some c =>
      rw [q] at ey
      cases ey
      have q' : z.cps[i]? = some c := by simpa using q
      refine ⟨(Array.getElem?_eq_some_iff.mp q').1, fun x H' y => ?_⟩
      obtain ⟨T, c', rfl, hT, rfl, h1⟩ := y
      rw [q'] at h1
      cases h1
      rw [Nat.zero_add]
      exact pair_new s hT (.str _)
  stop := fun w ms st H _ s => by
    show z.cps.size = _
    rw [enumD_len]
    simp
theorem si_enum {m : M D} {elts : List Expr} {kk : Nat} {tpos : Pos} (hg : Gl X "enumerate") (hm : X.mg "enumerate" = none) (he : PE X e (tE X.K W m)) (hs : notStar e = true) : PI X (.Tuple elts kk tpos) (.Call (.Name "enumerate" p) [e] [] pos) (tI X.K W (mEnum m)) := by
  have ha : PA X [e] (tCons (tE X.K W m) tNil) := pa_cons he pa_nil (star_of hs _ _)
  have hst : starEach [e] X.env = [(false, eval e X.env)] := by rw [star_of hs]; rfl
  refine pi_imp (PI.or (pi_enum hg hm ha hst) (pi_enumT hg hm ha hst)) fun σ H Q h => ?_
  obtain ⟨w, ms, env, st, s, en, p⟩ := h
  have p' : PostI X.K W ms σ w ((m ms env st).bind fun a st' => itEnum a st') Q := p
  clear p
  cases em : m ms env st with
  | bad => rw [em] at p'; exact False.elim p'
  | ex c st1 =>
    rw [em] at p'
    exact .inl ⟨w, ms, env, st, s, en, by rw [em]; exact p'⟩
  | ok d st1 =>
    rw [em] at p'
    have p1 : PostI X.K W ms σ w (itEnum d st1) Q := p'
    clear p'
    have go : ∀ {Q' : VK}, (∀ w1 v H1, w.le w1 → RSt X.K ms w1 st1 H1 → RD X.K w1 v d → Q' v H1) → tE X.K W m σ H Q' := fun h => ⟨w, ms, env, st, s, en, by rw [em]; exact h⟩
    cases d with
    | r i =>
      unfold itEnum at p1
      dsimp only at p1
      cases eo : st1[i]? with
      | none => rw [eo] at p1; exact False.elim p1
      | some o =>
        rw [eo] at p1
        cases o with
        | lst ds =>
          dsimp only at p1
          cases eu : unP ds with
          | none => rw [eu] at p1; exact False.elim p1
          | some ps =>
            rw [eu] at p1
            refine .inl (go fun w1 v H1 l1 s1 r1 => ?_)
            obtain ⟨a, ea, rfl⟩ := r1
            obtain ⟨_, _, ho, q, ro⟩ := s1.at i _ a eo ea
            cases ho with
            | lst vs =>
              obtain ⟨s2, fn⟩ := s1.kill eo (fun z q => nomatch q) rfl ea q
              have ll : w1.le (w1.frz a (.lst vs)) := Wd.le_frz fn
              exact ⟨a, vs, rfl, SqL.of q, p1 _ _ _ _ (l1.trans ll) s2 ⟨upd_same, (rds_unP eu ro).sub ll.f⟩ it_enumL⟩
            | _ => exact False.elim ro
        | _ => exact False.elim p1
    | s ns => exact False.elim p1
    | o ds => exact False.elim p1
    | g ds =>
      refine .inr (go fun w1 v H1 l1 s1 r1 => ?_)
      obtain ⟨a, vs, rfl, q, r⟩ := r1
      exact .inl ⟨a, vs, rfl, s1.sqT q, p1 w1 H1 _ _ l1 s1 ⟨q, r⟩ it_enumT⟩
    | p d =>
      cases d with
      | str z =>
        refine .inr (go fun w1 v H1 l1 s1 r1 => ?_)
        cases r1
        exact .inr ⟨z, rfl, p1 w1 H1 _ _ l1 s1 trivial it_enumS⟩
      | list ds =>
        refine .inl (go fun w1 v H1 l1 s1 r1 => ?_)
        cases r1 with
        | @lst a vs _ q r => exact ⟨a, vs, rfl, SqL.of (s1.nd q rfl), p1 w1 H1 _ _ l1 s1 ⟨q, r⟩ it_enumL⟩
      | tuple ds =>
        refine .inr (go fun w1 v H1 l1 s1 r1 => ?_)
        cases r1 with
        | @tup a vs _ q r => exact .inl ⟨a, vs, rfl, SqT.of (s1.nd q rfl), p1 w1 H1 _ _ l1 s1 ⟨.inl (.inl q), r⟩ it_enumT⟩
      | _ => exact False.elim p1

/-! ### reversed -/
theorem it_revL {K : PySem.W.Frag} {a : Addr} {vs : List V} {ds : List D} (hl : vs.length = ds.length) : ItOk K (fun w => w.F a = some (.lst vs) ∧ RDs K w vs ds) (Itv K a vs.length) ds.reverse where
  mono := fun w w' f r _ h => ⟨f _ _ h.1, RDs.mono2 f r h.2⟩
  go := fun i d w ms st H e h s => by
    have q : SqL K H a vs := SqL.of (s.nd h.1 rfl)
    have hi : i < ds.length := by
      have := (List.getElem?_eq_some_iff.mp e).1
      simpa using this
    rw [List.getElem?_reverse hi] at e
    obtain ⟨v, ev, rv⟩ := rds_get h.2 e
    rw [← hl] at ev
    refine ⟨⟨by omega, vs, v, q, ev⟩, fun x H' y => ?_⟩
    obtain ⟨rfl, y⟩ := y
    have : x = v := Option.some.inj ((y vs q).symm.trans ev)
    subst this
    exact ⟨w, Wd.le.refl w, s, rv⟩
  stop := fun w ms st H h s => by
    show vs.length ≤ _
    rw [List.length_reverse]
    omega
theorem it_revT {K : PySem.W.Frag} {a : Addr} {vs : List V} {ds : List D} (hl : vs.length = ds.length) : ItOk K (fun w => SqT K w.F a vs ∧ RDs K w vs ds) (RT.ItvT K a vs.length) ds.reverse where
  mono := fun w w' f r _ h => ⟨SqT.sub f h.1, RDs.mono2 f r h.2⟩
  go := fun i d w ms st H e h s => by
    have q : SqT K H a vs := s.sqT h.1
    have hi : i < ds.length := by
      have := (List.getElem?_eq_some_iff.mp e).1
      simpa using this
    rw [List.getElem?_reverse hi] at e
    obtain ⟨v, ev, rv⟩ := rds_get h.2 e
    rw [← hl] at ev
    refine ⟨⟨by omega, vs, v, q, ev⟩, fun x H' y => ?_⟩
    obtain ⟨rfl, y⟩ := y
    have : x = v := Option.some.inj ((y vs q).symm.trans ev)
    subst this
    exact ⟨w, Wd.le.refl w, s, rv⟩
  stop := fun w ms st H h s => by
    show vs.length ≤ _
    rw [List.length_reverse]
    omega
def itRev (d : D) (st : List O) : R (List D) := match d with
  | .p (.list ds) => .ok (asP ds).reverse st
  | .p (.tuple ds) => .ok (asP ds).reverse st
  | .g ds => .ok (asP ds).reverse st
  | _ => .bad
def mRev (m : M D) : M (List D) := mB m fun d => fun _ _ st => itRev d st
theorem si_rev {m : M D} (hg : Gl X "reversed") (hm : X.mg "reversed" = none) (he : PE X e (tE X.K W m)) (hs : notStar e = true) : PI X tg (.Call (.Name "reversed" p) [e] [] pos) (tI X.K W (mRev m)) := by
  refine pi_imp (RT.pi_revA hg hm he (star_of hs _ _)) fun σ H Q h => seqI h fun w ms env st H d v s en r q => ?_
  unfold itRev at q
  split at q
  · cases r with
    | @lst a vs _ q1 r1 => exact ⟨a, vs, rfl, .inl ⟨SqL.of (s.nd q1 rfl), q w H _ _ (Wd.le.refl w) s ⟨q1, r1.rds⟩ (it_revL (by rw [r1.length]; exact (List.length_map _).symm))⟩⟩
  · cases r with
    | @tup a vs _ q1 r1 => exact ⟨a, vs, rfl, .inr ⟨SqT.of (s.nd q1 rfl), q w H _ _ (Wd.le.refl w) s ⟨.inl (.inl q1), r1.rds⟩ (it_revT (by rw [r1.length]; exact (List.length_map _).symm))⟩⟩
  · obtain ⟨a, vs, rfl, q1, r1⟩ := r
    exact ⟨a, vs, rfl, .inr ⟨s.sqT q1, q w H _ _ (Wd.le.refl w) s ⟨q1, r1.rds⟩ (it_revT (by rw [r1.length]; exact (List.length_map _).symm))⟩⟩
  · exact False.elim q
end
end Fk

namespace Fk
open PySem PySem.Spec L2
set_option autoImplicit false

/-! ### comprehensions -/
def wipeE (env : En) : List Nat → En
  | [] => env
  | v :: vs => (wipeE env vs).set v none
def R.strict {α : Type} (r : R α) : R α := match r with
  | .ex _ _ => .bad
  | r => r
def mCompL (t : Tg) (c : M Bool) (el : M D) (ms : List Nat) (env : En) : List D → List D → List O → R (List D)
  | [], acc, st => .ok acc st
  | d :: ds, acc, st => match asg t d env with
    | none => .bad
    | some env1 => (c ms env1 st).strict.bind fun b st1 => match b with
      | true => (el ms env1 st1).strict.bind fun y st2 => if acc.length < sizeLine then mCompL t c el ms env ds (acc ++ [y]) st2 else .bad
      | false => mCompL t c el ms env ds acc st1
def mComp (fl : Bool) (own : List Nat) (it : M (List D)) (t : Tg) (c : M Bool) (el : M D) : M D := mB it fun ds => fun ms env st => (mCompL t c el ms (wipeE env own) ds [] st).bind fun acc st' => mkL fl acc st'
theorem post_strict {α β γ δ : Type} {Rel : Wd → β → α → Prop} {Rel' : Wd → δ → γ → Prop} {K : PySem.W.Frag} {W W0 : Ex} {ms : List Nat} {σ σ' : St} {w : Wd} {r : R α} {f : α → List O → R γ} {Q : β → Hp → Prop} {Q' : δ → Hp → Prop}
    (h : Post Rel' K W ms σ w (r.strict.bind f) Q')
    (hq : ∀ d st w' v H', w.le w' → RSt K ms w' st H' → Rel w' v d → Post Rel' K W ms σ w' (f d st) Q' → Q v H') : Post Rel K W0 ms σ' w r Q := by
  cases r with
  | ok d st => exact fun w' v H' l s q => hq d st w' v H' l s q (Post.mono l h)
  | ex c st => exact False.elim h
  | bad => exact h
theorem pinned_strict {α β γ δ : Type} {Rel : Wd → β → α → Prop} {Rel' : Wd → δ → γ → Prop} {K : PySem.W.Frag} {W W0 : Ex} {ms : List Nat} {σ σ' : St} {w : Wd} {r : R α} {f : α → List O → R γ} {Q : β → Hp → Prop} {Q' : δ → Hp → Prop} {p : Addr} {u : HO} (g : w.G p = none)
    (h : Post Rel' K W ms σ w (r.strict.bind f) Q')
    (hq : ∀ d st w' v H', w.le w' → w'.G p = none → RSt K ms (w'.pin p u) st H' → Rel (w'.pin p u) v d → Post Rel' K W ms σ w' (f d st) Q' → Q v H') : Post Rel K W0 ms σ' (w.pin p u) r Q := by
  cases r with
  | ok d st =>
    intro w1 v H' l s q
    obtain ⟨l', e'⟩ := Wd.le_pin l
    generalize hw : (Wd.mk w1.F w1.ρ w.G) = w2 at l' e'
    subst e'
    exact hq d st w2 v H' l' (by rw [l'.g]; exact g) s q (Post.mono l' h)
  | ex c st => exact False.elim h
  | bad => exact h
theorem wipe_get (σ : St) : ∀ (vs : List Nat) (j : Nat), (wipe σ vs)[j]? = if j ∈ vs ∧ j < σ.length then some none else σ[j]?
  | [], j => by simp [wipe]
  | v :: vs, j => by
    show ((wipe σ vs).set v none)[j]? = _
    by_cases hj : v = j
    · subst hj
      by_cases hl : v < σ.length
      · rw [List.getElem?_set_self (by rw [wipe_length]; exact hl), if_pos ⟨List.mem_cons_self, hl⟩]
      · rw [if_neg (fun z => hl z.2), List.getElem?_eq_none (by rw [List.length_set, wipe_length]; omega), List.getElem?_eq_none (by omega)]
    · rw [List.getElem?_set_ne hj, wipe_get σ vs j]
      have : (j ∈ v :: vs) ↔ j ∈ vs := ⟨fun h => (List.mem_cons.mp h).elim (fun z => absurd z.symm hj) id, List.mem_cons_of_mem _⟩
      simp only [this]
theorem wipeE_len (env : En) : ∀ vs : List Nat, (wipeE env vs).length = env.length
  | [] => rfl
  | v :: vs => by show ((wipeE env vs).set v none).length = _; rw [List.length_set, wipeE_len env vs]
theorem wipeE_get (env : En) : ∀ (vs : List Nat) (j : Nat) (d : D), (wipeE env vs)[j]? = some (some d) → j ∉ vs ∧ env[j]? = some (some d)
  | [], j, d, h => ⟨List.not_mem_nil, h⟩
  | v :: vs, j, d, h => by
    have h' : ((wipeE env vs).set v none)[j]? = some (some d) := h
    by_cases hj : v = j
    · subst hj
      by_cases hl : v < (wipeE env vs).length
      · rw [List.getElem?_set_self hl] at h'; cases h'
      · rw [List.getElem?_eq_none (by rw [List.length_set]; omega)] at h'; cases h'
    · rw [List.getElem?_set_ne hj] at h'
      obtain ⟨h1, h2⟩ := wipeE_get env vs j d h'
      exact ⟨fun z => (List.mem_cons.mp z).elim (fun q => hj q.symm) h1, h2⟩
theorem REn.wipe {K : PySem.W.Frag} {w : Wd} {σ : St} {env : En} (e : REn K w σ env) (vs : List Nat) : REn K w (L2.wipe σ vs) (wipeE env vs) := by
  refine ⟨by rw [wipe_length, wipeE_len]; exact e.len, fun i d h => ?_⟩
  obtain ⟨h1, h2⟩ := wipeE_get env vs i d h
  obtain ⟨v, q, r⟩ := e.get i d h2
  exact ⟨v, by rw [wipe_get, if_neg (fun z => h1 z.1)]; exact q, r⟩
theorem wipe_off {σ σ' : St} {l vs : List Nat} (h : off l (wipe σ vs) σ') (hs : ∀ j ∈ l, j ∈ vs) : wipe σ' vs = wipe σ vs := by
  have hl : σ'.length = σ.length := h.len.trans (wipe_length σ vs)
  apply List.ext_getElem?
  intro j
  rw [wipe_get, wipe_get, hl]
  by_cases hj : j ∈ vs ∧ j < σ.length
  · rw [if_pos hj, if_pos hj]
  · rw [if_neg hj, if_neg hj]
    by_cases hv : j ∈ vs
    · have : σ.length ≤ j := by
        apply Nat.le_of_not_lt
        exact fun z => hj ⟨hv, z⟩
      rw [List.getElem?_eq_none (by omega), List.getElem?_eq_none this]
    · rw [h.get j fun z => hv (hs j z), wipe_get, if_neg hj]
def W0 : Ex := fun _ _ _ => False
def mTrue : M Bool := mRet true
section
variable {X : Cx} {W : Ex} {tg iter elt : Expr} {ifs : List Expr} {scope : Scope} {own : List (Str × Nat)} {pos : Pos}
theorem st_yes {Y : Cx} : PTs Y [] (tT Y.K W0 mTrue) := ⟨fun pins s σ H Q I h => pts_nil.run pins s σ H Q I (by
  obtain ⟨w, ms, env, st, s, en, p⟩ := h
  exact p.val s rfl)⟩
theorem st_one {Y : Cx} {c : Expr} {m : M Bool} (h : PT Y c (tT Y.K W0 m)) : PTs Y [c] (tT Y.K W0 m) := pts_one h
theorem comp_core {fl : Bool} {t : Tg} {c : M Bool} {el : M D} {vs : List Nat} {σ : St} {Q : VK} {w' : Wd} {ms : List Nat} {env : En} {st1 : List O} {H' : Hp} {ds : List D} {J : It} {I0 : Wd → Prop} {D : Addr} (ht : ∀ j ∈ t.slots, j ∈ vs) (s' : RSt X.K ms w' st1 H') (en' : REn X.K w' σ env) (i0 : I0 w') (io : ItOk X.K I0 J ds) (hD : H' D = none)
    (p' : Post (RD X.K) X.K W ms σ w' ((mCompL t c el ms (wipeE env vs) ds [] st1).bind fun acc st' => mkL fl acc st') Q) :
    ∃ Wv : Nat → Nat → Hp → Prop, (∃ m, Wv 0 m (upd H' D (.lst []))) ∧ ∀ i m H, Wv i m H →
      (J.stop i H ∧ Q (.ref D) H) ∨ (J.go i H ∧ ∃ Nx : Hp → Prop, (∀ H', Nx H' → ∃ m', m' < m ∧ Wv (i + 1) m' H') ∧ ∀ x H', J.yld i H x H' → tG X.K t x (wipe σ vs) H' fun σ2 H2 => wipe σ2 vs = wipe σ vs ∧ tT X.K W0 c σ2 H2 fun b H3 =>
        if b = true then tE X.K W0 el σ2 H3 fun y H4 => ∃ acc, H4 D = some (.lst acc) ∧ acc.length < sizeLine ∧ Nx (upd H4 D (.lst (acc ++ [y]))) else Nx H3) := by
    refine ⟨fun i m Hh => ∃ w2 st2 acc xs, m = ds.length - i ∧ i ≤ ds.length ∧ w'.le w2 ∧ w2.G D = none ∧ RSt X.K ms (w2.pin D (.lst xs)) st2 Hh ∧ RDs X.K w2 xs acc ∧
      Post (RD X.K) X.K W ms σ w2 ((mCompL t c el ms (wipeE env vs) (ds.drop i) acc st2).bind fun acc st' => mkL fl acc st') Q,
      ⟨ds.length, w', st1, [], [], rfl, Nat.zero_le _, Wd.le.refl _, s'.gnone hD, s'.pinN hD, .nil, p'⟩, ?_⟩
    rintro i m Hh ⟨w2, st2, acc, xs, rfl, hi, l2, g2, s2, r2, p2⟩
    have mk : ∀ {ws : Wd}, w'.le ws → ws.G D = none → I0 (ws.pin D (.lst xs)) := fun {ws} l g => by
      refine io.mono w' _ l.f l.r (fun x o e => ?_) i0
      have hx : x ≠ D := fun z => by
        subst z
        rw [← l.g, g] at e; cases e
      show upd ws.G D _ x = some o
      rw [upd_ne hx, l.g]
      exact e
    by_cases hlt : i < ds.length
    · refine .inr ?_
      obtain ⟨d, hd⟩ : ∃ d, ds[i]? = some d := ⟨_, List.getElem?_eq_getElem hlt⟩
      have hdr : ds.drop i = d :: ds.drop (i + 1) := by
        rw [List.drop_eq_getElem_cons hlt]
        have := List.getElem?_eq_getElem hlt
        rw [this] at hd
        rw [Option.some.inj hd]
      rw [hdr] at p2
      obtain ⟨go, yl⟩ := io.go i d _ ms st2 Hh hd (mk l2 g2) s2
      refine ⟨go, fun H5 => ∃ w2 st2 acc xs, ds.length - (i + 1) = ds.length - (i + 1) ∧ i + 1 ≤ ds.length ∧ w'.le w2 ∧ w2.G D = none ∧ RSt X.K ms (w2.pin D (.lst xs)) st2 H5 ∧ RDs X.K w2 xs acc ∧
        Post (RD X.K) X.K W ms σ w2 ((mCompL t c el ms (wipeE env vs) (ds.drop (i + 1)) acc st2).bind fun acc st' => mkL fl acc st') Q, fun H5 h5 => ⟨ds.length - (i + 1), by omega, h5⟩, fun x H3 hy => ?_⟩
      obtain ⟨w3p, l3p, s3, r3⟩ := yl x H3 hy
      obtain ⟨l3, e3⟩ := Wd.le_pin l3p
      generalize hw3 : (Wd.mk w3p.F w3p.ρ w2.G) = w3 at l3 e3
      subst e3
      have g3 : w3.G D = none := by rw [l3.g]; exact g2
      have p3 := Post.mono l3 p2
      rw [mCompL] at p3
      cases ea : asg t d (wipeE env vs) with
      | none => rw [ea] at p3; exact False.elim p3
      | some env1 =>
        rw [ea] at p3
        dsimp only at p3
        have en3 : REn X.K (w3.pin D (.lst xs)) (wipe σ vs) (wipeE env vs) := ((en'.mono (l2.trans l3)).wipe vs).pin
        refine ⟨_, ms, _, st2, d, s3, en3, r3, env1, ea, fun σ2 en2 of2 => ⟨wipe_off of2 ht, ?_⟩⟩
        -- the test
        have p3' : Post (RD X.K) X.K W ms σ w3 ((c ms env1 st2).strict.bind fun b st1 => (match b with
          | true => (el ms env1 st1).strict.bind fun y st2 => if acc.length < sizeLine then mCompL t c el ms (wipeE env vs) (ds.drop (i + 1)) (acc ++ [y]) st2 else .bad
          | false => mCompL t c el ms (wipeE env vs) (ds.drop (i + 1)) acc st1).bind fun acc st' => mkL fl acc st') Q := by
          revert p3
          cases c ms env1 st2 <;> exact fun z => z
        refine ⟨_, ms, env1, st2, s3, en2, pinned_strict g3 p3' fun b st3 w4 v H4 l4 g4 s4 rv p4 => ?_⟩
        subst rv
        cases v with
        | false =>
          rw [if_neg Bool.false_ne_true]
          exact ⟨w4, st3, acc, xs, rfl, hlt, (l2.trans l3).trans l4, g4, s4, RDs.mono (l3.trans l4) r2, p4⟩
        | true =>
          rw [if_pos rfl]
          have p4' : Post (RD X.K) X.K W ms σ w4 ((el ms env1 st3).strict.bind fun y st2 => (if acc.length < sizeLine then mCompL t c el ms (wipeE env vs) (ds.drop (i + 1)) (acc ++ [y]) st2 else .bad).bind fun acc st' => mkL fl acc st') Q := by
            revert p4
            dsimp only
            cases el ms env1 st3 <;> exact fun z => z
          have en4 : REn X.K (w4.pin D (.lst xs)) σ2 env1 := REn.mono (w := w3.pin D (.lst xs)) (w' := w4.pin D (.lst xs)) ⟨l4.f, l4.r, by show upd w4.G D (.lst xs) = upd w3.G D (.lst xs); rw [l4.g]⟩ en2
          refine ⟨_, ms, env1, st3, s4, en4, pinned_strict g4 p4' fun y st4 w5 v5 H5 l5 g5 s5 r5 p5 => ?_⟩
          by_cases hacc : acc.length < sizeLine
          · rw [if_pos hacc] at p5
            have rr := RDs.mono ((l3.trans l4).trans l5) r2
            refine ⟨xs, s5.pin_at, by rw [Paired.length r2]; exact hacc, ?_⟩
            exact ⟨w5, st4, acc ++ [y], xs ++ [v5], rfl, hlt, ((l2.trans l3).trans l4).trans l5, g5, s5.pinU, Paired.app rr (.cons (RD.pin.mp r5) .nil), p5⟩
          · rw [if_neg hacc] at p5
            exact False.elim p5
    · refine .inl ?_
      have e : i = ds.length := by omega
      subst e
      rw [List.drop_length] at p2
      exact ⟨io.stop _ ms st2 Hh (mk l2 g2) s2, made_post s2 g2 r2 p2⟩
theorem comp_ok {fl : Bool} {it : M (List D)} {t : Tg} {c : M Bool} {el : M D} {vs : List Nat} {σ : St} {H : Hp} {Q : VK} (ht : ∀ j ∈ t.slots, j ∈ vs) (h : tE X.K W (mComp fl vs it t c el) σ H Q) :
    tLc (tI X.K W it) (tG X.K t) (tT X.K W0 c) (tE X.K W0 el) vs σ H Q := by
  obtain ⟨w, ms, env, st, s, en, p⟩ := h
  refine ⟨w, ms, env, st, s, en, ?_⟩
  have p' : Post (RD X.K) X.K W ms σ w ((it ms env st).bind fun ds st1 => (mCompL t c el ms (wipeE env vs) ds [] st1).bind fun acc st' => mkL fl acc st') Q := p
  clear p
  revert p'
  cases it ms env st with
  | bad => exact fun z => z
  | ex c1 st1 => exact fun z => z
  | ok ds st1 => exact fun p' w' H' J I0 l' s' i0 io D hD => comp_core ht s' (en.mono l') i0 io hD (Post.mono l' p')
theorem se_comp (fl : Bool) {it : M (List D)} {t : Tg} {c : M Bool} {el : M D} (hc : X.calm = true) (hN : X.N.Nodup) (hi : PI X tg iter (tI X.K W it)) (ok : BlkOk X.N X.env.scope scope own)
    (hg : ∀ (s : Shared) (H : Hp) (C : Addr) (cl : List (Str × Addr)) (fp : List Addr), PG (X.blk s H scope (compEnvC scope cl C X.env) fp) tg (tG X.K t)) (ht : ∀ (s : Shared) (H : Hp) (C : Addr) (cl : List (Str × Addr)) (fp : List Addr), PTs (X.blk s H scope (compEnvC scope cl C X.env) fp) ifs (tT X.K W0 c))
    (he : ∀ (s : Shared) (H : Hp) (C : Addr) (cl : List (Str × Addr)) (fp : List Addr), PE (X.blk s H scope (compEnvC scope cl C X.env) fp) elt (tE X.K W0 el)) (hs : ∀ x, foldedSetIterable iter X.env x = pure x) (hsl : ∀ j ∈ t.slots, j ∈ own.map (·.2)) :
    PE X (.ListComp elt [⟨tg, iter, ifs, 0⟩] scope pos) (tE X.K W (mComp fl (own.map (·.2)) it t c el)) :=
  pe_imp (pe_lc hc hN hi ok hg ht he hs) fun σ H Q h => comp_ok hsl h
end
end Fk

namespace Fk
open PySem PySem.Spec L2
set_option autoImplicit false

/-! ### a thing of the store is taken as it is from now on -/
def zipK : List Key → List PyData → List (PyData × PyData)
  | k :: ks, d :: ds => (kP k, d) :: zipK ks ds
  | _, _ => []
def zipT : List (List Key) → List PyData → List (PyData × PyData)
  | k :: ks, d :: ds => (.tuple (k.map kP), d) :: zipT ks ds
  | _, _ => []
def frzL (f : D → List O → R PyData) : List D → List O → R (List PyData)
  | [], st => .ok [] st
  | d :: ds, st => (f d st).bind fun p st1 => (frzL f ds st1).bind fun ps st2 => .ok (p :: ps) st2
def frz : Nat → D → List O → R PyData
  | _, .p d, st => .ok d st
  | n + 1, .r i, st => match st[i]? with
    | some (.lst ds) => (frzL (frz n) ds st).bind fun ps st1 => match st1[i]? with
      | some (.lst _) => .ok (.list ps) (st1.set i .dead)
      | _ => .bad
    | some (.dK l) => (frzL (frz n) (l.map (·.2)) st).bind fun ps st1 => match st1[i]? with
      | some (.dK _) => .ok (.dict (zipK (l.map (·.1)) ps)) (st1.set i .dead)
      | _ => .bad
    | some (.dT l) => match l with
      | [] => .bad
      | _ => (frzL (frz n) (l.map (·.2)) st).bind fun ps st1 => match st1[i]? with
        | some (.dT _) => .ok (.dict (zipT (l.map (·.1)) ps)) (st1.set i .dead)
        | _ => .bad
    | _ => .bad
  | _, _, _ => .bad
section
variable {K : PySem.W.Frag} {ms : List Nat}
/-- what a view's change keeps -/
def FrzOk (K : PySem.W.Frag) (ms : List Nat) (f : D → List O → R PyData) : Prop := ∀ (w : Wd) (st : List O) (H : Hp) (v : V) (d : D) (p : PyData) (st' : List O), RSt K ms w st H → RD K w v d → f d st = .ok p st' → ∃ w', w.le w' ∧ RSt K ms w' st' H ∧ Rp K w'.F v p
theorem frz_noex (n : Nat) : ∀ (d : D) (st : List O) (c : Str) (st' : List O), frz n d st ≠ .ex c st' := by
  have lst : ∀ (f : D → List O → R PyData), (∀ d st c st', f d st ≠ .ex c st') → ∀ (ds : List D) (st : List O) (c : Str) (st' : List O), frzL f ds st ≠ .ex c st' := by
    intro f hf ds
    induction ds with
    | nil => intro st c st' h; cases h
    | cons d r ih =>
      intro st c st' h
      unfold frzL at h
      cases e : f d st with
      | bad => rw [e] at h; cases h
      | ex c1 st1 => exact hf _ _ _ _ e
      | ok p st1 =>
        rw [e] at h
        have h' : (frzL f r st1).bind (fun ps st2 => R.ok (p :: ps) st2) = .ex c st' := h
        cases e2 : frzL f r st1 with
        | bad => rw [e2] at h'; cases h'
        | ex c2 st2 => exact ih _ _ _ e2
        | ok ps st2 => rw [e2] at h'; cases h'
  induction n with
  | zero => intro d st c st' h; cases d <;> (unfold frz at h; cases h)
  | succ n ih =>
    intro d st c st' h
    cases d with
    | p d => unfold frz at h; cases h
    | s ns => unfold frz at h; cases h
    | g ns => unfold frz at h; cases h
    | o ns => unfold frz at h; cases h
    | r i =>
      unfold frz at h
      split at h
      · rename_i ds _
        cases e : frzL (frz n) ds st with
        | bad => rw [e] at h; cases h
        | ex c1 st1 => exact lst _ ih _ _ _ _ e
        | ok ps st1 =>
          rw [e] at h
          dsimp only [R.bind] at h
          split at h <;> cases h
      · rename_i l _
        cases e : frzL (frz n) (l.map (·.2)) st with
        | bad => rw [e] at h; cases h
        | ex c1 st1 => exact lst _ ih _ _ _ _ e
        | ok ps st1 =>
          rw [e] at h
          dsimp only [R.bind] at h
          split at h <;> cases h
      · rename_i l _
        split at h
        · cases h
        · cases e : frzL (frz n) (l.map (·.2)) st with
          | bad => rw [e] at h; cases h
          | ex c1 st1 => exact lst _ ih _ _ _ _ e
          | ok ps st1 =>
            rw [e] at h
            dsimp only [R.bind] at h
            split at h <;> cases h
      · cases h
theorem frzL_ok {f : D → List O → R PyData} (hf : FrzOk K ms f) (hx : ∀ d st c st', f d st ≠ .ex c st') : ∀ (ds : List D) (vs : List V) (w : Wd) (st : List O) (H : Hp) (ps : List PyData) (st' : List O), RSt K ms w st H → RDs K w vs ds → frzL f ds st = .ok ps st' → ∃ w', w.le w' ∧ RSt K ms w' st' H ∧ RpA K w'.F vs ps
  | [], _, w, st, H, ps, st', s, .nil, h => by
    cases h
    exact ⟨w, Wd.le.refl w, s, .nil⟩
  | d :: ds, _, w, st, H, ps, st', s, .cons r rs, h => by
    unfold frzL at h
    cases e : f d st with
    | bad => rw [e] at h; cases h
    | ex c st1 => exact absurd e (hx _ _ _ _)
    | ok p st1 =>
      rw [e] at h
      have h' : (frzL f ds st1).bind (fun ps st2 => R.ok (p :: ps) st2) = .ok ps st' := h
      obtain ⟨w1, l1, s1, r1⟩ := hf w st H _ d p st1 s r e
      cases e2 : frzL f ds st1 with
      | bad => rw [e2] at h'; cases h'
      | ex c2 st2 => rw [e2] at h'; cases h'
      | ok qs st2 =>
        rw [e2] at h'
        cases h'
        obtain ⟨w2, l2, s2, r2⟩ := frzL_ok hf hx ds _ w1 st1 H qs st' s1 (RDs.mono l1 rs) e2
        exact ⟨w2, l1.trans l2, s2, .cons (r1.sub l2.f) r2⟩
theorem rpK_zip {F : Hp} : ∀ {kvs : List (Key × V)} {ps : List PyData}, RpA K F (kvs.map (·.2)) ps → RpK K F kvs (zipK (kvs.map (·.1)) ps)
  | [], _, .nil => .nil
  | (k, v) :: kvs, _, .cons h r => .cons h (rpK_zip r)
theorem rpT_zip {F : Hp} : ∀ {kvs : List (List Key × V)} {ps : List PyData}, RpA K F (kvs.map (·.2)) ps → RpT K F kvs (zipT (kvs.map (·.1)) ps)
  | [], _, .nil => .nil
  | (k, v) :: kvs, _, .cons h r => .cons h (rpT_zip r)
theorem paired_snd {κ : Type} {w : Wd} : ∀ {kvs : List (κ × V)} {l : List (κ × D)}, Paired (fun (p : κ × V) (q : κ × D) => p.1 = q.1 ∧ RD K w p.2 q.2) kvs l → RDs K w (kvs.map (·.2)) (l.map (·.2)) ∧ kvs.map (·.1) = l.map (·.1)
  | _, _, .nil => ⟨.nil, rfl⟩
  | _, _, .cons h r => by
    obtain ⟨a, b⟩ := paired_snd r
    exact ⟨.cons h.2 a, by rw [List.map_cons, List.map_cons, h.1, b]⟩
theorem frz_ok : ∀ n : Nat, FrzOk K ms (frz n)
  | 0 => by
    intro w st H v d p st' s r h
    cases d <;> unfold frz at h <;> first | (cases h; exact ⟨w, Wd.le.refl w, s, r⟩) | cases h
  | n + 1 => by
    intro w st H v d p st' s r h
    have ih := frz_ok n
    have hx := frz_noex n
    cases d with
    | p d => unfold frz at h; cases h; exact ⟨w, Wd.le.refl w, s, r⟩
    | s ns => unfold frz at h; cases h
    | g ns => unfold frz at h; cases h
    | o ns => unfold frz at h; cases h
    | r i =>
      obtain ⟨a, ea, rfl⟩ := r
      unfold frz at h
      split at h
      · rename_i ds hi
        obtain ⟨_, _, ho, q, ro⟩ := s.at i _ a hi ea
        cases ho with
        | lst vs =>
          cases e : frzL (frz n) ds st with
          | bad => rw [e] at h; cases h
          | ex c1 st1 => rw [e] at h; cases h
          | ok ps st1 =>
            rw [e] at h
            dsimp only [R.bind] at h
            obtain ⟨w1, l1, s1, r1⟩ := frzL_ok ih hx ds vs w st H ps st1 s ro e
            split at h
            · rename_i z0 hz0
              cases h
              obtain ⟨s2, fn⟩ := s1.kill hz0 (fun z q => nomatch q) rfl (prefix_get l1.r ea) q
              have ll : w1.le (w1.frz a (.lst vs)) := Wd.le_frz fn
              exact ⟨_, l1.trans ll, s2, Rp.lst (xs := vs) upd_same (r1.sub ll.f)⟩
            · cases h
        | _ => exact False.elim ro
      · rename_i l hi
        obtain ⟨_, _, ho, q, ro⟩ := s.at i _ a hi ea
        cases ho with
        | dK kvs =>
          obtain ⟨rs, ek⟩ := paired_snd ro
          cases e : frzL (frz n) (l.map (·.2)) st with
          | bad => rw [e] at h; cases h
          | ex c1 st1 => rw [e] at h; cases h
          | ok ps st1 =>
            rw [e] at h
            dsimp only [R.bind] at h
            obtain ⟨w1, l1, s1, r1⟩ := frzL_ok ih hx _ _ w st H ps st1 s rs e
            split at h
            · rename_i z0 hz0
              cases h
              obtain ⟨s2, fn⟩ := s1.kill hz0 (fun z q => nomatch q) rfl (prefix_get l1.r ea) q
              have ll : w1.le (w1.frz a (.dK kvs)) := Wd.le_frz fn
              refine ⟨_, l1.trans ll, s2, Rp.dK (kvs := kvs) upd_same ?_⟩
              rw [← ek]
              exact rpK_zip (r1.sub ll.f)
            · cases h
        | _ => exact False.elim ro
      · rename_i l hi
        obtain ⟨_, _, ho, q, ro⟩ := s.at i _ a hi ea
        split at h
        · cases h
        · rename_i hne
          cases ho with
          | dT kvs =>
            obtain ⟨rs, ek⟩ := paired_snd ro
            cases e : frzL (frz n) (l.map (·.2)) st with
            | bad => rw [e] at h; cases h
            | ex c1 st1 => rw [e] at h; cases h
            | ok ps st1 =>
              rw [e] at h
              dsimp only [R.bind] at h
              obtain ⟨w1, l1, s1, r1⟩ := frzL_ok ih hx _ _ w st H ps st1 s rs e
              split at h
              · rename_i z0 hz0
                cases h
                obtain ⟨s2, fn⟩ := s1.kill hz0 (fun z q => nomatch q) rfl (prefix_get l1.r ea) q
                have ll : w1.le (w1.frz a (.dT kvs)) := Wd.le_frz fn
                refine ⟨_, l1.trans ll, s2, Rp.dT (kvs := kvs) upd_same (fun z => ?_) ?_⟩
                · subst z
                  cases ro
                  exact hne rfl
                · rw [← ek]
                  exact rpT_zip (r1.sub ll.f)
              · cases h
          | _ => exact False.elim ro
      · cases h
def mFrz (m : M D) : M D := mB m fun d => fun _ _ st => (frz 3 d st).bind fun p st' => .ok (.p p) st'
theorem frz_post {W : Ex} {w : Wd} {st : List O} {H : Hp} {σ : St} {v : V} {d : D} {Q : VK} (s : RSt K ms w st H) (r : RD K w v d) (h : Post (RD K) K W ms σ w ((frz 3 d st).bind fun p st' => .ok (.p p) st') Q) : Q v H := by
  cases e : frz 3 d st with
  | bad => rw [e] at h; exact False.elim h
  | ex c st1 => exact absurd e (frz_noex 3 d st c st1)
  | ok p st1 =>
    rw [e] at h
    obtain ⟨w1, l1, s1, r1⟩ := frz_ok 3 w st H v d p st1 s r e
    exact h w1 v H l1 s1 r1
theorem se_frz {X : Cx} {W : Ex} {e : Expr} {m : M D} (h : PE X e (tE X.K W m)) : PE X e (tE X.K W (mFrz m)) := pe_imp h fun σ H Q h => seq1 h fun w ms env st H d x s _ r p => frz_post s r p
end
end Fk

namespace Fk
open PySem PySem.Spec L2
set_option autoImplicit false

/-! ### statements -/
def PostS (K : PySem.W.Frag) (W : Ex) (ms : List Nat) (w : Wd) (r : RS) (D : Ends) : Prop :=
  match r with
  | .nx env st => ∀ w' σ' H', w.le w' → RSt K ms w' st H' → REn K w' σ' env → D.nx σ' H'
  | .bk env st => ∀ w' σ' H', w.le w' → RSt K ms w' st H' → REn K w' σ' env → D.bk σ' H'
  | .ct env st => ∀ w' σ' H', w.le w' → RSt K ms w' st H' → REn K w' σ' env → D.ct σ' H'
  | .rt d st => ∀ w' v H', w.le w' → RSt K ms w' st H' → RD K w' v d → D.rt v H'
  | .ex c st => ∀ w' σ' H', w.le w' → RSt K ms w' st H' → W c σ' H'
  | .bad => False
def tS (K : PySem.W.Frag) (W : Ex) (m : MS) : TS := fun D σ H => ∃ w ms env st, RSt K ms w st H ∧ REn K w σ env ∧ PostS K W ms w (m ms env st) D
theorem PostS.mono {K : PySem.W.Frag} {W : Ex} {ms : List Nat} {w w' : Wd} {r : RS} {D : Ends} (l : w.le w') (h : PostS K W ms w r D) : PostS K W ms w' r D := by
  cases r with
  | nx env st => exact fun w2 σ' H' l2 => h w2 σ' H' (l.trans l2)
  | bk env st => exact fun w2 σ' H' l2 => h w2 σ' H' (l.trans l2)
  | ct env st => exact fun w2 σ' H' l2 => h w2 σ' H' (l.trans l2)
  | rt d st => exact fun w2 v H' l2 => h w2 v H' (l.trans l2)
  | ex c st => exact fun w2 σ' H' l2 => h w2 σ' H' (l.trans l2)
  | bad => exact h
/-- a value, then a statement -/
def R.toS {α : Type} (r : R α) (f : α → List O → RS) : RS := match r with
  | .ok a st => f a st
  | .ex c st => .ex c st
  | .bad => .bad
def sB {α : Type} (m : M α) (f : α → MS) : MS := fun ms env st => (m ms env st).toS fun a st' => f a ms env st'
theorem posts_bind {α β : Type} {Rel : Wd → β → α → Prop} {K : PySem.W.Frag} {W : Ex} {ms : List Nat} {σ : St} {w : Wd} {r : R α} {f : α → List O → RS} {Q : β → Hp → Prop} {D : Ends}
    (h : PostS K W ms w (r.toS f) D)
    (hq : ∀ d st w' v H', w.le w' → RSt K ms w' st H' → Rel w' v d → PostS K W ms w' (f d st) D → Q v H') : Post Rel K W ms σ w r Q := by
  cases r with
  | ok d st => exact fun w' v H' l s q => hq d st w' v H' l s q (PostS.mono l h)
  | ex c st => exact fun w' H' l s => h w' σ H' l s
  | bad => exact h
theorem seqS {α β : Type} {Rel : Wd → β → α → Prop} {K : PySem.W.Frag} {W : Ex} {ma : M α} {f : α → MS} {σ : St} {H : Hp} {D : Ends} {Q : β → Hp → Prop}
    (h : tS K W (sB ma f) D σ H)
    (hq : ∀ w ms env st H a x, RSt K ms w st H → REn K w σ env → Rel w x a → PostS K W ms w (f a ms env st) D → Q x H) :
    tM Rel K W ma σ H Q := by
  obtain ⟨w, ms, env, st, s, e, p⟩ := h
  exact ⟨w, ms, env, st, s, e, posts_bind p fun d st1 w1 v H1 l1 s1 r1 p1 => hq w1 ms env st1 H1 d v s1 (e.mono l1) r1 p1⟩
section
variable {X : Cx} {W : Ex} {st : Stmt} {rest : List Stmt} {e : Expr} {pos : Pos}
def mNext : MS := fun _ env st => .nx env st
def RS.then (r : RS) (f : En → List O → RS) : RS := match r with
  | .nx env st => f env st
  | r => r
def mSeq (m n : MS) : MS := fun ms env st => (m ms env st).then fun env' st' => n ms env' st'
theorem ss_nil : PSs X [] (tS X.K W mNext) := pss_imp pss_nil fun D σ H h => by
  obtain ⟨w, ms, env, st, s, en, p⟩ := h
  exact p w σ H (Wd.le.refl w) s en
theorem seq_ok {m n : MS} {D : Ends} {σ : St} {H : Hp} (h : tS X.K W (mSeq m n) D σ H) : tS X.K W m { D with nx := tS X.K W n D } σ H := by
  obtain ⟨w, ms, env, st, s, en, p⟩ := h
  refine ⟨w, ms, env, st, s, en, ?_⟩
  have p' : PostS X.K W ms w ((m ms env st).then fun env' st' => n ms env' st') D := p
  revert p'
  cases m ms env st with
  | nx env1 st1 => exact fun p' w' σ' H' l s' e' => ⟨w', ms, env1, st1, s', e', PostS.mono l p'⟩
  | bk env1 st1 => exact fun z => z
  | ct env1 st1 => exact fun z => z
  | rt d st1 => exact fun z => z
  | ex c st1 => exact fun z => z
  | bad => exact fun z => z
theorem ss_cons {m n : MS} (h1 : PS X st (tS X.K W m)) (h2 : PSs X rest (tS X.K W n)) : PSs X (st :: rest) (tS X.K W (mSeq m n)) := pss_imp (pss_cons h1 h2) fun D σ H h => seq_ok h
def mBrk : MS := fun _ env st => .bk env st
def mCnt : MS := fun _ env st => .ct env st
theorem ss_pass : PS X (.Pass pos) (tS X.K W mNext) := ps_imp ps_pass fun D σ H h => by
  obtain ⟨w, ms, env, st, s, en, p⟩ := h
  exact p w σ H (Wd.le.refl w) s en
theorem ss_break : PS X (.Break pos) (tS X.K W mBrk) := ps_imp ps_break fun D σ H h => by
  obtain ⟨w, ms, env, st, s, en, p⟩ := h
  exact p w σ H (Wd.le.refl w) s en
theorem ss_cont : PS X (.Continue pos) (tS X.K W mCnt) := ps_imp ps_continue fun D σ H h => by
  obtain ⟨w, ms, env, st, s, en, p⟩ := h
  exact p w σ H (Wd.le.refl w) s en
/-- an expression whose value is dropped -/
def mExpr (m : M D) : MS := sB m fun _ => mNext
theorem ss_expr {m : M D} (he : PE X e (tE X.K W m)) (hs : swapsWith e none pos.line X.env = pure false) : PS X (.Expr e pos) (tS X.K W (mExpr m)) := ps_imp (ps_expr he hs) fun D σ H h =>
  seqS h fun w ms env st H d x s en r p => p w σ H (Wd.le.refl w) s en
def mRtn (m : M D) : MS := sB m fun d => fun _ _ st => .rt d st
theorem ss_ret {m : M D} (he : PE X e (tE X.K W m)) : PS X (.Return (some e) pos) (tS X.K W (mRtn m)) := ps_imp (ps_ret he) fun D σ H h =>
  seqS h fun w ms env st H d x s en r p => p w x H (Wd.le.refl w) s r
def mRtnN : MS := fun _ _ st => .rt (.p .none) st
theorem ss_retN : PS X (.Return none pos) (tS X.K W mRtnN) := ps_imp ps_retN fun D σ H h => by
  obtain ⟨w, ms, env, st, s, en, p⟩ := h
  exact p w .non H (Wd.le.refl w) s .non
def mIfS (c : M Bool) (m n : MS) : MS := sB c fun b => match b with
  | true => m
  | false => n
theorem ss_if {c : Expr} {a b : List Stmt} {mc : M Bool} {m n : MS} (hc : PT X c (tT X.K W mc)) (ha : PSs X a (tS X.K W m)) (hb : PSs X b (tS X.K W n)) : PS X (.If c a b pos) (tS X.K W (mIfS mc m n)) := ps_imp (ps_if hc ha hb) fun D σ H h =>
  seqS h fun w ms env st H d x s en r p => by
    subst r
    cases x with
    | true => rw [if_pos rfl]; exact ⟨w, ms, env, st, s, en, p⟩
    | false => rw [if_neg Bool.false_ne_true]; exact ⟨w, ms, env, st, s, en, p⟩

/-! ### assignments -/
def mSet (i : Nat) (m : M D) : MS := sB m fun d => fun _ env st => .nx (env.set i (some d)) st
theorem ss_set {i : Nat} {x : Str} {pos' : Pos} {m : M D} (hN : X.N.Nodup) (hi : X.N[i]? = some x) (hx : Loc X.env.scope x) (he : PE X e (tE X.K W m)) (hs : swapsWith e (some (.Name x pos')) pos.line X.env = pure false) (hf : X.fn x = true ∨ X.env.scope.names.lookup x = some .local) :
    PS X (.Assign [.Name x pos'] e pos) (tS X.K W (mSet i m)) := ps_imp (ps_set hN hi hx he hs hf) fun D σ H h =>
  seqS h fun w ms env st H d x s en r p => p w _ H (Wd.le.refl w) s (en.set i r)
/-- targets -/
def mAsg (t : Tg) (m : M D) : MS := sB m fun d => fun _ env st => match asg t d env with
  | some env' => .nx env' st
  | none => .bad
theorem asgS_ok {t : Tg} {w : Wd} {ms : List Nat} {env : En} {st : List O} {H : Hp} {σ : St} {d : D} {x : V} {D' : Ends} (s : RSt X.K ms w st H) (en : REn X.K w σ env) (r : RD X.K w x d)
    (p : PostS X.K W ms w (match asg t d env with | some env' => .nx env' st | none => .bad) D') : tG X.K t x σ H D'.nx := by
  cases e : asg t d env with
  | none => rw [e] at p; exact False.elim p
  | some env' =>
    rw [e] at p
    exact ⟨w, ms, env, st, d, s, en, r, env', e, fun σ' en' _ => p w σ' H (Wd.le.refl w) s en'⟩
theorem ss_asg {tg : Expr} {t : Tg} {m : M D} (he : PE X e (tE X.K W m)) (hg : PG X tg (tG X.K t)) (hs : swapsWithSole [tg] e pos.line X.env = pure false) (hw : swappedStores [tg] e X.env = pure none)
    (h1 : (assignEach [tg] X.env).map (·.2) = [assign tg X.env]) : PS X (.Assign [tg] e pos) (tS X.K W (mAsg t m)) := ps_imp (ps_asg he hg hs hw h1) fun D σ H h =>
  seqS h fun w ms env st H d x s en r p => asgS_ok s en r p
/-- a, b = x, y -/
def mPar (i j : Nat) (m : M (List D)) : MS := sB m fun ds => fun _ env st => match ds with
  | [a, b] => .nx ((env.set i (some a)).set j (some b)) st
  | _ => .bad
theorem ss_par {i j : Nat} {x y : Str} {a b : Expr} {m : M (List D)} {px py pt : Pos} {kt k2 : Nat} {pt2 : Pos} (hc : X.calm = true) (hN : X.N.Nodup) (hi : X.N[i]? = some x) (hj : X.N[j]? = some y) (hij : i ≠ j)
    (hx : X.env.scope.names.lookup x = some .local) (hy : X.env.scope.names.lookup y = some .local) (ha : PA X [a, b] (tA X.K W m))
    (hw : swappedStores [.Tuple [.Name x px, .Name y py] kt pt] (.Tuple [a, b] k2 pt2) X.env = pure (some [x, y]))
    (hs : swapsWithSole [.Tuple [.Name x px, .Name y py] kt pt] (.Tuple [a, b] k2 pt2) pos.line X.env = pure false) :
    PS X (.Assign [.Tuple [.Name x px, .Name y py] kt pt] (.Tuple [a, b] k2 pt2) pos) (tS X.K W (mPar i j m)) := ps_imp (ps_par hc hN hi hj hij hx hy ha hw hs) fun D σ H h =>
  seqS h fun w ms env st H ds vs s en r p => by
    split at p
    · obtain ⟨v, u, rfl, r1, r2⟩ := vals2D r
      exact ⟨v, u, rfl, p w _ H (Wd.le.refl w) s ((en.set i r1).set j r2)⟩
    · exact False.elim p
theorem Paired.set' {α β : Type} {F : α → β → Prop} {x : α} {y : β} : ∀ {a : List α} {b : List β}, Paired F a b → ∀ j : Nat, F x y → Paired F (a.set j x) (b.set j y)
  | _, _, .nil, _, _ => .nil
  | _, _, .cons _ r, 0, h => .cons h r
  | _, _, .cons q r, j + 1, h => .cons q (Paired.set' r j h)
/-- o[k] = x -/
def putD {κ : Type} [DecidableEq κ] (l : List (κ × D)) (k : κ) (d : D) : List (κ × D) :=
  if (l.any fun kv => decide (kv.1 = k)) = true then l.map (fun kv => if kv.1 = k then (kv.1, d) else kv) else l ++ [(k, d)]
def fPut (o k a : D) (ms : List Nat) (st : List O) : R Unit := match o with
  | .r i => match st[i]? with
    | some (.lst ds) => match k with
      | .p (.int n) => match ixN ds.length n with
        | some j => if okRef ms i a = true then .ok () (st.set i (.lst (ds.set j a))) else .bad
        | none => .bad
      | _ => .bad
    | some (.dK l) => match k with
      | .p d => match keyOf d with
        | some key => if l.length < sizeLine ∧ okRef ms i a = true then .ok () (st.set i (.dK (putD l key a))) else .bad
        | none => .bad
      | _ => .bad
    | some (.dT l) => match k with
      | .p (.tuple ks) => match keysOf ks with
        | some key => if l.length < sizeLine ∧ okRef ms i a = true then .ok () (st.set i (.dT (putD l key a))) else .bad
        | none => .bad
      | _ => .bad
    | _ => .bad
  | _ => .bad
def rPut (K : PySem.W.Frag) : TSet := fun o i v H Q => ∃ w ms st od id vd, RSt K ms w st H ∧ RD K w o od ∧ RD K w i id ∧ RD K w v vd ∧ ∃ st', fPut od id vd ms st = .ok () st' ∧ ∀ H', RSt K ms w st' H' → Q H'
theorem pset_imp {t t' : TSet} (h : PSet X t) (q : ∀ o i v H Q, t' o i v H Q → t o i v H Q) : PSet X t' := fun pins s σ H o i v ov iv u Q I r1 r2 r3 z => h pins s σ H o i v ov iv u Q I r1 r2 r3 (q _ _ _ _ _ z)
theorem pset_or {t t' : TSet} (h : PSet X t) (h' : PSet X t') : PSet X (fun o i v H Q => t o i v H Q ∨ t' o i v H Q) := fun pins s σ H o i v ov iv u Q I r1 r2 r3 z => z.elim (h pins s σ H o i v ov iv u Q I r1 r2 r3) (h' pins s σ H o i v ov iv u Q I r1 r2 r3)
theorem set_dict (hu : X.A.units + 200 < cLine) : PSet X (fun o i v H Q => ∃ a H', o = .ref a ∧ DPut H a i v H' ∧ Q H') := by
  intro pins s σ H o i v ov iv u Q I r1 r2 r3 h
  obtain ⟨a, H', rfl, g, q⟩ := h
  obtain rfl : ov = Value.ref a := r1
  exact d_setItem (by omega) I g r2 r3 fun s4 I4 => ⟨H', I4, q⟩
theorem put_map {κ : Type} [DecidableEq κ] {K : PySem.W.Frag} {w : Wd} {v : V} {d : D} (k : κ) (r : RD K w v d) : ∀ {kvs : List (κ × V)} {l : List (κ × D)}, Paired (fun (p : κ × V) (q : κ × D) => p.1 = q.1 ∧ RD K w p.2 q.2) kvs l →
    Paired (fun (p : κ × V) (q : κ × D) => p.1 = q.1 ∧ RD K w p.2 q.2) (kvs.map fun kv => if kv.1 = k then (kv.1, v) else kv) (l.map fun kv => if kv.1 = k then (kv.1, d) else kv)
  | _, _, .nil => .nil
  | (k1, v1) :: kvs, (k2, d2) :: l, .cons ⟨e, q⟩ t => by
    have e' : k1 = k2 := e
    subst e'
    refine .cons ?_ (put_map k r t)
    by_cases hk : k1 = k
    · simp only [hk, if_true]
      exact ⟨trivial, r⟩
    · simp only [hk, if_false]
      exact ⟨trivial, q⟩
theorem put_rel {κ : Type} [DecidableEq κ] {K : PySem.W.Frag} {w : Wd} {v : V} {d : D} (k : κ) (r : RD K w v d) {kvs : List (κ × V)} {l : List (κ × D)} (h : Paired (fun (p : κ × V) (q : κ × D) => p.1 = q.1 ∧ RD K w p.2 q.2) kvs l) :
    Paired (fun (p : κ × V) (q : κ × D) => p.1 = q.1 ∧ RD K w p.2 q.2) (putK kvs k v) (putD l k d) := by
  have hany : (kvs.any fun kv => decide (kv.1 = k)) = l.any fun kv => decide (kv.1 = k) := by
    induction h with
    | nil => rfl
    | cons h _ ih => rw [List.any_cons, List.any_cons, h.1, ih]
  unfold putK putD
  rw [hany]
  split
  · exact put_map k r h
  · exact Paired.app h (.cons ⟨rfl, r⟩ .nil)
theorem put_refs {κ : Type} [DecidableEq κ] {l : List (κ × D)} {k : κ} {d : D} {q : κ × D} (h : q ∈ putD l k d) : q.2 = d ∨ q ∈ l := by
  unfold putD at h
  split at h
  · obtain ⟨p, hp, rfl⟩ := List.mem_map.mp h
    split
    · exact .inl rfl
    · exact .inr hp
  · rcases List.mem_append.mp h with h | h
    · exact .inr h
    · rw [List.mem_singleton.mp h]; exact .inl rfl
theorem set_D (hu : X.A.units + 200 < cLine) : PSet X (rPut X.K) := pset_imp (pset_or set_list (set_dict hu)) fun o i v H Q h => by
  obtain ⟨w, ms, st, od, id, vd, s, r1, r2, r3, st', hf, k⟩ := h
  unfold fPut at hf
  split at hf
  · rename_i i0
    obtain ⟨a, ea, rfl⟩ := r1
    split at hf
    · rename_i ds hi
      split at hf
      · split at hf
        · rename_i n _ j hj
          split at hf
          · rename_i ok
            cases hf
            cases r2
            obtain ⟨_, _, ho, q, ro⟩ := s.at i0 _ a hi ea
            cases ho with
            | lst vs =>
              have hl := Paired.length ro
              refine .inl ⟨a, vs, n, j, rfl, rfl, q, by rw [hl]; exact hj, k _ (s.setO hi rfl (fun z q => nomatch q) ea ?_ ?_)⟩
              · exact Paired.set' ro j r3
              · intro m hm him jj hjj
                obtain ⟨d, hd, ed⟩ := List.mem_filterMap.mp hjj
                rcases List.mem_or_eq_of_mem_set hd with hd | hd
                · exact s.mrk m hm i0 _ hi him jj (mem_refs hd ed)
                · subst hd
                  cases d <;> first | (cases ed; done) | (cases ed; exact okRef_ok ok rfl hm him)
            | _ => exact False.elim ro
          · cases hf
        · cases hf
      · cases hf
    · rename_i l hi
      split at hf
      · split at hf
        · rename_i d _ key hk
          split at hf
          · rename_i ok
            cases hf
            obtain ⟨_, _, ho, q, ro⟩ := s.at i0 _ a hi ea
            cases ho with
            | dK kvs =>
              rw [keyOf_some hk] at r2
              have ei := Rp.key r2
              subst ei
              refine .inr ⟨a, _, rfl, DPut.k q (by rw [Paired.length ro]; exact ok.1), k _ (s.setO hi rfl (fun z q => nomatch q) ea (put_rel key r3 ro) ?_)⟩
              intro m hm him jj hjj
              obtain ⟨d', hd, ed⟩ := List.mem_filterMap.mp hjj
              rcases put_refs hd with hd | hd
              · obtain ⟨k', d'⟩ := d'
                simp only at hd
                subst hd
                cases d' <;> first | (cases ed; done) | (cases ed; exact okRef_ok ok.2 rfl hm him)
              · exact s.mrk m hm i0 _ hi him jj (mem_refs hd ed)
            | _ => exact False.elim ro
          · cases hf
        · cases hf
      · cases hf
    · rename_i l hi
      split at hf
      · split at hf
        · rename_i ks _ key hk
          split at hf
          · rename_i ok
            cases hf
            obtain ⟨_, _, ho, q, ro⟩ := s.at i0 _ a hi ea
            cases ho with
            | dT kvs =>
              rw [keysOf_some hk] at r2
              cases r2 with
              | @tup b vs _ hb rb =>
                rw [RpA.keys rb] at hb
                refine .inr ⟨a, _, rfl, DPut.t q (s.nd hb rfl) (by rw [Paired.length ro]; exact ok.1), k _ (s.setO hi rfl (fun z q => nomatch q) ea (put_rel key r3 ro) ?_)⟩
                intro m hm him jj hjj
                obtain ⟨d', hd, ed⟩ := List.mem_filterMap.mp hjj
                rcases put_refs hd with hd | hd
                · obtain ⟨k', d'⟩ := d'
                  simp only at hd
                  subst hd
                  cases d' <;> first | (cases ed; done) | (cases ed; exact okRef_ok ok.2 rfl hm him)
                · exact s.mrk m hm i0 _ hi him jj (mem_refs hd ed)
            | _ => exact False.elim ro
          · cases hf
        · cases hf
      · cases hf
    · cases hf
  · cases hf
/-- o[k] = x, a statement -/
def mPut (m mo mk : M D) : MS := sB m fun a => sB mo fun o => sB mk fun k => sB (fun ms _ st => fPut o k a ms st) fun _ => mNext
theorem RS_ok {K : PySem.W.Frag} {ms : List Nat} {w : Wd} {env : En} {r : R Unit} {D : Ends} (h : PostS K W ms w (r.toS fun _ st' => mNext ms env st') D) (hx : ∀ c st, r ≠ .ex c st) : ∃ st', r = .ok () st' ∧ PostS K W ms w (.nx env st') D := by
  cases r with
  | ok a st => exact ⟨st, rfl, h⟩
  | ex c st => exact absurd rfl (hx c st)
  | bad => exact False.elim h
theorem fPut_noex (o k a : D) (ms : List Nat) (st : List O) (c : Str) (st' : List O) : fPut o k a ms st ≠ .ex c st' := by
  unfold fPut
  intro h
  repeat' (split at h <;> try (first | (cases h; done) | skip))
def notComp : Expr → Bool
  | .ListComp .. => false
  | .SetComp .. => false
  | .DictComp .. => false
  | _ => true
theorem swaps_of {e : Expr} (h : notComp e = true) (t : Option Expr) (l : Nat) (env : Env) : swapsWith e t l env = pure false := by
  cases e <;> first | rfl | cases h
theorem swaps_sub {e o i : Expr} {p : Pos} (l : Nat) (env : Env) : swapsWith e (some (.Subscript o i p)) l env = pure false := by
  cases e <;> rfl
theorem swaps_tup {e : Expr} {ts : List Expr} {k : Nat} {p : Pos} (l : Nat) (env : Env) : swapsWith e (some (.Tuple ts k p)) l env = pure false := by
  cases e <;> rfl
def isSlice : Expr → Bool
  | .Slice .. => true
  | _ => false
theorem plain_ix {e : Expr} (h : isSlice e = false) : PlainIx e := by
  intro o i
  cases e <;> first | rfl | cases h
theorem ss_put {o i : Expr} {p' : Pos} {m mo mk : M D} (hu : X.A.units + 200 < cLine) (he : PE X e (tE X.K W m)) (ho : PE X o (tE X.K W mo)) (hi : PE X i (tE X.K W mk)) (hsl : isSlice i = false) :
    PS X (.Assign [.Subscript o i p'] e pos) (tS X.K W (mPut m mo mk)) := by
  have ha : ∀ v, assign (.Subscript o i p') X.env v = (do
      let ov ← holding [v] (eval o X.env)
      let iv ← holding [v, ov] (eval i X.env)
      standAt p'
      holding [v, ov, iv] (setItem ov iv v)
      release [v, ov, iv] []) := by
    intro v
    cases i <;> first | rfl | cases hsl
  refine ps_imp (ps_asg he (pg_sub ho hi (set_D hu) ha) (swaps_sub (e := e) (o := o) (i := i) (p := p') pos.line X.env) (by cases e <;> rfl) (by rfl)) fun D σ H h => ?_
  refine seqS h fun w ms env st H a x s en r p => ?_
  refine ⟨w, ms, env, st, s, en, posts_bind p fun o st1 w1 ov H1 l1 s1 r1 p1 => ?_⟩
  refine ⟨w1, ms, env, st1, s1, en.mono l1, posts_bind p1 fun k st2 w2 kv H2 l2 s2 r2 p2 => ?_⟩
  obtain ⟨st3, e3, p3⟩ := RS_ok p2 (fPut_noex o k a ms st2)
  exact ⟨w2, ms, st2, o, k, a, s2, r1.mono l2, r2, r.mono (l1.trans l2), st3, e3, fun H3 s3 => p3 w2 σ H3 (Wd.le.refl _) s3 (en.mono (l1.trans l2))⟩

/-! ### while -/
def mWh (c : M Bool) (b : MS) : Nat → MS
  | 0 => fun _ _ _ => .bad
  | n + 1 => sB c fun k => match k with
    | true => fun ms env st => match b ms env st with
      | .nx env' st' => mWh c b n ms env' st'
      | .ct env' st' => mWh c b n ms env' st'
      | .bk env' st' => .nx env' st'
      | r => r
    | false => mNext
theorem ss_while {c : Expr} {body : List Stmt} {mc : M Bool} {b : MS} (n : Nat) (hp : PassesOwn (model X.prog X.w) X.A X.env X.xe) (hc : PT X c (tT X.K W mc)) (hb : PSs X body (tS X.K W b)) : PS X (.While c body [] pos) (tS X.K W (mWh mc b n)) := by
  refine ps_imp (ps_while hp hc hb) fun D σ H h => ?_
  refine ⟨fun n σ H => tS X.K W (mWh mc b n) D σ H, ⟨n, h⟩, ?_⟩
  intro m σ H h
  cases m with
  | zero => obtain ⟨_, _, _, _, _, _, p⟩ := h; exact False.elim p
  | succ m =>
    refine seqS h fun w ms env st H k x s en r p => ?_
    subst r
    cases x with
    | false => rw [if_neg Bool.false_ne_true]; exact p w σ H (Wd.le.refl w) s en
    | true =>
      rw [if_pos rfl]
      refine ⟨fun σ' H' => tS X.K W (mWh mc b m) D σ' H', fun σ' H' q => ⟨m, Nat.lt_succ_self m, q⟩, w, ms, env, st, s, en, ?_⟩
      have p' : PostS X.K W ms w (match b ms env st with
        | .nx env' st' => mWh mc b m ms env' st'
        | .ct env' st' => mWh mc b m ms env' st'
        | .bk env' st' => .nx env' st'
        | r => r) D := p
      revert p'
      cases b ms env st with
      | nx env1 st1 => exact fun p' w' σ' H' l s' e' => ⟨w', ms, env1, st1, s', e', PostS.mono l p'⟩
      | ct env1 st1 => exact fun p' w' σ' H' l s' e' => ⟨w', ms, env1, st1, s', e', PostS.mono l p'⟩
      | bk env1 st1 => exact fun z => z
      | rt d st1 => exact fun z => z
      | ex c st1 => exact fun z => z
      | bad => exact fun z => z

/-! ### for -/
def mForL (t : Tg) (b : MS) : List D → MS
  | [] => mNext
  | d :: ds => fun ms env st => match asg t d env with
    | none => .bad
    | some env1 => match b ms env1 st with
      | .nx env' st' => mForL t b ds ms env' st'
      | .ct env' st' => mForL t b ds ms env' st'
      | .bk env' st' => .nx env' st'
      | r => r
def mFor (it : M (List D)) (t : Tg) (b : MS) : MS := sB it fun ds => mForL t b ds
theorem loop_core {t : Tg} {b : MS} {E : Ends} {σ : St} {H' : Hp} {w' : Wd} {ms : List Nat} {env : En} {st1 : List O} {ds : List D} {J : It} {I0 : Wd → Prop} (s' : RSt X.K ms w' st1 H') (en : REn X.K w' σ env) (i0 : I0 w') (io : ItOk X.K I0 J ds) (p' : PostS X.K W ms w' (mForL t b ds ms env st1) E) :
    ∃ Wv : Nat → Nat → St → Hp → Prop, (∃ m, Wv 0 m σ H') ∧ ∀ i m σ H, Wv i m σ H →
      (J.stop i H ∧ E.nx σ H) ∨ (J.go i H ∧ ∃ N : St → Hp → Prop, (∀ σ' H', N σ' H' → ∃ m', m' < m ∧ Wv (i + 1) m' σ' H') ∧ ∀ x H', J.yld i H x H' → tG X.K t x σ H' fun σ2 H2 => tS X.K W b { E with nx := N, ct := N, bk := E.nx } σ2 H2) := by
    refine ⟨fun i m σ Hh => ∃ w2 st2 env2, m = ds.length - i ∧ i ≤ ds.length ∧ w'.le w2 ∧ RSt X.K ms w2 st2 Hh ∧ REn X.K w2 σ env2 ∧ PostS X.K W ms w2 (mForL t b (ds.drop i) ms env2 st2) E,
      ⟨ds.length, w', st1, env, rfl, Nat.zero_le _, Wd.le.refl _, s', en, p'⟩, ?_⟩
    rintro i m σ2 Hh ⟨w2, st2, env2, rfl, hi, l2, s2, en2, p2⟩
    have mk : I0 w2 := io.mono w' _ l2.f l2.r (fun x o e => by rw [l2.g]; exact e) i0
    by_cases hlt : i < ds.length
    · refine .inr ?_
      obtain ⟨d, hd⟩ : ∃ d, ds[i]? = some d := ⟨_, List.getElem?_eq_getElem hlt⟩
      have hdr : ds.drop i = d :: ds.drop (i + 1) := by
        rw [List.drop_eq_getElem_cons hlt]
        have := List.getElem?_eq_getElem hlt
        rw [this] at hd
        rw [Option.some.inj hd]
      rw [hdr] at p2
      obtain ⟨go, yl⟩ := io.go i d _ ms st2 Hh hd mk s2
      refine ⟨go, fun σ5 H5 => ∃ w2 st2 env2, ds.length - (i + 1) = ds.length - (i + 1) ∧ i + 1 ≤ ds.length ∧ w'.le w2 ∧ RSt X.K ms w2 st2 H5 ∧ REn X.K w2 σ5 env2 ∧ PostS X.K W ms w2 (mForL t b (ds.drop (i + 1)) ms env2 st2) E,
        fun σ5 H5 h5 => ⟨ds.length - (i + 1), by omega, h5⟩, fun x H3 hy => ?_⟩
      obtain ⟨w3, l3, s3, r3⟩ := yl x H3 hy
      have p3 := PostS.mono l3 p2
      rw [mForL] at p3
      cases ea : asg t d env2 with
      | none =>
        exfalso
        revert p3
        dsimp only
        rw [ea]
        exact fun z => z
      | some env1 =>
        dsimp only at p3
        rw [ea] at p3
        refine ⟨w3, ms, env2, st2, d, s3, en2.mono l3, r3, env1, ea, fun σ4 en4 _ => ⟨w3, ms, env1, st2, s3, en4, ?_⟩⟩
        revert p3
        dsimp only
        cases b ms env1 st2 with
        | nx env5 st5 => exact fun p' w5 σ5 H5 l5 s5 e5 => ⟨w5, st5, env5, rfl, hlt, (l2.trans l3).trans l5, s5, e5, PostS.mono l5 p'⟩
        | ct env5 st5 => exact fun p' w5 σ5 H5 l5 s5 e5 => ⟨w5, st5, env5, rfl, hlt, (l2.trans l3).trans l5, s5, e5, PostS.mono l5 p'⟩
        | bk env5 st5 => exact fun z => z
        | rt d5 st5 => exact fun z => z
        | ex c5 st5 => exact fun z => z
        | bad => exact fun z => z
    · refine .inl ?_
      have e : i = ds.length := by omega
      subst e
      rw [List.drop_length] at p2
      exact ⟨io.stop _ ms st2 Hh mk s2, p2 w2 σ2 Hh (Wd.le.refl _) s2 en2⟩
theorem for_ok {it : M (List D)} {t : Tg} {b : MS} {D : Ends} {σ : St} {H : Hp} (h : tS X.K W (mFor it t b) D σ H) : tFor (tI X.K W it) (tG X.K t) (tS X.K W b) D σ H := by
  obtain ⟨w, ms, env, st, s, en, p⟩ := h
  refine ⟨w, ms, env, st, s, en, ?_⟩
  have p' : PostS X.K W ms w ((it ms env st).toS fun ds st1 => mForL t b ds ms env st1) D := p
  clear p
  revert p'
  cases it ms env st with
  | bad => exact fun z => z
  | ex c1 st1 => exact fun z w' H' l s' => z w' σ H' l s'
  | ok ds st1 => exact fun p' w' H' J I0 l' s' i0 io => loop_core s' (en.mono l') i0 io (PostS.mono l' p')
def notSet : Expr → Bool
  | .Set .. => false
  | _ => true
theorem folded_of {e : Expr} (h : notSet e = true) (env : Env) : ∀ x, foldedSetIterable e env x = pure x := by
  intro x
  cases e <;> first | rfl | cases h
theorem ss_for {tg iter : Expr} {body : List Stmt} {it : M (List D)} {t : Tg} {b : MS} (hp : PassesOwn (model X.prog X.w) X.A X.env X.xe) (hc : X.calm = true) (hi : PI X tg iter (tI X.K W it)) (hg : PG X tg (tG X.K t)) (hb : PSs X body (tS X.K W b)) (hs : notSet iter = true) :
    PS X (.For tg iter body [] pos) (tS X.K W (mFor it t b)) := ps_imp (ps_for hp hc hi hg hb (folded_of hs _)) fun D σ H h => for_ok h

/-! ### the store is cut behind a statement -/
def fgt (n : Nat) (o : Option D) : Option D := match o with
  | some d => if d.under n = true then some d else none
  | none => none
def mCut (b : MS) : MS := fun ms env st => match b (st.length :: ms) env st with
  | .nx env' st' => .nx (env'.map (fgt st.length)) (st'.take st.length)
  | .bk env' st' => .bk (env'.map (fgt st.length)) (st'.take st.length)
  | .ct env' st' => .ct (env'.map (fgt st.length)) (st'.take st.length)
  | .rt d st' => if d.under st.length = true then .rt d (st'.take st.length) else .bad
  | .ex c st' => .ex c (st'.take st.length)
  | .bad => .bad
theorem REn.cut {K : PySem.W.Frag} {w : Wd} {σ : St} {env : En} {n : Nat} (e : REn K w σ env) : REn K (w.cut n) σ (env.map (fgt n)) := by
  refine ⟨by rw [List.length_map]; exact e.len, fun i d h => ?_⟩
  rw [List.getElem?_map] at h
  cases q : env[i]? with
  | none => rw [q] at h; cases h
  | some o =>
    rw [q] at h
    cases o with
    | none => cases h
    | some d' =>
      have h' : (if d'.under n = true then some d' else none) = some d := Option.some.inj h
      by_cases hu : d'.under n = true
      · rw [if_pos hu] at h'
        cases h'
        obtain ⟨v, q2, r⟩ := e.get i d q
        exact ⟨v, q2, r.cut hu⟩
      · rw [if_neg hu] at h'; cases h'
theorem cut_ok {b : MS} {D : Ends} {σ : St} {H : Hp} (h : tS X.K W (mCut b) D σ H) : tS X.K W b D σ H := by
  obtain ⟨w, ms, env, st, s, en, p⟩ := h
  refine ⟨w, st.length :: ms, env, st, s.mark s.refs, en, ?_⟩
  have hms := s.mle
  have hl := s.len
  unfold mCut at p
  revert p
  cases b (st.length :: ms) env st with
  | nx env1 st1 => exact fun p w' σ' H' l s' e' => p (w'.cut st.length) σ' H' (le_cut l hl) (s'.cut hms) e'.cut
  | bk env1 st1 => exact fun p w' σ' H' l s' e' => p (w'.cut st.length) σ' H' (le_cut l hl) (s'.cut hms) e'.cut
  | ct env1 st1 => exact fun p w' σ' H' l s' e' => p (w'.cut st.length) σ' H' (le_cut l hl) (s'.cut hms) e'.cut
  | rt d st1 =>
    intro p w' v H' l s' r'
    by_cases hu : d.under st.length = true
    · have p' : PostS X.K W ms w (.rt d (st1.take st.length)) D := by
        have p2 : PostS X.K W ms w (if d.under st.length = true then .rt d (st1.take st.length) else .bad) D := p
        rw [if_pos hu] at p2; exact p2
      exact p' (w'.cut st.length) v H' (le_cut l hl) (s'.cut hms) (r'.cut hu)
    · have p2 : PostS X.K W ms w (if d.under st.length = true then .rt d (st1.take st.length) else .bad) D := p
      rw [if_neg hu] at p2
      exact False.elim p2
  | ex c st1 => exact fun p w' σ' H' l s' => p (w'.cut st.length) σ' H' (le_cut l hl) (s'.cut hms)
  | bad => exact fun z => z
theorem ss_cut {b : MS} (h : PSs X rest (tS X.K W b)) : PSs X rest (tS X.K W (mCut b)) := pss_imp h fun D σ H q => cut_ok q
theorem ss_cut1 {b : MS} (h : PS X st (tS X.K W b)) : PS X st (tS X.K W (mCut b)) := ps_imp h fun D σ H q => cut_ok q

/-! ### a name's thing is taken as it is from now on -/
def mFrzV (i : Nat) : MS := fun _ env st => match env[i]? with
  | some (some d) => match frz 3 d st with
    | .ok p st' => .nx (env.set i (some (.p p))) st'
    | _ => .bad
  | _ => .bad
theorem frzV_ok {i : Nat} {m : MS} {D : Ends} {σ : St} {H : Hp} (h : tS X.K W (mSeq (mFrzV i) m) D σ H) : tS X.K W m D σ H := by
  obtain ⟨w, ms, env, st, s, en, p⟩ := h
  have p' : PostS X.K W ms w ((mFrzV i ms env st).then fun env' st' => m ms env' st') D := p
  clear p
  unfold mFrzV at p'
  split at p'
  · rename_i d hd
    split at p'
    · rename_i q st1 e1
      obtain ⟨v, ev, rv⟩ := en.get i d hd
      obtain ⟨w1, l1, s1, r1⟩ := frz_ok 3 w st H v d q st1 s rv e1
      have en1 := en.mono l1
      have en2 : REn X.K w1 σ (env.set i (some (.p q))) := by
        have z := en1.set (v := v) (d := .p q) i r1
        have es : σ.set i (some v) = σ := by
          have hl : i < σ.length := (List.getElem?_eq_some_iff.mp ev).1
          apply List.ext_getElem?
          intro j
          by_cases hj : i = j
          · subst hj; rw [List.getElem?_set_self hl, ev]
          · rw [List.getElem?_set_ne hj]
        rw [es] at z
        exact z
      exact ⟨w1, ms, _, st1, s1, en2, PostS.mono l1 p'⟩
    · exact False.elim p'
  · exact False.elim p'
theorem ss_frzV {i : Nat} {m : MS} (h : PS X st (tS X.K W m)) : PS X st (tS X.K W (mSeq (mFrzV i) m)) := ps_imp h fun D σ H q => frzV_ok q

/-! ### raise -/
def mRaise (c : Str) : MS := fun _ _ st => .ex c st
theorem ss_raise {x : Str} {C : Addr} {p p2 q : Pos} {j : Nat} {m : Str} (hc : X.calm = true) (tk : L2N.Takes X (WXof X.mg W)) (ex : PySem.W.excIn X.K C [.type "ValueError", .type "Exception", .type "BaseException", .type "object"] "ValueError.__new__" = true)
    (gC : X.mg x = some (.ref C)) (kC : PySem.W.keepIn X.K (.ref C) = true) (r : Raises X (.ref C)) (hg : Gl X x) (hdb : (x == ("__debug__" : Str)) = false) :
    PS X (.Raise (some (.Call (.Name x p) [.Constant (.str m) j p2] [] q)) none pos) (tS X.K W (mRaise x)) :=
  ps_imp (L2N.ps_raise hc tk (L2N.pmk_own PySem.F.excBase_ValueError ex gC kC r hg hdb)) fun D σ H h => by
    obtain ⟨w, ms, env, st, s, en, p⟩ := h
    exact ⟨rfl, x, gC, p w σ H (Wd.le.refl w) s⟩
end
end Fk

namespace Fk
open PySem PySem.Spec L2
set_option autoImplicit false

/-! ### a dict is walked: locked meanwhile -/
section
variable {K : PySem.W.Frag} {ms : List Nat} {w : Wd} {st : List O} {H : Hp} {a : Addr} {od : Obj} {u : HO}
/-- a frozen dict is locked -/
theorem RSt.lockF (s : RSt K ms w st H) (hf : w.F a = some u) (hd : isD u = true) (hh : H a = some u) : RSt K ms (w.pin a (.frz od u)) st (upd H a (.frz od u)) := by
  have gn : ∀ o, w.G a = some o → False := fun o e => by
    have h1 := (s.gz a o e).1
    obtain ⟨_, od', h2⟩ := (s.gz a o e).2 u hf
    rw [hh] at h1
    cases h1
    cases u <;> first | (cases hd; done) | cases h2
  have gx : ∀ x, x ≠ a → (w.pin a (.frz od u)).G x = w.G x := fun x hx => by show upd w.G a _ x = _; rw [upd_ne hx]
  refine ⟨s.len, fun x o e => ?_, fun x o e => ?_, fun i o b e q => ?_, s.inj, s.mrk, s.mle, (s.tbl.upd fun o e => by rw [hh] at e; cases e; exact s.tbl.nt a u hf).ws s.tbl.nt (nx_upd s.tbl.ng rfl)⟩
  · by_cases hx : x = a
    · subst hx
      have e' : w.F x = some o := e
      rw [hf] at e'
      cases e'
      exact .inr ⟨hd, od, upd_same⟩
    · rw [upd_ne hx]
      rcases s.fz x o e with z | ⟨z, od', g⟩
      · exact .inl z
      · exact .inr ⟨z, od', by rw [gx x hx]; exact g⟩
  · by_cases hx : x = a
    · subst hx
      have e' : upd w.G x (.frz od u) x = some o := e
      rw [upd_same] at e'
      cases e'
      refine ⟨upd_same, fun v z => ?_⟩
      have z' : w.F x = some v := z
      rw [hf] at z'
      cases z'
      exact ⟨hd, od, rfl⟩
    · rw [gx x hx] at e
      exact ⟨by rw [upd_ne hx]; exact (s.gz x o e).1, (s.gz x o e).2⟩
  · have z := s.at i o b e q
    by_cases ha : o.alive = true
    · have hne : b ≠ a := fun r => by
        subst r
        cases o with
        | dead => cases ha
        | lk o => obtain ⟨_, _, f, _⟩ := z; rw [hf] at f; cases f
        | lst l => obtain ⟨f, _⟩ := z; rw [hf] at f; cases f
        | dK l => obtain ⟨f, _⟩ := z; rw [hf] at f; cases f
        | dT l => obtain ⟨f, _⟩ := z; rw [hf] at f; cases f
      cases o with
      | dead => cases ha
      | lk o => obtain ⟨od', u', f, g, r⟩ := z; exact ⟨od', u', f, by rw [gx b hne]; exact g, RO.pin rfl rfl r⟩
      | lst l => obtain ⟨f, g, ho, t, r⟩ := z; exact ⟨f, by rw [gx b hne]; exact g, ho, by rw [upd_ne hne]; exact t, RO.pin (w := w) rfl rfl r⟩
      | dK l => obtain ⟨f, g, ho, t, r⟩ := z; exact ⟨f, by rw [gx b hne]; exact g, ho, by rw [upd_ne hne]; exact t, RO.pin (w := w) rfl rfl r⟩
      | dT l => obtain ⟨f, g, ho, t, r⟩ := z; exact ⟨f, by rw [gx b hne]; exact g, ho, by rw [upd_ne hne]; exact t, RO.pin (w := w) rfl rfl r⟩
    · cases o <;> first | exact True.intro | exact absurd rfl ha
/-- a dict of the store is locked -/
theorem RSt.lockO (s : RSt K ms w st H) {j : Nat} {o : O} (hj : st[j]? = some o) (hl : ∀ z, o ≠ .lk z) (hal : o.alive = true) (q : w.ρ[j]? = some a) (hh : H a = some u) (ro : RO K w u o) : RSt K ms (w.pin a (.frz od u)) (st.set j (.lk o)) (upd H a (.frz od u)) := by
  have z0 := s.at j o a hj q
  have fg : w.F a = none ∧ w.G a = none := by
    cases o with
    | dead => cases hal
    | lk z => exact absurd rfl (hl z)
    | lst z => exact ⟨z0.1, z0.2.1⟩
    | dK z => exact ⟨z0.1, z0.2.1⟩
    | dT z => exact ⟨z0.1, z0.2.1⟩
  obtain ⟨fn, gn⟩ := fg
  have hjl : j < st.length := (List.getElem?_eq_some_iff.mp hj).1
  have gx : ∀ x, x ≠ a → (w.pin a (.frz od u)).G x = w.G x := fun x hx => by show upd w.G a _ x = _; rw [upd_ne hx]
  have spl : ∀ (i : Nat) (o' : O), (st.set j (.lk o))[i]? = some o' → (i = j ∧ o' = .lk o) ∨ (i ≠ j ∧ st[i]? = some o') := fun i o' e => by
    by_cases hi : i = j
    · subst hi
      rw [List.getElem?_set_self hjl] at e
      exact .inl ⟨rfl, (Option.some.inj e).symm⟩
    · rw [List.getElem?_set_ne (Ne.symm hi)] at e
      exact .inr ⟨hi, e⟩
  refine ⟨by rw [List.length_set]; exact s.len, fun x o' e => ?_, fun x o' e => ?_, fun i o' b e q' => ?_, fun i k o1 o2 b e1 e2 l1 l2 q1 q2 => ?_, fun m hm i o' e hi => ?_, fun m hm => by rw [List.length_set]; exact s.mle m hm, (s.tbl.upd fun o e => by rw [hh] at e; cases e; exact ro.isX).ws s.tbl.nt (nx_upd s.tbl.ng rfl)⟩
  · have hx : x ≠ a := fun z => by
      subst z
      have e' : w.F x = some o' := e
      rw [fn] at e'; cases e'
    rw [upd_ne hx]
    rcases s.fz x o' e with z | ⟨z, od', g⟩
    · exact .inl z
    · exact .inr ⟨z, od', by rw [gx x hx]; exact g⟩
  · by_cases hx : x = a
    · subst hx
      have e' : upd w.G x (.frz od u) x = some o' := e
      rw [upd_same] at e'
      cases e'
      exact ⟨upd_same, fun v z => by
        have z' : w.F x = some v := z
        rw [fn] at z'; cases z'⟩
    · rw [gx x hx] at e
      exact ⟨by rw [upd_ne hx]; exact (s.gz x o' e).1, (s.gz x o' e).2⟩
  · have q0 : w.ρ[i]? = some b := q'
    rcases spl i o' e with ⟨rfl, rfl⟩ | ⟨hi, e'⟩
    · rw [q] at q0
      cases q0
      exact ⟨od, u, fn, upd_same, RO.pin rfl rfl ro⟩
    · have z := s.at i o' b e' q0
      by_cases ha : o'.alive = true
      · have hne : b ≠ a := fun r => by
          subst r
          exact hi (s.inj i j o' o b e' hj ha hal q0 q)
        cases o' with
        | dead => cases ha
        | lk o2 => obtain ⟨od', u', f, g, r⟩ := z; exact ⟨od', u', f, by rw [gx b hne]; exact g, RO.pin rfl rfl r⟩
        | lst l => obtain ⟨f, g, ho, t, r⟩ := z; exact ⟨f, by rw [gx b hne]; exact g, ho, by rw [upd_ne hne]; exact t, RO.pin (w := w) rfl rfl r⟩
        | dK l => obtain ⟨f, g, ho, t, r⟩ := z; exact ⟨f, by rw [gx b hne]; exact g, ho, by rw [upd_ne hne]; exact t, RO.pin (w := w) rfl rfl r⟩
        | dT l => obtain ⟨f, g, ho, t, r⟩ := z; exact ⟨f, by rw [gx b hne]; exact g, ho, by rw [upd_ne hne]; exact t, RO.pin (w := w) rfl rfl r⟩
      · cases o' <;> first | exact True.intro | exact absurd rfl ha
  · have al : ∀ (i : Nat) (o' : O), (st.set j (.lk o))[i]? = some o' → o'.alive = true → ∃ o'', st[i]? = some o'' ∧ o''.alive = true := fun i o' e l => by
      rcases spl i o' e with ⟨rfl, _⟩ | ⟨_, e'⟩
      · exact ⟨o, hj, hal⟩
      · exact ⟨o', e', l⟩
    obtain ⟨o1', e1', l1'⟩ := al i o1 e1 l1
    obtain ⟨o2', e2', l2'⟩ := al k o2 e2 l2
    exact s.inj i k o1' o2' b e1' e2' l1' l2' q1 q2
  · rcases spl i o' e with ⟨rfl, rfl⟩ | ⟨_, e'⟩
    · exact s.mrk m hm i o hj hi
    · exact s.mrk m hm i o' e' hi
/-- unlocked again: a frozen one -/
theorem RSt.unlockF {g : Hp} (s : RSt K ms w st H) (hw : w.G = upd g a (.frz od u)) (hg : g a = none) (hf : w.F a = some u) : H a = some (.frz od u) ∧ RSt K ms ⟨w.F, w.ρ, g⟩ st (upd H a u) := by
  have ga : w.G a = some (.frz od u) := by rw [hw]; exact upd_same
  obtain ⟨hH, hz⟩ := s.gz a _ ga
  obtain ⟨hd, _⟩ := hz u hf
  have gx : ∀ x, x ≠ a → w.G x = g x := fun x hx => by rw [hw, upd_ne hx]
  refine ⟨hH, s.len, fun x o e => ?_, fun x o e => ?_, fun i o b e q => ?_, s.inj, s.mrk, s.mle, (s.tbl.upd fun o e => by rw [hH] at e; cases e; rfl).ws s.tbl.nt fun x o e => by
    have hx : x ≠ a := fun z => by
      subst z
      have e' : g x = some o := e
      rw [hg] at e'; cases e'
    have e' : g x = some o := e
    rw [← gx x hx] at e'
    exact s.tbl.ng x o e'⟩
  · by_cases hx : x = a
    · subst hx
      have e' : w.F x = some o := e
      rw [hf] at e'
      cases e'
      exact .inl upd_same
    · rw [upd_ne hx]
      rcases s.fz x o e with z | ⟨z, od', g'⟩
      · exact .inl z
      · exact .inr ⟨z, od', by rw [gx x hx] at g'; exact g'⟩
  · have hx : x ≠ a := fun z => by
      subst z
      have e' : g x = some o := e
      rw [hg] at e'; cases e'
    have e' : g x = some o := e
    rw [← gx x hx] at e'
    exact ⟨by rw [upd_ne hx]; exact (s.gz x o e').1, (s.gz x o e').2⟩
  · have z := s.at i o b e q
    by_cases ha : o.alive = true
    · have hne : b ≠ a := fun r => by
        subst r
        cases o with
        | dead => cases ha
        | lk o => obtain ⟨_, _, f, _⟩ := z; rw [hf] at f; cases f
        | lst l => obtain ⟨f, _⟩ := z; rw [hf] at f; cases f
        | dK l => obtain ⟨f, _⟩ := z; rw [hf] at f; cases f
        | dT l => obtain ⟨f, _⟩ := z; rw [hf] at f; cases f
      cases o with
      | dead => cases ha
      | lk o => obtain ⟨od', u', f, g', r⟩ := z; exact ⟨od', u', f, by rw [gx b hne] at g'; exact g', RO.pin rfl rfl r⟩
      | lst l => obtain ⟨f, g', ho, t, r⟩ := z; exact ⟨f, by rw [gx b hne] at g'; exact g', ho, by rw [upd_ne hne]; exact t, RO.pin (w := w) rfl rfl r⟩
      | dK l => obtain ⟨f, g', ho, t, r⟩ := z; exact ⟨f, by rw [gx b hne] at g'; exact g', ho, by rw [upd_ne hne]; exact t, RO.pin (w := w) rfl rfl r⟩
      | dT l => obtain ⟨f, g', ho, t, r⟩ := z; exact ⟨f, by rw [gx b hne] at g'; exact g', ho, by rw [upd_ne hne]; exact t, RO.pin (w := w) rfl rfl r⟩
    · cases o <;> first | exact True.intro | exact absurd rfl ha
/-- .. one of the store -/
theorem RSt.unlockO {g : Hp} (s : RSt K ms w st H) (hw : w.G = upd g a (.frz od u)) (hg : g a = none) {j : Nat} {o : O} (hj : st[j]? = some (.lk o)) (q : w.ρ[j]? = some a) : H a = some (.frz od u) ∧ RSt K ms ⟨w.F, w.ρ, g⟩ (st.set j o) (upd H a u) := by
  have ga : w.G a = some (.frz od u) := by rw [hw]; exact upd_same
  obtain ⟨hH, _⟩ := s.gz a _ ga
  obtain ⟨od1, u1, fn, g1, ro⟩ := s.at j _ a hj q
  rw [ga] at g1
  cases g1
  have hjl : j < st.length := (List.getElem?_eq_some_iff.mp hj).1
  have gx : ∀ x, x ≠ a → w.G x = g x := fun x hx => by rw [hw, upd_ne hx]
  have spl : ∀ (i : Nat) (o' : O), (st.set j o)[i]? = some o' → (i = j ∧ o' = o) ∨ (i ≠ j ∧ st[i]? = some o') := fun i o' e => by
    by_cases hi : i = j
    · subst hi
      rw [List.getElem?_set_self hjl] at e
      exact .inl ⟨rfl, (Option.some.inj e).symm⟩
    · rw [List.getElem?_set_ne (Ne.symm hi)] at e
      exact .inr ⟨hi, e⟩
  refine ⟨hH, by rw [List.length_set]; exact s.len, fun x o' e => ?_, fun x o' e => ?_, fun i o' b e q' => ?_, fun i k o1 o2 b e1 e2 l1 l2 q1 q2 => ?_, fun m hm i o' e hi => ?_, fun m hm => by rw [List.length_set]; exact s.mle m hm, (s.tbl.upd fun o e => by rw [hH] at e; cases e; rfl).ws s.tbl.nt fun x o e => by
    have hx : x ≠ a := fun z => by
      subst z
      have e' : g x = some o := e
      rw [hg] at e'; cases e'
    have e' : g x = some o := e
    rw [← gx x hx] at e'
    exact s.tbl.ng x o e'⟩
  · have hx : x ≠ a := fun z => by
      subst z
      have e' : w.F x = some o' := e
      rw [fn] at e'; cases e'
    rw [upd_ne hx]
    rcases s.fz x o' e with z | ⟨z, od', g'⟩
    · exact .inl z
    · exact .inr ⟨z, od', by rw [gx x hx] at g'; exact g'⟩
  · have hx : x ≠ a := fun z => by
      subst z
      have e' : g x = some o' := e
      rw [hg] at e'; cases e'
    have e' : g x = some o' := e
    rw [← gx x hx] at e'
    exact ⟨by rw [upd_ne hx]; exact (s.gz x o' e').1, (s.gz x o' e').2⟩
  · have q0 : w.ρ[i]? = some b := q'
    rcases spl i o' e with ⟨rfl, rfl⟩ | ⟨hi, e'⟩
    · rw [q] at q0
      cases q0
      have ro' : RO K ⟨w.F, w.ρ, g⟩ u o' := RO.pin rfl rfl ro
      cases u <;> cases o' <;> first | exact False.elim ro | exact ⟨fn, hg, _, upd_same, ro'⟩
    · have z := s.at i o' b e' q0
      by_cases ha : o'.alive = true
      · have hne : b ≠ a := fun r => by
          subst r
          exact hi (s.inj i j o' _ b e' hj ha rfl q0 q)
        cases o' with
        | dead => cases ha
        | lk o2 => obtain ⟨od', u', f, g', r⟩ := z; exact ⟨od', u', f, by rw [gx b hne] at g'; exact g', RO.pin rfl rfl r⟩
        | lst l => obtain ⟨f, g', ho, t, r⟩ := z; exact ⟨f, by rw [gx b hne] at g'; exact g', ho, by rw [upd_ne hne]; exact t, RO.pin (w := w) rfl rfl r⟩
        | dK l => obtain ⟨f, g', ho, t, r⟩ := z; exact ⟨f, by rw [gx b hne] at g'; exact g', ho, by rw [upd_ne hne]; exact t, RO.pin (w := w) rfl rfl r⟩
        | dT l => obtain ⟨f, g', ho, t, r⟩ := z; exact ⟨f, by rw [gx b hne] at g'; exact g', ho, by rw [upd_ne hne]; exact t, RO.pin (w := w) rfl rfl r⟩
      · cases o' <;> first | exact True.intro | exact absurd rfl ha
  · have al : ∀ (i : Nat) (o' : O), (st.set j o)[i]? = some o' → o'.alive = true → ∃ o'', st[i]? = some o'' ∧ o''.alive = true := fun i o' e l => by
      rcases spl i o' e with ⟨rfl, _⟩ | ⟨_, e'⟩
      · exact ⟨_, hj, rfl⟩
      · exact ⟨o', e', l⟩
    obtain ⟨o1', e1', l1'⟩ := al i o1 e1 l1
    obtain ⟨o2', e2', l2'⟩ := al k o2 e2 l2
    exact s.inj i k o1' o2' b e1' e2' l1' l2' q1 q2
  · rcases spl i o' e with ⟨rfl, rfl⟩ | ⟨_, e'⟩
    · exact fun jj hjj => s.mrk m hm i (.lk o') hj hi jj hjj
    · exact s.mrk m hm i o' e' hi
end
/-- the keys -/
theorem it_keys {K : PySem.W.Frag} {d : Addr} {o : Obj} {kvs : List (Key × V)} : ItOk K (fun w => w.G d = some (.frz o (.dK kvs))) (Itk d o kvs) (kvs.map fun kv => .p (kP kv.1)) where
  mono := fun w w' _ _ g h => g _ _ h
  go := fun i x w ms st H e h s => by
    have hH := (s.gz _ _ h).1
    rw [List.getElem?_map] at e
    cases q : kvs[i]? with
    | none => rw [q] at e; cases e
    | some kv =>
      rw [q] at e
      cases e
      refine ⟨⟨hH, (List.getElem?_eq_some_iff.mp q).1⟩, fun x H' y => ?_⟩
      obtain ⟨rfl, k, v, h1, rfl⟩ := y
      rw [q] at h1
      cases h1
      refine ⟨w, Wd.le.refl w, s, ?_⟩
      show Rp K w.F (kV k) (kP k)
      cases k with
      | inl i => exact .int i
      | inr x => exact .str x
  stop := fun w ms st H h s => ⟨(s.gz _ _ h).1, by rw [List.length_map]; exact Nat.le_refl _⟩
section
variable {X : Cx} {W : Ex} {pos : Pos}
theorem ps_or {s : Stmt} {t t' : TS} (h : PS X s t) (h' : PS X s t') : PS X s (fun D σ H => t D σ H ∨ t' D σ H) := ⟨fun pins s σ H D I z => z.elim (h.run pins s σ H D I) (h'.run pins s σ H D I)⟩
theorem pe_or2 {s : Expr} {t t' : TE} (h : PE X s t) (h' : PE X s t') : PE X s (fun D σ H => t D σ H ∨ t' D σ H) := ⟨fun pins s σ H D I z => z.elim (h.run pins s σ H D I) (h'.run pins s σ H D I)⟩
def kD (ks : List Key) : List D := ks.map fun k => .p (kP k)
/-- unlock a place -/
def ulk (j : Nat) (st : List O) : Option (List O) := match st[j]? with
  | some (.lk o) => some (st.set j o)
  | _ => none
def ulS (j : Nat) (r : RS) : RS := match r with
  | .nx env st => match ulk j st with
    | some st' => .nx env st'
    | none => .bad
  | .rt d st => match ulk j st with
    | some st' => .rt d st'
    | none => .bad
  | .bk env st => match ulk j st with
    | some st' => .bk env st'
    | none => .bad
  | .ct env st => match ulk j st with
    | some st' => .ct env st'
    | none => .bad
  | _ => .bad
def noEx (r : RS) : RS := match r with
  | .ex _ _ => .bad
  | r => r
/-- for x in d -/
def mForK (i : Nat) (t : Tg) (b : MS) : MS := fun ms env st => match env[i]? with
  | some (some (.r j)) => match st[j]? with
    | some (.dK l) => ulS j (mForL t b (kD (l.map (·.1))) ms env (st.set j (.lk (.dK l))))
    | some (.lk (.dK l)) => mForL t b (kD (l.map (·.1))) ms env st
    | _ => .bad
  | some (some (.p (.dict l))) => match keysOf (l.map (·.1)) with
    | some ks => noEx (mForL t b (kD ks) ms env st)
    | none => .bad
  | _ => .bad
theorem kD_eq {kvs : List (Key × V)} : (kvs.map fun kv => D.p (kP kv.1)) = kD (kvs.map (·.1)) := by unfold kD; rw [List.map_map]; rfl
/-- the ends of a locked loop -/
abbrev lkE (d : Addr) (od : Obj) (u : HO) (E : Ends) : Ends := ⟨fun σ' H' => H' d = some (.frz od u) ∧ E.nx σ' (upd H' d u), fun v H' => H' d = some (.frz od u) ∧ E.rt v (upd H' d u), fun σ' H' => H' d = some (.frz od u) ∧ E.bk σ' (upd H' d u), fun σ' H' => H' d = some (.frz od u) ∧ E.ct σ' (upd H' d u)⟩
theorem REn.pin' {K : PySem.W.Frag} {w : Wd} {g : Hp} {σ : St} {env : En} (e : REn K w σ env) : REn K ⟨w.F, w.ρ, g⟩ σ env := ⟨e.len, fun i d h => let ⟨v, q, r⟩ := e.get i d h; ⟨v, q, by cases d <;> exact r⟩⟩
theorem RD.pin' {K : PySem.W.Frag} {w : Wd} {g : Hp} {v : V} {d : D} (r : RD K w v d) : RD K ⟨w.F, w.ρ, g⟩ v d := by cases d <;> exact r
theorem ulk_some {j : Nat} {st st' : List O} (h : ulk j st = some st') : ∃ o, st[j]? = some (.lk o) ∧ st' = st.set j o := by
  unfold ulk at h
  split at h
  · cases h; exact ⟨_, by assumption, rfl⟩
  · cases h
theorem ul_post {w : Wd} {ms : List Nat} {a : Addr} {od : Obj} {u : HO} {E : Ends} {r : RS} {j : Nat} (hg : w.G a = none) (q : w.ρ[j]? = some a) (p : PostS X.K W ms w (ulS j r) E) : PostS X.K W ms (w.pin a (.frz od u)) r (lkE a od u E) := by
  have key : ∀ {w' : Wd} {st : List O} {H' : Hp} {st' : List O}, (w.pin a (.frz od u)).le w' → RSt X.K ms w' st H' → ulk j st = some st' → w.le ⟨w'.F, w'.ρ, w.G⟩ ∧ H' a = some (.frz od u) ∧ RSt X.K ms ⟨w'.F, w'.ρ, w.G⟩ st' (upd H' a u) := fun {w' st H' st'} l s e => by
    obtain ⟨o, h1, rfl⟩ := ulk_some e
    obtain ⟨z1, z2⟩ := s.unlockO (g := w.G) (od := od) (u := u) l.g hg h1 (prefix_get l.r q)
    exact ⟨⟨l.f, l.r, rfl⟩, z1, z2⟩
  cases r with
  | nx env st =>
    intro w' σ' H' l s e
    unfold ulS at p
    dsimp only at p
    cases eu : ulk j st with
    | none => rw [eu] at p; exact False.elim p
    | some st' =>
      rw [eu] at p
      obtain ⟨l1, z1, z2⟩ := key l s eu
      exact ⟨z1, p _ σ' _ l1 z2 (REn.pin' e)⟩
  | bk env st =>
    intro w' σ' H' l s e
    unfold ulS at p
    dsimp only at p
    cases eu : ulk j st with
    | none => rw [eu] at p; exact False.elim p
    | some st' =>
      rw [eu] at p
      obtain ⟨l1, z1, z2⟩ := key l s eu
      exact ⟨z1, p _ σ' _ l1 z2 (REn.pin' e)⟩
  | ct env st =>
    intro w' σ' H' l s e
    unfold ulS at p
    dsimp only at p
    cases eu : ulk j st with
    | none => rw [eu] at p; exact False.elim p
    | some st' =>
      rw [eu] at p
      obtain ⟨l1, z1, z2⟩ := key l s eu
      exact ⟨z1, p _ σ' _ l1 z2 (REn.pin' e)⟩
  | rt d st =>
    intro w' v H' l s e
    unfold ulS at p
    dsimp only at p
    cases eu : ulk j st with
    | none => rw [eu] at p; exact False.elim p
    | some st' =>
      rw [eu] at p
      obtain ⟨l1, z1, z2⟩ := key l s eu
      exact ⟨z1, p _ v _ l1 z2 (RD.pin' e)⟩
  | ex c st => exact False.elim p
  | bad => exact False.elim p
theorem ul_postF {w : Wd} {ms : List Nat} {a : Addr} {od : Obj} {u : HO} {E : Ends} {r : RS} (hg : w.G a = none) (hf : w.F a = some u) (p : PostS X.K W ms w (noEx r) E) : PostS X.K W ms (w.pin a (.frz od u)) r (lkE a od u E) := by
  have key : ∀ {w' : Wd} {st : List O} {H' : Hp}, (w.pin a (.frz od u)).le w' → RSt X.K ms w' st H' → w.le ⟨w'.F, w'.ρ, w.G⟩ ∧ H' a = some (.frz od u) ∧ RSt X.K ms ⟨w'.F, w'.ρ, w.G⟩ st (upd H' a u) := fun {w' st H'} l s => by
    obtain ⟨z1, z2⟩ := s.unlockF (g := w.G) (od := od) (u := u) l.g hg (l.f _ _ hf)
    exact ⟨⟨l.f, l.r, rfl⟩, z1, z2⟩
  cases r with
  | nx env st => exact fun w' σ' H' l s e => let ⟨l1, z1, z2⟩ := key l s; ⟨z1, p _ σ' _ l1 z2 (REn.pin' e)⟩
  | bk env st => exact fun w' σ' H' l s e => let ⟨l1, z1, z2⟩ := key l s; ⟨z1, p _ σ' _ l1 z2 (REn.pin' e)⟩
  | ct env st => exact fun w' σ' H' l s e => let ⟨l1, z1, z2⟩ := key l s; ⟨z1, p _ σ' _ l1 z2 (REn.pin' e)⟩
  | rt d st => exact fun w' v H' l s e => let ⟨l1, z1, z2⟩ := key l s; ⟨z1, p _ v _ l1 z2 (RD.pin' e)⟩
  | ex c st => exact False.elim p
  | bad => exact False.elim p
theorem noEx_post {w : Wd} {ms : List Nat} {E : Ends} {r : RS} (p : PostS X.K W ms w (noEx r) E) : PostS X.K W ms w r E := by
  cases r <;> first | exact p | exact False.elim p
theorem ss_forK {i : Nat} {x : Str} {tg : Expr} {body : List Stmt} {t : Tg} {b : MS} {p1 : Pos} (hp : PassesOwn (model X.prog X.w) X.A X.env X.xe) (hc : X.calm = true) (hN : X.N[i]? = some x) (hv : Vis X.env.scope x) (hd : (x == ("__debug__" : Str)) = false) (hcd : (x == ("__classdict__" : Str)) = false)
    (hg : PG X tg (tG X.K t)) (hb : PSs X body (tS X.K W b)) : PS X (.For tg (.Name x p1) body [] pos) (tS X.K W (mForK i t b)) := by
  have base := ps_for (pos := pos) hp hc (pi_keys (tg := tg) (pe_var (pos := p1) hN hv hd hcd)) hg hb (folded_of (by rfl) _)
  refine ps_imp (ps_or (ps_lock base) base) fun E σ H h => ?_
  obtain ⟨w, ms, env, st, s, en, p⟩ := h
  unfold mForK at p
  split at p
  · rename_i j hj
    obtain ⟨v, ev, a, ea, rfl⟩ := en.get i _ hj
    split at p
    · rename_i l hl
      obtain ⟨fn, gn, ho, q, ro⟩ := s.at j _ a hl ea
      cases ho with
      | dK kvs =>
        refine .inl ⟨a, .dK kvs, q, True.intro, fun od => ?_⟩
        have s1 := s.lockO (od := od) hl (fun z q => nomatch q) rfl ea q ro
        refine ⟨.ref a, ev, a, od, rfl, .inl ⟨kvs, upd_same, ?_⟩⟩
        have pk := paired_keys ro
        refine loop_core s1 en.pin (I0 := fun w => w.G a = some (.frz od (.dK kvs))) upd_same it_keys ?_
        rw [kD_eq, pk]
        exact ul_post gn ea p
      | _ => exact False.elim ro
    · rename_i l hl
      obtain ⟨od, u, fn, g, ro⟩ := s.at j _ a hl ea
      cases u with
      | dK kvs =>
        refine .inr ⟨.ref a, ev, a, od, rfl, .inl ⟨kvs, (s.gz _ _ g).1, ?_⟩⟩
        have pk := paired_keys ro
        refine loop_core s en (I0 := fun w => w.G a = some (.frz od (.dK kvs))) g it_keys ?_
        rw [kD_eq, pk]
        exact p
      | _ => exact False.elim ro
    · exact False.elim p
  · rename_i l hl
    obtain ⟨v, ev, rv⟩ := en.get i _ hl
    split at p
    · rename_i ks hk
      cases rv with
      | @dK a kvs _ hf rk =>
        rw [rpK_keys rk] at hk
        cases hk
        rcases s.fz a _ hf with q | ⟨_, od, g⟩
        · by_cases gn : w.G a = none
          · refine .inl ⟨a, .dK kvs, q, True.intro, fun od => ?_⟩
            have s1 := s.lockF (od := od) hf rfl q
            refine ⟨.ref a, ev, a, od, rfl, .inl ⟨kvs, upd_same, ?_⟩⟩
            refine loop_core s1 en.pin (I0 := fun w => w.G a = some (.frz od (.dK kvs))) upd_same it_keys ?_
            rw [kD_eq]
            exact ul_postF gn hf p
          · obtain ⟨o, go⟩ := Option.ne_none_iff_exists'.mp gn
            have h1 := (s.gz a o go).1
            obtain ⟨_, od, h2⟩ := (s.gz a o go).2 _ hf
            rw [q] at h1
            cases h1
            cases h2
        · refine .inr ⟨.ref a, ev, a, od, rfl, .inl ⟨kvs, (s.gz _ _ g).1, ?_⟩⟩
          refine loop_core s en (I0 := fun w => w.G a = some (.frz od (.dK kvs))) g it_keys ?_
          rw [kD_eq]
          exact noEx_post p
      | @dT a kvs _ hf n rk =>
        cases rk with
        | nil => exact absurd rfl n
        | cons _ _ => cases hk
    · exact False.elim p
  · exact False.elim p
end
end Fk

namespace Fk
open PySem PySem.Spec L2
set_option autoImplicit false

/-! ### comprehensions over a dict that a name bears -/
def ulR {α : Type} (j : Nat) (r : R α) : R α := match r with
  | .ok a st => match ulk j st with
    | some st' => .ok a st'
    | none => .bad
  | _ => .bad
def mCompK (fl : Bool) (own : List Nat) (i : Nat) (t : Tg) (c : M Bool) (el : M D) : M D := fun ms env st => match env[i]? with
  | some (some (.r j)) => match st[j]? with
    | some (.dK l) => ulR j ((mCompL t c el ms (wipeE env own) (kD (l.map (·.1))) [] (st.set j (.lk (.dK l)))).bind fun acc st' => mkL fl acc st')
    | some (.lk (.dK l)) => (mCompL t c el ms (wipeE env own) (kD (l.map (·.1))) [] st).bind fun acc st' => mkL fl acc st'
    | _ => .bad
  | some (some (.p (.dict l))) => match keysOf (l.map (·.1)) with
    | some ks => ((mCompL t c el ms (wipeE env own) (kD ks) [] st).bind fun acc st' => mkL fl acc st').strict
    | none => .bad
  | _ => .bad
section
variable {X : Cx} {W : Ex}
theorem ulR_post {σ : St} {w : Wd} {ms : List Nat} {a : Addr} {od : Obj} {u : HO} {Q : VK} {r : R D} {j : Nat} (hg : w.G a = none) (q : w.ρ[j]? = some a) (p : Post (RD X.K) X.K W ms σ w (ulR j r) Q) :
    Post (RD X.K) X.K W ms σ (w.pin a (.frz od u)) r (fun v H' => H' a = some (.frz od u) ∧ Q v (upd H' a u)) := by
  have key : ∀ {w' : Wd} {st : List O} {H' : Hp} {st' : List O}, (w.pin a (.frz od u)).le w' → RSt X.K ms w' st H' → ulk j st = some st' → w.le ⟨w'.F, w'.ρ, w.G⟩ ∧ H' a = some (.frz od u) ∧ RSt X.K ms ⟨w'.F, w'.ρ, w.G⟩ st' (upd H' a u) := fun {w' st H' st'} l s e => by
    obtain ⟨o, h1, rfl⟩ := ulk_some e
    obtain ⟨z1, z2⟩ := s.unlockO (g := w.G) (od := od) (u := u) l.g hg h1 (prefix_get l.r q)
    exact ⟨⟨l.f, l.r, rfl⟩, z1, z2⟩
  cases r with
  | ok d st =>
    intro w' v H' l s e
    unfold ulR at p
    dsimp only at p
    cases eu : ulk j st with
    | none => rw [eu] at p; exact False.elim p
    | some st' =>
      rw [eu] at p
      obtain ⟨l1, z1, z2⟩ := key l s eu
      exact ⟨z1, p _ v _ l1 z2 (RD.pin' e)⟩
  | ex c st => exact False.elim p
  | bad => exact False.elim p
theorem ulR_postF {σ : St} {w : Wd} {ms : List Nat} {a : Addr} {od : Obj} {u : HO} {Q : VK} {r : R D} (hg : w.G a = none) (hf : w.F a = some u) (p : Post (RD X.K) X.K W ms σ w r.strict Q) :
    Post (RD X.K) X.K W ms σ (w.pin a (.frz od u)) r (fun v H' => H' a = some (.frz od u) ∧ Q v (upd H' a u)) := by
  cases r with
  | ok d st =>
    intro w' v H' l s e
    obtain ⟨z1, z2⟩ := s.unlockF (g := w.G) (od := od) (u := u) l.g hg (l.f _ _ hf)
    exact ⟨z1, p _ v _ (⟨l.f, l.r, rfl⟩ : w.le ⟨w'.F, w'.ρ, w.G⟩) z2 (RD.pin' e)⟩
  | ex c st => exact False.elim p
  | bad => exact False.elim p
theorem strict_post {σ : St} {w : Wd} {ms : List Nat} {Q : VK} {r : R D} (p : Post (RD X.K) X.K W ms σ w r.strict Q) : Post (RD X.K) X.K W ms σ w r Q := by
  cases r <;> first | exact p | exact False.elim p
theorem wipe_pin {w : Wd} {g : Hp} {σ : St} {env : En} (e : REn X.K w σ env) : REn X.K ⟨w.F, w.ρ, g⟩ σ env := e.pin'
theorem compK_ok {fl : Bool} {i : Nat} {t : Tg} {c : M Bool} {el : M D} {vs : List Nat} {σ : St} {H : Hp} {Q : VK} (ht : ∀ j ∈ t.slots, j ∈ vs) (h : tE X.K W (mCompK fl vs i t c el) σ H Q) :
    (fun σ H Q => tLockE (tLc (iKeys (tVar i)) (tG X.K t) (tT X.K W0 c) (tE X.K W0 el) vs) σ H Q ∨ tLc (iKeys (tVar i)) (tG X.K t) (tT X.K W0 c) (tE X.K W0 el) vs σ H Q) σ H Q := by
  obtain ⟨w, ms, env, st, s, en, p⟩ := h
  unfold mCompK at p
  split at p
  · rename_i j hj
    obtain ⟨v, ev, a, ea, rfl⟩ := en.get i _ hj
    split at p
    · rename_i l hl
      obtain ⟨fn, gn, ho, q, ro⟩ := s.at j _ a hl ea
      cases ho with
      | dK kvs =>
        refine .inl ⟨a, .dK kvs, q, True.intro, fun od => ?_⟩
        have s1 := s.lockO (od := od) hl (fun z q => nomatch q) rfl ea q ro
        refine ⟨.ref a, ev, a, od, rfl, .inl ⟨kvs, upd_same, fun Da hD => ?_⟩⟩
        have pk := paired_keys ro
        refine comp_core (W := W) (fl := fl) (Q := fun v H' => H' a = some (.frz od (.dK kvs)) ∧ Q v (upd H' a (.dK kvs))) ht s1 en.pin (I0 := fun w => w.G a = some (.frz od (.dK kvs))) upd_same it_keys hD ?_
        rw [kD_eq, pk]
        exact ulR_post gn ea p
      | _ => exact False.elim ro
    · rename_i l hl
      obtain ⟨od, u, fn, g, ro⟩ := s.at j _ a hl ea
      cases u with
      | dK kvs =>
        refine .inr ⟨.ref a, ev, a, od, rfl, .inl ⟨kvs, (s.gz _ _ g).1, fun Da hD => ?_⟩⟩
        have pk := paired_keys ro
        refine comp_core (W := W) (fl := fl) ht s en (I0 := fun w => w.G a = some (.frz od (.dK kvs))) g it_keys hD ?_
        rw [kD_eq, pk]
        exact p
      | _ => exact False.elim ro
    · exact False.elim p
  · rename_i l hl
    obtain ⟨v, ev, rv⟩ := en.get i _ hl
    split at p
    · rename_i ks hk
      cases rv with
      | @dK a kvs _ hf rk =>
        rw [rpK_keys rk] at hk
        cases hk
        rcases s.fz a _ hf with q | ⟨_, od, g⟩
        · by_cases gn : w.G a = none
          · refine .inl ⟨a, .dK kvs, q, True.intro, fun od => ?_⟩
            have s1 := s.lockF (od := od) hf rfl q
            refine ⟨.ref a, ev, a, od, rfl, .inl ⟨kvs, upd_same, fun Da hD => ?_⟩⟩
            refine comp_core (W := W) (fl := fl) (Q := fun v H' => H' a = some (.frz od (.dK kvs)) ∧ Q v (upd H' a (.dK kvs))) ht s1 en.pin (I0 := fun w => w.G a = some (.frz od (.dK kvs))) upd_same it_keys hD ?_
            rw [kD_eq]
            exact ulR_postF gn hf p
          · obtain ⟨o, go⟩ := Option.ne_none_iff_exists'.mp gn
            have h1 := (s.gz a o go).1
            obtain ⟨_, od, h2⟩ := (s.gz a o go).2 _ hf
            rw [q] at h1
            cases h1
            cases h2
        · refine .inr ⟨.ref a, ev, a, od, rfl, .inl ⟨kvs, (s.gz _ _ g).1, fun Da hD => ?_⟩⟩
          refine comp_core (W := W) (fl := fl) ht s en (I0 := fun w => w.G a = some (.frz od (.dK kvs))) g it_keys hD ?_
          rw [kD_eq]
          exact strict_post p
      | @dT a kvs _ hf n rk =>
        cases rk with
        | nil => exact absurd rfl n
        | cons _ _ => cases hk
    · exact False.elim p
  · exact False.elim p

/-- an expression that may be a name's new value in one go -/
structure PC (X : Cx) (e : Expr) (t : TE) : Prop where
  pe : PE X e t
  ps : ∀ (i : Nat) (y : Str) (py spos : Pos), X.N[i]? = some y → X.env.scope.names.lookup y = some .local → swapsWith e (some (.Name y py)) spos.line X.env = pure true → PS X (.Assign [.Name y py] e spos) (tAsg t (gName i))
theorem PC.imp {e : Expr} {t t' : TE} (h : PC X e t) (q : ∀ σ H Q, t' σ H Q → t σ H Q) : PC X e t' :=
  ⟨pe_imp h.pe q, fun i y py spos h1 h2 h3 => ps_imp (h.ps i y py spos h1 h2 h3) fun D σ H z => q _ _ _ z⟩
theorem pe_alt {e : Expr} {t t' : TE} (h : PE X e t) (h' : PE X e t') : PE X e (fun σ H Q => t σ H Q ∨ t' σ H Q) := ⟨fun pins s σ H Q I z => z.elim (h.run pins s σ H Q I) (h'.run pins s σ H Q I)⟩
theorem PC.or {e : Expr} {t t' : TE} (h : PC X e t) (h' : PC X e t') : PC X e (fun σ H Q => t σ H Q ∨ t' σ H Q) :=
  ⟨pe_alt h.pe h'.pe, fun i y py spos h1 h2 h3 => ps_imp (ps_or (h.ps i y py spos h1 h2 h3) (h'.ps i y py spos h1 h2 h3)) fun D σ H z => z⟩
theorem PC.lock {e : Expr} {t : TE} (h : PC X e t) : PC X e (tLockE t) :=
  ⟨pe_lock h.pe, fun i y py spos h1 h2 h3 => ps_imp (ps_lock (h.ps i y py spos h1 h2 h3)) fun D σ H z => z⟩
section
variable {elt tg iter : Expr} {ifs : List Expr} {scope : Scope} {own : List (Str × Nat)} {pos : Pos}
theorem pc_lc {wi : TI} {g : TG} {tt : TT} {te : TE} (hc : X.calm = true) (hN : X.N.Nodup) (hi : PI X tg iter wi) (ok : BlkOk X.N X.env.scope scope own)
    (hg : ∀ (s : Shared) (H : Hp) (C : Addr) (cl : List (Str × Addr)) (fp : List Addr), PG (X.blk s H scope (compEnvC scope cl C X.env) fp) tg g) (ht : ∀ (s : Shared) (H : Hp) (C : Addr) (cl : List (Str × Addr)) (fp : List Addr), PTs (X.blk s H scope (compEnvC scope cl C X.env) fp) ifs tt)
    (he : ∀ (s : Shared) (H : Hp) (C : Addr) (cl : List (Str × Addr)) (fp : List Addr), PE (X.blk s H scope (compEnvC scope cl C X.env) fp) elt te) (hs : ∀ x, foldedSetIterable iter X.env x = pure x) :
    PC X (.ListComp elt [⟨tg, iter, ifs, 0⟩] scope pos) (tLc wi g tt te (own.map (·.2))) :=
  ⟨pe_lc hc hN hi ok hg ht he hs, fun i y py spos h1 h2 h3 => ps_setLc hc hN h1 h2 h3 hi ok hg ht he hs⟩
theorem sc_comp (fl : Bool) {it : M (List D)} {t : Tg} {c : M Bool} {el : M D} (hc : X.calm = true) (hN : X.N.Nodup) (hi : PI X tg iter (tI X.K W it)) (ok : BlkOk X.N X.env.scope scope own)
    (hg : ∀ (s : Shared) (H : Hp) (C : Addr) (cl : List (Str × Addr)) (fp : List Addr), PG (X.blk s H scope (compEnvC scope cl C X.env) fp) tg (tG X.K t)) (ht : ∀ (s : Shared) (H : Hp) (C : Addr) (cl : List (Str × Addr)) (fp : List Addr), PTs (X.blk s H scope (compEnvC scope cl C X.env) fp) ifs (tT X.K W0 c))
    (he : ∀ (s : Shared) (H : Hp) (C : Addr) (cl : List (Str × Addr)) (fp : List Addr), PE (X.blk s H scope (compEnvC scope cl C X.env) fp) elt (tE X.K W0 el)) (hs : ∀ x, foldedSetIterable iter X.env x = pure x) (hsl : ∀ j ∈ t.slots, j ∈ own.map (·.2)) :
    PC X (.ListComp elt [⟨tg, iter, ifs, 0⟩] scope pos) (tE X.K W (mComp fl (own.map (·.2)) it t c el)) :=
  (pc_lc hc hN hi ok hg ht he hs).imp fun σ H Q h => comp_ok hsl h
theorem sc_compK (fl : Bool) {i : Nat} {x : Str} {p1 : Pos} {t : Tg} {c : M Bool} {el : M D} (hc : X.calm = true) (hN : X.N.Nodup) (hx : X.N[i]? = some x) (hv : Vis X.env.scope x) (hd : (x == ("__debug__" : Str)) = false) (hcd : (x == ("__classdict__" : Str)) = false) (ok : BlkOk X.N X.env.scope scope own)
    (hg : ∀ (s : Shared) (H : Hp) (C : Addr) (cl : List (Str × Addr)) (fp : List Addr), PG (X.blk s H scope (compEnvC scope cl C X.env) fp) tg (tG X.K t)) (ht : ∀ (s : Shared) (H : Hp) (C : Addr) (cl : List (Str × Addr)) (fp : List Addr), PTs (X.blk s H scope (compEnvC scope cl C X.env) fp) ifs (tT X.K W0 c))
    (he : ∀ (s : Shared) (H : Hp) (C : Addr) (cl : List (Str × Addr)) (fp : List Addr), PE (X.blk s H scope (compEnvC scope cl C X.env) fp) elt (tE X.K W0 el)) (hsl : ∀ j ∈ t.slots, j ∈ own.map (·.2)) :
    PC X (.ListComp elt [⟨tg, .Name x p1, ifs, 0⟩] scope pos) (tE X.K W (mCompK fl (own.map (·.2)) i t c el)) := by
  have base := pc_lc (pos := pos) hc hN (pi_keys (tg := tg) (pe_var (pos := p1) hx hv hd hcd)) ok hg ht he (folded_of (by rfl) _)
  exact (base.lock.or base).imp fun σ H Q h => compK_ok hsl h
end
/-- does a name bear a dict? -/
def isDv (i : Nat) (env : En) (st : List O) : Bool := match env[i]? with
  | some (some (.r j)) => match st[j]? with
    | some (.dK _) => true
    | some (.lk (.dK _)) => true
    | _ => false
  | some (some (.p (.dict _))) => true
  | _ => false
def mCompV (fl : Bool) (own : List Nat) (i : Nat) (t : Tg) (c : M Bool) (el : M D) : M D := fun ms env st => match isDv i env st with
  | true => mCompK fl own i t c el ms env st
  | false => mComp fl own (mIt (mVar i)) t c el ms env st
theorem compV_or {fl : Bool} {own : List Nat} {i : Nat} {t : Tg} {c : M Bool} {el : M D} {σ : St} {H : Hp} {Q : VK} (h : tE X.K W (mCompV fl own i t c el) σ H Q) : tE X.K W (mCompK fl own i t c el) σ H Q ∨ tE X.K W (mComp fl own (mIt (mVar i)) t c el) σ H Q := by
  obtain ⟨w, ms, env, st, s, en, p⟩ := h
  unfold mCompV at p
  split at p
  · exact .inl ⟨w, ms, env, st, s, en, p⟩
  · exact .inr ⟨w, ms, env, st, s, en, p⟩
def mForV (i : Nat) (t : Tg) (b : MS) : MS := fun ms env st => match isDv i env st with
  | true => mForK i t b ms env st
  | false => mFor (mIt (mVar i)) t b ms env st
theorem forV_or {i : Nat} {t : Tg} {b : MS} {D : Ends} {σ : St} {H : Hp} (h : tS X.K W (mForV i t b) D σ H) : tS X.K W (mForK i t b) D σ H ∨ tS X.K W (mFor (mIt (mVar i)) t b) D σ H := by
  obtain ⟨w, ms, env, st, s, en, p⟩ := h
  unfold mForV at p
  split at p
  · exact .inl ⟨w, ms, env, st, s, en, p⟩
  · exact .inr ⟨w, ms, env, st, s, en, p⟩
end
end Fk

/-! set(xs) of a list or tuple whose members are all of one kind of key (ints, texts): the set that stands then, its members and their number. -/
namespace FkSet
open PySem PySem.Spec PyProof.Rows
set_option autoImplicit false
/-- the members, each once, in the order in which they are met -/
def once {κ : Type} [DecidableEq κ] : List κ → List κ → List κ
  | acc, [] => acc
  | acc, x :: r => if x ∈ acc then once acc r else once (acc ++ [x]) r
def onceIn {κ : Type} [DecidableEq κ] (val : Nat → κ) : Nat → List κ
  | 0 => []
  | i + 1 => if val i ∈ onceIn val i then onceIn val i else onceIn val i ++ [val i]
theorem onceIn_succ {κ : Type} [DecidableEq κ] (val : Nat → κ) (i : Nat) : onceIn val (i + 1) = if val i ∈ onceIn val i then onceIn val i else onceIn val i ++ [val i] := rfl
theorem onceIn_le {κ : Type} [DecidableEq κ] (val : Nat → κ) : ∀ i, (onceIn val i).length ≤ i
  | 0 => Nat.le_refl _
  | i + 1 => by
    have ih := onceIn_le val i
    unfold onceIn
    split
    · omega
    · rw [List.length_append, List.length_singleton]; omega
section
variable {Pg : Program} {wd : World} {Ar : Around} {Rs : Result → Shared → Prop} {It : Addr} {fpr wri : List Addr} {Gn : Array GenState → Array GenState → Prop} {cnt : Nat} {Pv : Nat → Value → Prop} {Stt : Nat → Shared → Prop}
variable {κ : Type} [DecidableEq κ] [BEq κ] [LawfulBEq κ] {kd : KeyKind Pg wd κ}
theorem upd_loop (Wk : WalksS Pg wd Ar.in1 It fpr wri Gn cnt Pv Stt) (B : Addr) (hB : B ∉ fpr) (val : Nat → κ) (hv : ∀ i v, Pv i v → kd.is (val i) v = true ∧ v.scannable = true) (hroom : cnt + 1 < scanBound) :
    ∀ (m i : Nat) (sh : Shared), cnt - i = m → i ≤ cnt → Stt i sh → sh.heap.SetOf kd B (fun x => decide (x ∈ onceIn val i)) (onceIn val i).length →
      (∀ sh', Moved (B :: wri) Gn sh sh' → sh'.heap.SetOf kd B (fun x => decide (x ∈ onceIn val cnt)) (onceIn val cnt).length → Rs (.ok (.ret .none)) sh') →
      codeAny (model Pg wd) Ar (.builtin "set.update.loop" ⟨[.ref B, .ref It], []⟩) Rs sh := by
  have notw : B ∉ wri := fun z => hB (Wk.sub _ z)
  have wider : ∀ b ∈ wri, b ∈ B :: wri := fun b z => List.mem_cons_of_mem _ z
  intro m
  induction m with
  | zero =>
    intro i sh e1 e2 stt so fin
    obtain rfl : i = cnt := by omega
    refine codeAny_builtin PyProof.Rows.F.entry_set_update_loop ?_
    rw [Around.under_plainId PyProof.Rows.F.plain_set_update_loop _]
    refine wpAny_bind (Wk.done sh _ _ stt fun sh' mv => wpAny_pure (fin sh' (mv.mono wider) ?_))
    obtain ⟨ob, el, p, tb, g, more⟩ := so
    exact ⟨ob, el, p, tb, mv.heap B _ notw g, more⟩
  | succ m ih =>
    intro i sh e1 e2 stt so fin
    have small : i < cnt := by omega
    refine codeAny_builtin PyProof.Rows.F.entry_set_update_loop ?_
    rw [Around.under_plainId PyProof.Rows.F.plain_set_update_loop _]
    refine wpAny_bind (Wk.item i sh _ _ small stt fun v sh' pv stt' mv => ?_)
    obtain ⟨isk, scn⟩ := hv i v pv
    have so' : sh'.heap.SetOf kd B (fun x => decide (x ∈ onceIn val i)) (onceIn val i).length := by
      obtain ⟨ob, el, p, tb, g, more⟩ := so
      exact ⟨ob, el, p, tb, mv.heap B _ notw g, more⟩
    show wpAny _ Ar.in1 (holding [v] (setAdd B v) >>= _) _ _ sh'
    refine wpAny_bind (wpAny_holding ?_)
    unfold setAdd
    refine wpAny_holding (wpAny_bind (kd.pyHash (k := val i) isk ?_))
    refine wpAny_setAddHashed_of (knd := kd) (s := { sh' with toks := sh'.toks + 1 }) isk scn so' (by have := onceIn_le val i; omega) fun hp2 same so2 => ?_
    have so3 : hp2.SetOf kd B (fun x => decide (x ∈ onceIn val (i + 1))) (onceIn val (i + 1)).length := by
      refine SetOf_congr so2 (fun x => ?_) ?_
      · show (decide (x ∈ onceIn val i) || decide (x = val i)) = decide (x ∈ onceIn val (i + 1))
        rw [onceIn_succ]
        by_cases q : val i ∈ onceIn val i
        · rw [if_pos q]
          by_cases z : x = val i
          · rw [z]; simp [q]
          · simp [z]
        · rw [if_neg q, Bool.eq_iff_iff]; simp [or_comm]
      · show (if decide (val i ∈ onceIn val i) = true then (onceIn val i).length else (onceIn val i).length + 1) = (onceIn val (i + 1)).length
        rw [onceIn_succ]
        by_cases q : val i ∈ onceIn val i
        · simp [q]
        · simp [q]
    refine wpAny_pure ⟨plainId_quiet PyProof.Rows.F.plain_set_update_loop _, ih (i + 1) _ (by omega) small (Wk.frame _ sh' _ _ stt' (Nat.le_succ _) fun b z o g => ?_) so3 fun sh2 mv2 so4 => fin sh2 (Moved.trans Wk.gtrans ((mv.mono wider).then_heap (Nat.le_succ _) fun b o z g => ?_) mv2) so4⟩
    · rw [same.2 b (fun y : b = B => hB (y ▸ z))]; exact g
    · rw [same.2 b (fun y : b = B => z (y ▸ List.mem_cons_self))]; exact g
end

abbrev bare (ld : Bool) : Obj := { cls := .type "set", dict := none, data := .set #[] 0 (.fresh 0 0 ld) }
section
variable {Pg : Program} {wd : World} {Ar : Around} {Ev : Value → Shared → Prop} {sh : Shared} {κ : Type} [DecidableEq κ] [BEq κ] [LawfulBEq κ] {kd : KeyKind Pg wd κ}

set_option maxHeartbeats 3200000 in
theorem made_list {src : Addr} {arr : Array Value} (val : Nat → κ) {Qv : Value → Shared → Prop} (calm : Ar.handled = none) (isq : sh.heap.IsList src arr) (hv : ∀ i v, arr[i]? = some v → kd.is (val i) v = true ∧ v.scannable = true) (hroom : arr.size + 1 < scanBound)
    (go : ∀ (hp : Heap) (k : Nat), hp.SetOf kd sh.heap.objs.size (fun x => decide (x ∈ onceIn val arr.size)) (onceIn val arr.size).length → (∀ b o, b < sh.heap.objs.size → sh.heap.get? b = some o → hp.get? b = some o) → Qv (.ref sh.heap.objs.size) { sh with heap := hp, toks := k }) :
    wpAny (model Pg wd) Ar (call (.type "set") [.ref src]) Qv Ev sh := by
  obtain ⟨_, _, hmro⟩ := PySem.F.called_set.mro
  have q1 := PySem.F.called_set.made
  have q2 := PySem.F.called_set.sub
  refine wpAny_call (codeAny_of_tree ?_)
  show wpAny _ _ (callAny (.type "set") _) _ _ _
  refine wpAny_pure ⟨Code.quiet_builtin _ (by decide +kernel), codeAny_builtin PySem.F.entry_type_call ?_⟩
  rw [Around.under_plain (weight_type_call_type "set" [.ref src] []) rfl]
  have q3 := PySem.F.called_set.notType
  have q4 := PySem.F.called_set.canCreate
  have q5 := PySem.F.typeCall_set_1 (.ref src)
  repeat (any_goals (first | assumption | wp_step))
  refine codeAny_mono (code_set_new_1 (.ref src) (E := Ev) (Q₁ := fun ob sh1 => ∃ ld : Bool, ob = .ref sh.heap.objs.size ∧ sh1 = { sh with heap := sh.heap.push (bare ld) }) fun ld => ⟨ld, rfl, rfl⟩) fun res sh1 hres => ?_
  cases res with
  | error e => exact hres
  | ok fw =>
    cases fw with
    | ret ob =>
      obtain ⟨ld, rfl, rfl⟩ := hres
      have atS : (sh.heap.push (bare ld)).get? sh.heap.objs.size = some (bare ld) := Heap.get?_push_size _ rfl
      have tyS : Shared.TypeIs { sh with heap := sh.heap.push (bare ld) } (.ref sh.heap.objs.size) "set" := ⟨_, atS, rfl⟩
      have q6 := PySem.F.called_set.init.lookup
      have q7 := PySem.F.called_set.init.bind (.ref sh.heap.objs.size)
      repeat (any_goals (first | assumption | wp_step))
      refine codeAny_mono (codeAny_call_builtin (R := wants (fun res sh2 => res = .none ∧ ∃ hp k, sh2 = { sh with heap := hp, toks := k } ∧ hp.SetOf kd sh.heap.objs.size (fun x => decide (x ∈ onceIn val arr.size)) (onceIn val arr.size).length ∧
          (∀ b o, b < sh.heap.objs.size → sh.heap.get? b = some o → hp.get? b = some o)) Ev) PySem.F.called_set.init.plain PySem.F.entry_set_init (check_set_init_1 tyS ?_)) fun res2 sh2 hres2 => ?_
      · obtain ⟨ol, gl, cl, nl, dl⟩ := isq
        obtain ⟨oc, od, odt, osl⟩ := ol
        simp only at cl dl
        subst cl dl
        have gl2 : (sh.heap.push (bare ld)).get? src = some { cls := .type "list", dict := od, data := .seq arr nl, slots := osl } := Heap.get?_push_of_some _ gl
        have q8 := PySem.F.sub_list_set
        have q9 := PySem.F.sub_list_frozenset
        have qa : (Value.type "list" == Value.type "dict") = false := by decide
        have isq2 : (sh.heap.push (bare ld)).IsList src arr := ⟨_, gl2, rfl, nl, rfl⟩
        unfold Builtin.«set.__init__» noKeywords Builtin.Frozenset.updateFrom
        generalize hz : pyIter = z
        wp_walk
        subst hz
        refine wpAny_pyIter_list isq2 (wpAny_bind (wpAny_runValue ?_))
        have lt1 : src < sh.heap.objs.size := Heap.lt_size gl
        have calm3 : Ar.in1.in1.in1.handled = none := by simp [calm]
        have ne1 : src ≠ (sh.heap.push (bare ld)).objs.size := by rw [Heap.size_push]; exact Nat.ne_of_lt (Nat.lt_succ_of_lt lt1)
        have out1 : sh.heap.objs.size ∉ [(sh.heap.push (bare ld)).objs.size, src] := by
          rw [Heap.size_push]
          simp only [List.mem_cons, List.not_mem_nil, or_false, not_or]
          exact ⟨Nat.ne_of_lt (Nat.lt_succ_self _), Nat.ne_of_gt lt1⟩
        refine upd_loop (kd := kd) ((Walks.list calm3 _ src ne1 arr).toS) sh.heap.objs.size out1 val hv hroom (arr.size - 0) 0 _ rfl (Nat.zero_le _) ⟨⟨_, Heap.get?_push_size _ rfl, rfl, rfl⟩, isq2.push _⟩ ?first ?last
        case first =>
          have g2 : ((sh.heap.push (bare ld)).push { cls := .type "list_iterator", data := .fields #[.ref src, .int 0 0] }).get? sh.heap.objs.size = some (bare ld) := Heap.get?_push_of_some _ atS
          exact SetOf_congr ((setObjOf_fresh (knd := kd) ld).setOf g2 (by unfold scanBound; omega)) (fun _ => rfl) rfl
        case last =>
          intro sh3 mv so
          obtain ⟨hp3, gn3, dr3, tk3, os3⟩ := sh3
          obtain rfl : gn3 = sh.gens := mv.gens
          obtain rfl : dr3 = sh.drawn := mv.drawn
          obtain rfl : os3 = sh.os := mv.os
          refine wpAny_pure ?_
          show wpAny _ _ (ret Value.none) _ _ _
          refine wpAny_pure ⟨rfl, hp3, tk3, rfl, so, fun b o lb gb => mv.heap b o ?_ (Heap.get?_push_of_some _ (Heap.get?_push_of_some _ gb))⟩
          rw [Heap.size_push]
          simp only [List.mem_cons, List.not_mem_nil, or_false, not_or]
          exact ⟨Nat.ne_of_lt lb, Nat.ne_of_lt (Nat.lt_succ_of_lt lb)⟩
      · cases res2 with
        | error e => exact hres2
        | ok fw2 =>
          cases fw2 with
          | ret rv =>
            obtain ⟨rfl, hp, k, rfl, so, keep⟩ := hres2
            repeat (any_goals (first | assumption | wp_step))
            exact go _ _ so keep
          | _ => exact hres2.elim
    | _ => exact hres.elim

set_option maxHeartbeats 3200000 in
theorem made_tuple {src : Addr} {arr : Array Value} (val : Nat → κ) {Qv : Value → Shared → Prop} (calm : Ar.handled = none) (isq : sh.heap.IsTuple src arr) (hv : ∀ i v, arr[i]? = some v → kd.is (val i) v = true ∧ v.scannable = true) (hroom : arr.size + 1 < scanBound)
    (go : ∀ (hp : Heap) (k : Nat), hp.SetOf kd sh.heap.objs.size (fun x => decide (x ∈ onceIn val arr.size)) (onceIn val arr.size).length → (∀ b o, b < sh.heap.objs.size → sh.heap.get? b = some o → hp.get? b = some o) → Qv (.ref sh.heap.objs.size) { sh with heap := hp, toks := k }) :
    wpAny (model Pg wd) Ar (call (.type "set") [.ref src]) Qv Ev sh := by
  obtain ⟨_, _, hmro⟩ := PySem.F.called_set.mro
  have q1 := PySem.F.called_set.made
  have q2 := PySem.F.called_set.sub
  refine wpAny_call (codeAny_of_tree ?_)
  show wpAny _ _ (callAny (.type "set") _) _ _ _
  refine wpAny_pure ⟨Code.quiet_builtin _ (by decide +kernel), codeAny_builtin PySem.F.entry_type_call ?_⟩
  rw [Around.under_plain (weight_type_call_type "set" [.ref src] []) rfl]
  have q3 := PySem.F.called_set.notType
  have q4 := PySem.F.called_set.canCreate
  have q5 := PySem.F.typeCall_set_1 (.ref src)
  repeat (any_goals (first | assumption | wp_step))
  refine codeAny_mono (code_set_new_1 (.ref src) (E := Ev) (Q₁ := fun ob sh1 => ∃ ld : Bool, ob = .ref sh.heap.objs.size ∧ sh1 = { sh with heap := sh.heap.push (bare ld) }) fun ld => ⟨ld, rfl, rfl⟩) fun res sh1 hres => ?_
  cases res with
  | error e => exact hres
  | ok fw =>
    cases fw with
    | ret ob =>
      obtain ⟨ld, rfl, rfl⟩ := hres
      have atS : (sh.heap.push (bare ld)).get? sh.heap.objs.size = some (bare ld) := Heap.get?_push_size _ rfl
      have tyS : Shared.TypeIs { sh with heap := sh.heap.push (bare ld) } (.ref sh.heap.objs.size) "set" := ⟨_, atS, rfl⟩
      have q6 := PySem.F.called_set.init.lookup
      have q7 := PySem.F.called_set.init.bind (.ref sh.heap.objs.size)
      repeat (any_goals (first | assumption | wp_step))
      refine codeAny_mono (codeAny_call_builtin (R := wants (fun res sh2 => res = .none ∧ ∃ hp k, sh2 = { sh with heap := hp, toks := k } ∧ hp.SetOf kd sh.heap.objs.size (fun x => decide (x ∈ onceIn val arr.size)) (onceIn val arr.size).length ∧
          (∀ b o, b < sh.heap.objs.size → sh.heap.get? b = some o → hp.get? b = some o)) Ev) PySem.F.called_set.init.plain PySem.F.entry_set_init (check_set_init_1 tyS ?_)) fun res2 sh2 hres2 => ?_
      · obtain ⟨ol, gl, cl, nl, dl⟩ := isq
        obtain ⟨oc, od, odt, osl⟩ := ol
        simp only at cl dl
        subst cl dl
        have gl2 : (sh.heap.push (bare ld)).get? src = some { cls := .type "tuple", dict := od, data := .seq arr nl, slots := osl } := Heap.get?_push_of_some _ gl
        have q8 := PySem.F.sub_tuple_set
        have q9 := PySem.F.sub_tuple_frozenset
        have qa : (Value.type "tuple" == Value.type "dict") = false := by decide
        have isq2 : (sh.heap.push (bare ld)).IsTuple src arr := ⟨_, gl2, rfl, nl, rfl⟩
        unfold Builtin.«set.__init__» noKeywords Builtin.Frozenset.updateFrom
        generalize hz : pyIter = z
        wp_walk
        subst hz
        refine wpAny_pyIter_tuple isq2 (wpAny_bind (wpAny_runValue ?_))
        have lt1 : src < sh.heap.objs.size := Heap.lt_size gl
        have calm3 : Ar.in1.in1.in1.handled = none := by simp [calm]
        have ne1 : src ≠ (sh.heap.push (bare ld)).objs.size := by rw [Heap.size_push]; exact Nat.ne_of_lt (Nat.lt_succ_of_lt lt1)
        have out1 : sh.heap.objs.size ∉ [(sh.heap.push (bare ld)).objs.size, src] := by
          rw [Heap.size_push]
          simp only [List.mem_cons, List.not_mem_nil, or_false, not_or]
          exact ⟨Nat.ne_of_lt (Nat.lt_succ_self _), Nat.ne_of_gt lt1⟩
        refine upd_loop (kd := kd) ((Walks.tuple calm3 _ src ne1 arr).toS) sh.heap.objs.size out1 val hv hroom (arr.size - 0) 0 _ rfl (Nat.zero_le _) ⟨⟨_, Heap.get?_push_size _ rfl, rfl, rfl⟩, isq2.push _⟩ ?first ?last
        case first =>
          have g2 : ((sh.heap.push (bare ld)).push { cls := .type "tuple_iterator", data := .fields #[.ref src, .int 0 0] }).get? sh.heap.objs.size = some (bare ld) := Heap.get?_push_of_some _ atS
          exact SetOf_congr ((setObjOf_fresh (knd := kd) ld).setOf g2 (by unfold scanBound; omega)) (fun _ => rfl) rfl
        case last =>
          intro sh3 mv so
          obtain ⟨hp3, gn3, dr3, tk3, os3⟩ := sh3
          obtain rfl : gn3 = sh.gens := mv.gens
          obtain rfl : dr3 = sh.drawn := mv.drawn
          obtain rfl : os3 = sh.os := mv.os
          refine wpAny_pure ?_
          show wpAny _ _ (ret Value.none) _ _ _
          refine wpAny_pure ⟨rfl, hp3, tk3, rfl, so, fun b o lb gb => mv.heap b o ?_ (Heap.get?_push_of_some _ (Heap.get?_push_of_some _ gb))⟩
          rw [Heap.size_push]
          simp only [List.mem_cons, List.not_mem_nil, or_false, not_or]
          exact ⟨Nat.ne_of_lt lb, Nat.ne_of_lt (Nat.lt_succ_of_lt lb)⟩
      · cases res2 with
        | error e => exact hres2
        | ok fw2 =>
          cases fw2 with
          | ret rv =>
            obtain ⟨rfl, hp, k, rfl, so, keep⟩ := hres2
            repeat (any_goals (first | assumption | wp_step))
            exact go _ _ so keep
          | _ => exact hres2.elim
    | _ => exact hres.elim
end
end FkSet

namespace Fk
open PySem PySem.Spec L2
set_option autoImplicit false

/-! ### len(set(xs)) -/
theorem Paired.getR {α β : Type} {F : α → β → Prop} : ∀ {a : List α} {b : List β}, Paired F a b → ∀ (i : Nat) (y : β), b[i]? = some y → ∃ x, a[i]? = some x ∧ F x y
  | _, _, .nil, i, y, h => by cases h
  | _, _, .cons (a := u) p q, 0, y, h => by cases h; exact ⟨u, rfl, p⟩
  | _, _, .cons p q, i + 1, y, h => by
    obtain ⟨x, h1, h2⟩ := Paired.getR q i y h
    exact ⟨x, h1, h2⟩
theorem once_snoc {κ : Type} [DecidableEq κ] (x : κ) : ∀ (l acc : List κ), FkSet.once acc (l ++ [x]) = if x ∈ FkSet.once acc l then FkSet.once acc l else FkSet.once acc l ++ [x]
  | [], acc => rfl
  | y :: r, acc => by
    show (if y ∈ acc then FkSet.once acc (r ++ [x]) else FkSet.once (acc ++ [y]) (r ++ [x])) = _
    rw [once_snoc x r acc, once_snoc x r (acc ++ [y])]
    show _ = if x ∈ (if y ∈ acc then FkSet.once acc r else FkSet.once (acc ++ [y]) r) then (if y ∈ acc then FkSet.once acc r else FkSet.once (acc ++ [y]) r) else (if y ∈ acc then FkSet.once acc r else FkSet.once (acc ++ [y]) r) ++ [x]
    by_cases h : y ∈ acc
    · rw [if_pos h, if_pos h]
    · rw [if_neg h, if_neg h]
theorem onceIn_eq {κ : Type} [DecidableEq κ] (d : κ) (xs : List κ) : ∀ n, n ≤ xs.length → FkSet.onceIn (fun i => xs.getD i d) n = FkSet.once [] (xs.take n)
  | 0, _ => rfl
  | n + 1, h => by
    have hn : n < xs.length := by omega
    rw [FkSet.onceIn_succ, onceIn_eq d xs n (by omega), List.take_succ, List.getElem?_eq_getElem hn]
    show _ = FkSet.once [] (xs.take n ++ [xs[n]])
    rw [once_snoc]
    have e : xs.getD n d = xs[n] := by rw [List.getD_eq_getElem?_getD, List.getElem?_eq_getElem hn]; rfl
    show (if xs.getD n d ∈ FkSet.once [] (xs.take n) then _ else _) = _
    rw [e]
section
variable {X : Cx} {W : Ex}
def tLs (K : PySem.W.Frag) {κ : Type} [DecidableEq κ] (toV : κ → V) (ta : TE) : TE := fun σ H Q => ta σ H fun x H1 => ∃ l, ∃ xs : List κ, x = .ref l ∧ (SqL K H1 l (xs.map toV) ∨ SqT K H1 l (xs.map toV)) ∧ xs.length < 4000 ∧ Q (.int (FkSet.once [] xs).length) H1
theorem pe_ls {κ : Type} [DecidableEq κ] [BEq κ] [LawfulBEq κ] (kd : KeyKind X.prog X.w κ) (df : κ) {toV : κ → V} (hk : ∀ k u, RelV (toV k) u → kd.is k u = true ∧ u.scannable = true)
    {a : Expr} {ta : TE} {p p2 q pos : Pos} (hc : X.calm = true) (hg : Gl X "len") (hm : X.mg "len" = none) (hg2 : Gl X "set") (hm2 : X.mg "set" = none) (ha : PE X a ta)
    (na : starEach [a] X.env = (false, eval a X.env) :: starEach [] X.env) : PE X (.Call (.Name "len" p) [.Call (.Name "set" p2) [a] [] q] [] pos) (tLs X.K toV ta) := by
  refine ⟨fun pins s σ H Q I h => PyProof.Rows.Call_ (ld_blt I hg hm PySem.boot_len ?_)⟩
  refine PyProof.Rows.callWith_builtin1 (PyProof.Rows.args_cons (PyProof.Rows.Call_ (ld_blt I hg2 hm2 PyProof.Rows.boot_set ?_)) rfl) rfl rfl
  refine PyProof.Rows.callWith_type1 (PyProof.Rows.args_cons (thn (ha.run pins s σ H _ I h) fun v s1 ⟨x, H1, I1, r1, q1⟩ => PyProof.Rows.args_nil ?_) na) na rfl
  obtain ⟨l, xs, rfl, hq, h1, q1⟩ := q1
  cases r1
  have fin : ∀ its : List Value, Vals (xs.map toV) its → ∀ (hp : Heap) (tk : Nat), hp.SetOf kd s1.heap.objs.size (fun z => decide (z ∈ FkSet.onceIn (fun i => xs.getD i df) its.toArray.size)) (FkSet.onceIn (fun i => xs.getD i df) its.toArray.size).length →
      (∀ b o, b < s1.heap.objs.size → s1.heap.get? b = some o → hp.get? b = some o) →
      wpAny (model X.prog X.w) X.A (spliced (backTo pos (starEach [] X.env))) (fun vs s₂ => wpAny (model X.prog X.w) X.A (call (.builtin "len") (Value.ref s1.heap.objs.size :: vs)) (EP X pins σ Q) X.xe s₂) X.xe { s1 with heap := hp, toks := tk } := fun its r hp tk hS keep => by
    refine PyProof.Rows.args_nil ?_
    have hl : its.toArray.size = xs.length := by rw [List.size_toArray, ← r.length, List.length_map]
    have hle := FkSet.onceIn_le (fun i => xs.getD i df) its.toArray.size
    rw [hl, onceIn_eq df xs xs.length (Nat.le_refl _), List.take_length] at hS hle
    obtain ⟨ob, es, ep, t, ho, hex, hd, _, _, _, hf, hn⟩ := hS
    have I2 : Inv X pins σ H1 { s1 with heap := hp, toks := tk } := I1.kept fun b o e => keep b o (Heap.lt_size e) e
    refine call_len_set ho hex hd hf (by rw [hn]; omega) ⟨.int (FkSet.once [] xs).length, H1, I2.tok _, ⟨_, by rw [hn]⟩, q1⟩
  have at_ : ∀ its : List Value, Vals (xs.map toV) its → ∀ i v, its.toArray[i]? = some v → kd.is (xs.getD i df) v = true ∧ v.scannable = true := fun its r i v e => by
    rw [List.getElem?_toArray] at e
    obtain ⟨y, h2, h3⟩ := Paired.getR r i v e
    rw [List.getElem?_map] at h2
    cases e2 : xs[i]? with
    | none => rw [e2] at h2; cases h2
    | some k =>
      rw [e2] at h2
      cases h2
      rw [List.getD_eq_getElem?_getD, e2]
      exact hk k v h3
  have rm : ∀ its : List Value, Vals (xs.map toV) its → its.toArray.size + 1 < scanBound := fun its r => by
    have hl : its.toArray.size = xs.length := by rw [List.size_toArray, ← r.length, List.length_map]
    rw [hl]
    unfold scanBound
    omega
  rcases hq with hq | hq
  · obtain ⟨its, r, pl, hz⟩ := I1.list hq
    exact FkSet.made_list (kd := kd) (fun i => xs.getD i df) (I1.ok.hd hc) pl.isList (at_ its r) (rm its r) fun hp tk hS keep => fin its r hp tk hS keep
  · obtain ⟨its, r, pl, hz⟩ := I1.tuple hq
    exact FkSet.made_tuple (kd := kd) (fun i => xs.getD i df) (I1.ok.hd hc) pl (at_ its r) (rm its r) fun hp tk hS keep => fin its r hp tk hS keep

def lenSet (d : D) (st : List O) : R D := match getSeq d st with
  | some ds => match unP ds with
    | some ps => match strsP ps with
      | some xs => if xs.length < 4000 then .ok (.p (.int (FkSet.once [] xs).length)) st else .bad
      | none => match intsP ps with
        | some ns => if ns.length < 4000 then .ok (.p (.int (FkSet.once [] ns).length)) st else .bad
        | none => .bad
    | none => .bad
  | none => .bad
def mLenSet (m : M D) : M D := mB m fun d => fun _ _ st => lenSet d st
theorem rds_strsV {K : PySem.W.Frag} {w : Wd} : ∀ {xs : List Str} {vs : List V}, RDs K w vs (asP (xs.map .str)) → vs = xs.map V.str
  | [], _, h => by cases h; rfl
  | x :: r, _, h => by
    cases h with
    | cons h1 h2 =>
      cases h1
      rw [rds_strsV h2]
      rfl
theorem rds_intsV {K : PySem.W.Frag} {w : Wd} : ∀ {xs : List Int} {vs : List V}, RDs K w vs (asP (xs.map .int)) → vs = xs.map V.int
  | [], _, h => by cases h; rfl
  | x :: r, _, h => by
    cases h with
    | cons h1 h2 =>
      cases h1
      rw [rds_intsV h2]
      rfl
theorem se_lenSet {a : Expr} {m : M D} {p p2 q pos : Pos} (hc : X.calm = true) (hg : Gl X "len") (hm : X.mg "len" = none) (hg2 : Gl X "set") (hm2 : X.mg "set" = none) (ha : PE X a (tE X.K W m)) (hs : notStar a = true) :
    PE X (.Call (.Name "len" p) [.Call (.Name "set" p2) [a] [] q] [] pos) (tE X.K W (mLenSet m)) := by
  have b1 := pe_ls (p := p) (p2 := p2) (q := q) (pos := pos) (strKind X.prog X.w) Str.empty (toV := V.str) (fun k u r => by obtain ⟨t, rfl⟩ := r; exact ⟨strKind_is _ _ _ _, rfl⟩) hc hg hm hg2 hm2 ha (star_of hs [] _)
  have b2 := pe_ls (p := p) (p2 := p2) (q := q) (pos := pos) (PySem.intKind X.prog X.w) 0 (toV := V.int) (fun k u r => by obtain ⟨t, rfl⟩ := r; exact ⟨intKind_is _ _ _ _, rfl⟩) hc hg hm hg2 hm2 ha (star_of hs [] _)
  refine pe_imp (pe_alt b1 b2) fun σ H Q h => ?_
  obtain ⟨w, ms, env, st, s, en, p'⟩ := h
  have p0 : Post (RD X.K) X.K W ms σ w ((m ms env st).bind fun d st1 => lenSet d st1) Q := p'
  clear p'
  cases hm1 : m ms env st with
  | bad => rw [hm1] at p0; exact False.elim p0
  | ex c st1 =>
    rw [hm1] at p0
    exact .inl ⟨w, ms, env, st, s, en, by rw [hm1]; exact p0⟩
  | ok d st1 =>
    rw [hm1] at p0
    have p1 : Post (RD X.K) X.K W ms σ w (lenSet d st1) Q := p0
    unfold lenSet at p1
    split at p1
    · rename_i ds hds
      split at p1
      · rename_i ps hps
        have e1 := unP_some hps
        subst e1
        split at p1
        · rename_i xs hxs
          have e2 := strs_some hxs
          subst e2
          obtain ⟨hl, p1⟩ := Post.ite p1
          refine .inl ⟨w, ms, env, st, s, en, ?_⟩
          rw [hm1]
          intro w' v H' l s' r
          obtain ⟨a', vs, rfl, hq, rs⟩ := getSeq_ok s' r hds
          have := rds_strsV rs
          subst this
          exact ⟨a', xs, rfl, hq, hl, (Post.mono l p1).val s' (.int _)⟩
        · split at p1
          · rename_i ns hns
            have e2 := ints_some hns
            subst e2
            obtain ⟨hl, p1⟩ := Post.ite p1
            refine .inr ⟨w, ms, env, st, s, en, ?_⟩
            rw [hm1]
            intro w' v H' l s' r
            obtain ⟨a', vs, rfl, hq, rs⟩ := getSeq_ok s' r hds
            have := rds_intsV rs
            subst this
            exact ⟨a', ns, rfl, hq, hl, (Post.mono l p1).val s' (.int _)⟩
          · exact False.elim p1
      · exact False.elim p1
    · exact False.elim p1

/-! ### a def called with nothing -/
theorem se_call0 {x : Str} {g : Fn} {p pos : Pos} (F : FnIs X x 0 g) (tk : L2N.Takes X (WXof X.mg W)) (hg : Gl X x) (hdb : (x == ("__debug__" : Str)) = false) : PE X (.Call (.Name x p) [] [] pos) (tE X.K W (mCall g mNil)) := by
  obtain ⟨k, f, fd, ps, F, hr, hm, hk, hb⟩ := F.ex
  refine ⟨fun pins s σ H Q I h => wpAny_Call_Name_kw (ld_glob I hg hm (PySem.W.callWith_K0 I.kIn hk ?_) hdb)⟩
  obtain ⟨w, ms, env, st, s1, ee, q⟩ := h
  have q1 : Post (RD X.K) X.K W ms σ w (g [] ms st) Q := q
  refine run_fnS (E := WE (WXof X.mg W)) F hr hb (L2N.passAt tk σ) I .nil ⟨rfl, w, ms, st, [], s1, .nil, ?_⟩
  revert q1
  cases g [] ms st with
  | ok d st2 => exact fun p1 => p1
  | ex c st2 => exact fun p1 w' H' cv l s2 hc => ⟨rfl, c, hc, p1 w' H' l s2⟩
  | bad => exact fun p1 => p1

/-! ### times -/
def dMul (fl : Bool) : Op2 := fun a b st => match b with
  | .p (.int k) => match a with
    | .p (.int i) => if mulOk i k = true then .ok (.p (.int (i * k))) st else .bad
    | .p (.tuple xs) => if xs ≠ [] ∧ 2 ≤ k ∧ k ≤ 1000 ∧ xs.length ≤ 1000 then mkT (asP (List.replicate k.toNat xs).flatten) st else .bad
    | a => match getL a st with
      | some xs => if -(2 ^ 63) ≤ k ∧ k < 2 ^ 63 ∧ xs.length * k.toNat ≤ sizeLine then mkL fl (List.replicate k.toNat xs).flatten st else .bad
      | none => .bad
  | _ => .bad
theorem rds_flat {K : PySem.W.Frag} {w : Wd} {vs : List V} {ds : List D} (r : RDs K w vs ds) : ∀ n, RDs K w (List.replicate n vs).flatten (List.replicate n ds).flatten
  | 0 => .nil
  | n + 1 => by
    rw [List.replicate_succ, List.replicate_succ, List.flatten_cons, List.flatten_cons]
    exact Paired.app r (rds_flat r n)
theorem op_mulD' (fl : Bool) : OpR X (binaryOp .Mult) (rD2 X.K (dMul fl)) := by
  refine OpR.imp (OpR.or op_mulB (OpR.or op_repT op_rep)) fun x y H Q h => ?_
  obtain ⟨w, ms, st, a, b, σ, W, s, ra, rb, p⟩ := h
  unfold dMul at p
  split at p
  · rename_i k
    cases rb
    split at p
    · cases ra
      obtain ⟨c, p⟩ := Post.ite p
      exact .inl ⟨_, _, rfl, rfl, c, p.val s (.int _)⟩
    · rename_i xs
      cases ra with
      | @tup l vs _ h1 r1 =>
        obtain ⟨⟨c1, c2, c3, c4⟩, p⟩ := Post.ite p
        have rl := r1.length
        refine .inr (.inl ⟨l, k, vs, rfl, rfl, SqT.of (s.nd h1 rfl), fun z => c1 ?_, c2, c3, by rw [rl]; exact c4, fun q hq => ?_⟩)
        · rw [z] at rl
          exact List.length_eq_zero_iff.mp rl.symm
        · have e : asP (List.replicate k.toNat xs).flatten = (List.replicate k.toNat (asP xs)).flatten := by
            unfold asP
            rw [List.map_flatten, List.map_replicate]
          rw [e] at p
          exact mkT_post s (rds_flat r1.rds _) hq p
    · split at p
      · rename_i xs hxs
        obtain ⟨l, vs, rfl, h1, r1⟩ := getL_ok s ra hxs
        obtain ⟨⟨c1, c2, c3⟩, p⟩ := Post.ite p
        exact .inr (.inr ⟨l, k, vs, rfl, rfl, h1, c1, c2, by rw [Paired.length r1]; exact c3, fun q hq => mkL_post s (rds_flat r1 _) hq p⟩)
      · exact False.elim p
  · exact False.elim p

/-! ### xs[::-1] -/
theorem Paired.rev {α β : Type} {F : α → β → Prop} : ∀ {a : List α} {b : List β}, Paired F a b → Paired F a.reverse b.reverse
  | _, _, .nil => .nil
  | _, _, .cons p q => by
    rw [List.reverse_cons, List.reverse_cons]
    exact Paired.app (Paired.rev q) (.cons p .nil)
def mRevL (fl : Bool) (m : M D) : M D := mB m fun d => fun _ _ st => match getL d st with
  | some l => mkL fl l.reverse st
  | none => .bad
theorem se_revL (fl : Bool) {e : Expr} {m : M D} {k : Nat} {p1 p2 p3 pos : Pos} (he : PE X e (tE X.K W m)) : PE X (.Subscript e (.Slice none none (some (.UnaryOp .USub (.Constant (.int 1) k p1) p2)) p3) pos) (tE X.K W (mRevL fl m)) :=
  pe_imp (pe_revL he) fun σ H Q h => seq1 h fun w ms env st H d x s _ r p => by
    split at p
    · rename_i l hl
      obtain ⟨a, vs, rfl, h1, r1⟩ := getL_ok s r hl
      exact ⟨a, vs, rfl, SqL.of h1, fun q hq => mkL_post s (Paired.rev r1) hq p⟩
    · exact False.elim p
end
end Fk

/-! Walks over lists while an exception is handled. -/
namespace FkH
open PySem PySem.Spec PyProof.Rows L2 HotX L2H
set_option autoImplicit false
section
variable {prog : Program} {w : World} {A : Around} {E : Value → Shared → Prop} {s : Shared}
theorem HotAt.keeps {x : Addr} {h h' : Heap} (c : HotAt A x h) (k : ∀ o, h.get? x = some o → h'.get? x = some o) : HotAt A x h' := by
  obtain ⟨a, o, vs, e, d, z⟩ := c
  exact ⟨a, o, vs, k o e, d, z⟩
theorem next_list_end {it l x1 : Addr} {i : Nat} {items : Array Value} {Q : Option Value → Shared → Prop} (hot : HotAt A x1 s.heap) (hx1 : x1 ≠ it)
    (hit : s.heap.IsListIter it l i) (hl : s.heap.IsList l items) (hx : items[i]? = none)
    (hQ : ∀ g, Heap.ExtBut it s.heap g → Q none { s with heap := g }) : wpAny (model prog w) A (pyNext (.ref it)) Q E s := by
  obtain ⟨oi, gi, ci, di⟩ := id hit
  obtain ⟨ol, gl, _, nl, dl⟩ := hl
  obtain ⟨hh, o1, vs1, h1, d1, c1⟩ := hot
  unfold pyNext
  have sl := slot_listiter_next
  refine wpAny_bind (wpAny_attempt (wpAny_callSpecial?_slot (name := Str.ofString "__next__") hit.typeIs sl (wpAny_call_entry sl hit.typeIs entry_listiter_next ?_ (args_listiter_next _))))
  show wpAny _ _ (field (.ref it) 0 >>= _) _ _ s
  refine wpAny_bind (wpAny_field gi di (x := .ref l) rfl ?_)
  show wpAny _ _ (if (Value.ref l == Value.none) = true then _ else _) _ _ s
  rw [if_neg (show ¬ ((Value.ref l == Value.none) = true) from Bool.false_ne_true)]
  show wpAny _ _ (field (.ref it) 1 >>= _) _ _ s
  refine wpAny_bind (wpAny_field gi di (x := .int i 0) rfl ?_)
  show wpAny _ _ (seqItems? (.ref l) >>= _) _ _ s
  refine wpAny_bind (wpAny_seqItems gl dl ?_)
  simp only [Int.toNat_natCast, hx]
  refine wpAny_bind (wpAny_rule (wpAny_bind (wpAny_setField gi di (by simp) ?_)))
  show wpAny _ _ (newExc (.type "StopIteration") [] >>= _) _ _ _
  refine wpAny_bind ?_
  simp only [newExc, newTuple]
  refine wpAny_bind (wpAny_newObj_type ?_ (by size_fits))
  refine wpAny_bind (m := firstArgMember _ _) (wpAny_of_eq (a := Value.none) (by first | rfl | (simp only [firstArgMember]; rfl)) ?_)
  refine wpAny_newObj_type ?_ (by size_fits)
  have h1' : (s.heap.update it (Obj.mapFields (·.setIfInBounds 0 .none))).get? x1 = some o1 := by rw [Heap.get?_update_other _ _ (Ne.symm hx1)]; exact h1
  refine raiseNew_hot (x1 := x1) ⟨hh, o1, vs1, Heap.get?_push_of_some _ (Heap.get?_push_of_some _ h1'), d1, c1⟩ (Nat.ne_of_lt (Heap.lt_size (Heap.get?_push_of_some _ h1'))) (Heap.get?_push_size _ rfl) rfl (by first | (simp; done) | (simp; omega) | (simp only [Array.size_append]; simp; omega)) ?_
  refine wpAny_bind (wpAny_isInstance (T := "StopIteration") (b := true) ⟨_, Heap.get?_update_self _ (Heap.get?_push_size _ rfl) rfl, rfl⟩ isSubtype_stop ?_)
  refine wpAny_pure (hQ _ fun b o hb e => ?_)
  have e1 : (s.heap.update it (Obj.mapFields (·.setIfInBounds 0 .none))).get? b = some o := by rw [Heap.get?_update_other _ _ (Ne.symm hb)]; exact e
  rw [Heap.get?_update_other _ _ (Nat.ne_of_gt (Heap.lt_size (Heap.get?_push_of_some _ e1)))]
  exact Heap.get?_push_of_some _ (Heap.get?_push_of_some _ e1)
/-- a list is walked -/
theorem walks_list {x1 : Addr} (I ax : Addr) (hne : ax ≠ I) (hx1 : x1 ≠ I) (items : Array Value) :
    Walks prog w A I [I, ax, x1] [I] items.size (fun i v => items[i]? = some v) (fun i h => h.IsListIter I ax i ∧ h.IsList ax items ∧ HotAt A x1 h) where
  sub := fun b hb => by simp at hb; simp [hb]
  frame := fun _ _ _ st hk => ⟨st.1.at fun o e => hk I (by simp) o e, st.2.1.at fun o e => hk ax (by simp) o e, HotAt.keeps st.2.2 fun o e => hk x1 (by simp) o e⟩
  item := fun i s Q E hi st hQ => by
    refine wpAny_pyNext_list_item st.1 st.2.1 (x := items[i]) (by simp [hi]) fun g hit' hs' => ?_
    exact hQ _ g s.toks (by simp [hi]) ⟨hit', st.2.1.extBut hs'.extBut hne, HotAt.keeps st.2.2 fun o e => hs'.extBut x1 o hx1 e⟩ fun b o hb e => hs'.extBut b o (fun q => hb (by simp [q])) e
  done := fun s Q E st hQ => next_list_end st.2.2 hx1 st.1 st.2.1 (by simp) fun g he' => hQ g s.toks fun b o hb e => he' b o (fun q => hb (by simp [q])) e
  self := fun _ _ _ _ st hQ => wpAny_pyIter_listiter st.1 hQ
theorem sum_ints {x1 l : Addr} {xs : Array (Int × Tok)} {Q : Value → Shared → Prop} (hot : HotAt A x1 s.heap) (hl : s.heap.IsList l (intItems xs))
    (h : ∀ g tk t', (∀ b o, s.heap.get? b = some o → g.get? b = some o) → Q (.int (preSum (numAt xs) xs.size) t') { s with heap := g, toks := tk }) : wpAny (model prog w) A (call (.builtin "sum") [.ref l]) Q E s := by
  obtain ⟨hh, o1, vs1, h1, d1, c1⟩ := id hot
  refine call_sum_walkG (iter_intList hl fun s2 e st hfp hlI => ?_)
  subst e
  have hx1 : x1 ≠ s.heap.objs.size := Nat.ne_of_lt (Heap.lt_size h1)
  have hot2 : HotAt A.in1 x1 (s.heap.push { cls := .type "list_iterator", data := .fields #[.ref l, .int 0 0] }) := ⟨hh, o1, vs1, Heap.get?_push_of_some _ h1, d1, c1⟩
  refine ⟨_, _, _, _, _, _, numAt xs, rfl, walks_list (A := A.in1) _ l hlI hx1 (intItems xs), ⟨st.1, st.2, hot2⟩, fun b hb => ?_, (fun _ _ => intItems_at), fun g tk t' hk => ?_⟩
  · simp only [List.mem_cons, List.not_mem_nil, or_false] at hb
    rcases hb with rfl | rfl | rfl
    · exact hfp _ (by simp)
    · exact hfp _ (by simp)
    · exact Heap.lt_size (Heap.get?_push_of_some _ h1)
  · have := h g tk t' (old_kept hk)
    simpa [intItems] using this
theorem sum_vals {x1 l : Addr} {its : List Value} {ns : List Int} {Q : Value → Shared → Prop} (hot : HotAt A x1 s.heap) (hl : s.heap.IsList l its.toArray) (hi : IntsAre its ns)
    (h : ∀ g tk t', (∀ b o, s.heap.get? b = some o → g.get? b = some o) → Q (.int ns.sum t') { s with heap := g, toks := tk }) : wpAny (model prog w) A (call (.builtin "sum") [.ref l]) Q E s := by
  obtain ⟨xs, e⟩ := hi.allInts.items
  have hn : numsOf (intItems xs).toList = ns := by rw [← e]; exact hi.numsOf
  rw [nums_intItems] at hn
  rw [e] at hl
  refine sum_ints hot hl fun g tk t' hk => ?_
  have z := h g tk t' hk
  rw [preSum_eq, List.take_of_length_le (by simp), hn]
  exact z
end
section
variable {X : Cx}
theorem cr_sumH (hc : HotC X) : CallR X (.builtin "sum") (rSum X.K) := by
  intro pins s σ H vs us Q I r h
  obtain ⟨a, ns, rfl, hs, q⟩ := h
  obtain ⟨its, rv, hl, _⟩ := I.list hs
  obtain ⟨x1, hot⟩ := hc.at I
  rw [Vals.ref1 r]
  exact sum_vals hot hl.isList rv.ints fun g tk t' hk => ⟨.int _, H, I.kept hk, ⟨_, rfl⟩, q⟩
/-- the handled one is none of the iterator's -/
theorem hot_ne {X : Cx} {pins : List (Addr × Obj)} {σ : L2.St} {H : Hp} {s : Shared} {it : Addr} {p : Addr × Obj} (hot : Hot1 X.A p) (hp : p ∈ X.pn ++ pins) (I : Inv X pins σ H s) (f : FpOk X pins H it) : HotAt X.A p.1 s.heap ∧ p.1 ≠ it := by
  obtain ⟨hh, v1, e1, c1⟩ := hot
  exact ⟨⟨hh, p.2, v1, (I.pin p hp).1, e1, c1⟩, f.2.2.2.2.2 p hp⟩
/-- a turn over a list, and its end -/
theorem list_item {tg : Expr} {a it : Addr} {i : Nat} {pins : List (Addr × Obj)} {s : Shared} {σ : L2.St} {H : Hp} {E : Value → Shared → Prop} {xs : List V} {x : V} (I : Inv X pins σ H s) (hf : FpOk X pins H it) (st : s.heap.IsListIter it a i) (hq : SqL X.K H a xs) (hx : xs[i]? = some x) :
    wpAny (model X.prog X.w) X.A (pyNext (.ref it)) (fun r s1 => ∃ u, r = some u ∧
      wpAny (model X.prog X.w) X.A (letOwnedTupleGo tg (.ref it) u) (fun _ s2 => Inv X pins σ H s2 ∧ RelV x u ∧ s2.heap.IsListIter it a (i + 1)) E s1) E s := by
  obtain ⟨its, rv, pl, hz⟩ := I.list hq
  obtain ⟨u, hu, ru⟩ := rv.get hx
  obtain ⟨f0, f1, f2, f3, f4, f5⟩ := hf
  refine wpAny_pyNext_list_item st pl.isList (x := u) (by simpa using hu) fun g st' sb => ?_
  have I1 : Inv X pins σ H { s with heap := g } := I.turned (t' := s.toks) (fun b o hb e => (sb.2 b hb).trans e) f0 f1 f3 f4 f5
  obtain ⟨o, e, c, d⟩ := id st'
  exact ⟨u, rfl, go_of (s := { s with heap := g }) e c d (by decide) ⟨I1, ru, st'⟩⟩
theorem list_done {a it : Addr} {i : Nat} {pins : List (Addr × Obj)} {s : Shared} {σ : L2.St} {H : Hp} {E : Value → Shared → Prop} {xs : List V} {p : Addr × Obj} (hot : Hot1 X.A p) (hp : p ∈ X.pn ++ pins) (I : Inv X pins σ H s) (hf : FpOk X pins H it) (st : s.heap.IsListIter it a i) (hq : SqL X.K H a xs) (hx : xs.length ≤ i) :
    wpAny (model X.prog X.w) X.A (pyNext (.ref it)) (fun r s1 => r = none ∧ Inv X pins σ H s1) E s := by
  obtain ⟨its, rv, pl, hz⟩ := I.list hq
  obtain ⟨ha, hne⟩ := hot_ne hot hp I hf
  obtain ⟨f0, f1, f2, f3, f4, f5⟩ := hf
  have hl := rv.length
  exact next_list_end ha hne st pl.isList (by simp; omega) fun g eb => ⟨rfl, I.turned (t' := s.toks) (fun b o hb e => eb b o hb e) f0 f1 f3 f4 f5⟩
/-- [elt for tg in l ..], while an exception is handled -/
theorem pe_lcH {elt tg l : Expr} {ifs : List Expr} {scope : Scope} {own : List (Str × Nat)} {pos : Pos} {tl : TE} {g : TG} {tt : TT} {te : TE} (hc : HotC X) (hN : X.N.Nodup) (hl : PE X l tl) (ok : BlkOk X.N X.env.scope scope own)
    (hg : ∀ (s : Shared) (H : Hp) (C : Addr) (cl : List (Str × Addr)) (fp : List Addr), PG (X.blk s H scope (compEnvC scope cl C X.env) fp) tg g)
    (ht : ∀ (s : Shared) (H : Hp) (C : Addr) (cl : List (Str × Addr)) (fp : List Addr), PTs (X.blk s H scope (compEnvC scope cl C X.env) fp) ifs tt)
    (he : ∀ (s : Shared) (H : Hp) (C : Addr) (cl : List (Str × Addr)) (fp : List Addr), PE (X.blk s H scope (compEnvC scope cl C X.env) fp) elt te) (hs : ∀ x, foldedSetIterable l X.env x = pure x) :
    PE X (.ListComp elt [⟨tg, l, ifs, 0⟩] scope pos) (tLc (iList X.K tl) g tt te (own.map (·.2))) := by
  refine ⟨fun pins s σ H Q I h => ?_⟩
  rw [eval_ListComp]
  obtain ⟨p, hot, hp⟩ := hc
  have hfree : ∀ y ∈ scope.names, y.2 = .free → ∃ c, X.env.cells.lookup y.1 = some c := fun y hy e => (ok.free y hy e).elim (fun k => I.ok.has _ (.inl k)) (fun k => I.ok.has _ (.inr k))
  refine wpAny_comprehension_free (use := none) rfl hs (closure_ok hfree) ok.kind (fun y hy e => by rw [ok.uniq y hy, e]) (thn (hl.run pins s σ H _ I h) fun v s1 ⟨x, H2, I1, r1, q1⟩ => ?_)
  obtain ⟨a, e, ⟨xs0, hq0⟩, q⟩ := q1
  subst e
  cases r1
  obtain ⟨its0, rv0, p0, hz0⟩ := I1.list hq0
  refine wpAny_pyIter_list p0.isList ?_
  generalize hit : s1.heap.objs.size = it
  generalize hs2 : ({ s1 with heap := s1.heap.push { cls := .type "list_iterator", data := .fields #[.ref a, .int 0 0] } } : Shared) = s2
  have h2 : s2.heap = s1.heap.push { cls := .type "list_iterator", data := .fields #[.ref a, .int 0 0] } := by rw [← hs2]
  have I2 : Inv X pins σ H2 s2 := by rw [← hs2]; exact I1.kept (t' := s1.toks) fun b o e => Heap.get?_push_of_some _ e
  have st2 : s2.heap.IsListIter it a 0 := by rw [h2, ← hit]; exact ⟨_, Heap.get?_push_size _ rfl, rfl, rfl⟩
  have f2 : FpOk X pins H2 it := by rw [← hit]; exact I1.fpOk (Nat.le_refl _) (I1.hok.fresh (Nat.le_refl _))
  have lt2 : it < s2.heap.objs.size := by rw [h2, Heap.size_push, hit]; exact Nat.lt_succ_self _
  refine wpAny_newObj_type (newEnv_comp ?_) (by show 0 ≤ sizeLine; decide)
  generalize hD : s2.heap.objs.size = D
  have hDn : H2 D = none := I2.hok.fresh (Nat.le_of_eq hD)
  obtain ⟨W, ⟨m0, w0⟩, turn⟩ := q D hDn
  generalize hs3 : ({ s2 with heap := s2.heap.push { cls := .type "list", data := .seq ([] : List Value).toArray } } : Shared) = s3
  have h3 : s3.heap = s2.heap.push { cls := .type "list", data := .seq ([] : List Value).toArray } := by rw [← hs3]
  have I3 : Inv X pins σ (upd H2 D (.lst [])) s3 := by
    rw [← hs3]
    refine I2.laid (t' := s2.toks) (fun b o e => Heap.get?_push_of_some _ e) (Nat.le_of_eq hD) ⟨Nat.zero_le _, [], 0, .nil, ?_⟩
    rw [← hD]
    exact Heap.get?_push_size _ rfl
  generalize hH3 : upd H2 D (.lst []) = H3 at I3 w0
  have f3 : FpOk X pins H3 it ∧ it < s3.heap.objs.size := by
    refine ⟨⟨?_, f2.2⟩, by rw [h3, Heap.size_push]; exact Nat.lt_succ_of_lt lt2⟩
    rw [← hH3, upd_ne (by rw [← hD]; exact Nat.ne_of_lt lt2)]
    exact f2.1
  have st3 : s3.heap.IsListIter it a 0 := st2.at fun o e => by rw [h3]; exact Heap.get?_push_of_some _ e
  have I4 := block_start (fp := [it]) I3 ok hN fun b hb => by rw [List.mem_singleton.mp hb]; exact f3
  have P3 := I3.pin p (List.mem_append_left _ hp)
  have hlt : p.1 < s3.heap.objs.size := Heap.lt_size P3.1
  have pg := hg s3 H3 s3.heap.objs.size (cellsFrom (s3.heap.objs.size + 1) scope.names (cloFrom X.env.cells scope.names [])) [it]
  have pt := ht s3 H3 s3.heap.objs.size (cellsFrom (s3.heap.objs.size + 1) scope.names (cloFrom X.env.cells scope.names [])) [it]
  have pe := he s3 H3 s3.heap.objs.size (cellsFrom (s3.heap.objs.size + 1) scope.names (cloFrom X.env.cells scope.names [])) [it]
  show codeAny _ _ (.compStart (.ListComp elt [⟨tg, l, ifs, 0⟩] scope pos) 0 (.ref it) (.ref D) (compEnvC scope (cellsFrom (s3.heap.objs.size + 1) scope.names (cloFrom X.env.cells scope.names [])) s3.heap.objs.size X.env)) (compPost (model X.prog X.w) X.A X.xe none (EP X pins σ Q) (.ref D) s3.heap.objs.size) { s3 with heap := pushCells (s3.heap.push { cls := .type "dict", data := .dict #[] }) scope.names }
  generalize hce : compEnvC scope (cellsFrom (s3.heap.objs.size + 1) scope.names (cloFrom X.env.cells scope.names [])) s3.heap.objs.size X.env = ce at I4 pg pt pe ⊢
  have cL : ce.locals = s3.heap.objs.size := by subst hce; rfl
  generalize hs4 : ({ s3 with heap := pushCells (s3.heap.push { cls := .type "dict", data := .dict #[] }) scope.names } : Shared) = s4 at I4 ⊢
  have k34 : ∀ b o, s3.heap.get? b = some o → s4.heap.get? b = some o := fun b o e => by rw [← hs4]; exact pushCells_keeps _ _ _ _ (Heap.get?_push_of_some _ e)
  have st4 : s4.heap.IsListIter it a 0 := st3.at fun o e => k34 it o e
  -- the handled exception is pinned in the block, too
  have I4p : Inv (X.blk s3 H3 scope ce [it]) [p] (wipe σ (own.map (·.2))) H3 s4 := I4.pins_of fun q hq => by
    rw [List.mem_singleton.mp hq]
    refine ⟨k34 _ _ P3.1, P3.2.1, by show p.1 ≠ ce.locals; rw [cL]; exact Nat.ne_of_lt hlt, fun hm => ?_, P3.2.2.2.2⟩
    exact (List.mem_cons.mp (I3.stkSub p.1 hm)).elim P3.2.2.1 P3.2.2.2.1
  have hpb : p ∈ (X.blk s3 H3 scope ce [it]).pn ++ [p] := List.mem_append_right _ List.mem_cons_self
  have hpi : p.1 ≠ it := f3.1.2.2.2.2.2 p (List.mem_append_left _ hp)
  have stat : ∀ {σ' : L2.St} {H' : Hp} {s' : Shared}, Inv (X.blk s3 H3 scope ce [it]) [p] σ' H' s' → H' it = none → FpOk (X.blk s3 H3 scope ce [it]) [p] H' it := fun {σ' H' s'} I' hn =>
    have hm : it ∈ (X.blk s3 H3 scope ce [it]).ex := List.mem_cons_self
    ⟨hn, (I'.ok.exf it hm).1, I'.ok.exfs it hm, .inl hm, fun x c e => (I'.ok.exf it hm).2 x c e, fun q hq => by
      have hq' : q ∈ ([] : List (Addr × Obj)) ++ [p] := hq
      rw [List.nil_append, List.mem_singleton] at hq'
      rw [hq']
      exact hpi⟩
  have loop : codeAny (model X.prog X.w) X.A (.compLoop (.ListComp elt [⟨tg, l, ifs, 0⟩] scope pos) 0 (.ref it) (.ref D) ce) (compPost (model X.prog X.w) X.A X.xe none (EP X pins σ Q) (.ref D) s3.heap.objs.size) s4 := by
    refine compLoop_any (fun n s' => ∃ i H', Inv (X.blk s3 H3 scope ce [it]) [p] (wipe σ (own.map (·.2))) H' s' ∧ s'.heap.IsListIter it a i ∧ H' it = none ∧ W i n H') ?_ m0 ⟨0, H3, I4p, st4, f3.1.1, w0⟩
    rintro n s5 ⟨i, H5, I5, st5, n5, w5⟩
    rcases turn i n H5 w5 with ⟨⟨xs, hxs, hxi⟩, qq⟩ | ⟨⟨xs, x, hxs, hxi⟩, Nx, hNx, step⟩
    · refine thnF (list_done (X := X.blk s3 H3 scope ce [it]) (E := fun _ _ => False) hot hpb I5 (stat I5 n5) st5 hxs hxi) fun r s6 ⟨hr, I6⟩ => ?_
      subst hr
      have I7 : Inv X pins σ H5 s6 := I3.call' (ch := [it]) I6.os I6.base I6.hok I6.bare fun b hb => by
        rw [List.mem_singleton.mp hb]
        exact ⟨f3.1.2.2.2.1, f3.1.2.1, f3.1.2.2.2.2.1, f3.1.2.2.2.2.2⟩
      have nC : H5 s3.heap.objs.size = none := by
        have z : H5 ce.locals = none := I6.free
        rw [cL] at z
        exact z
      obtain ⟨m, hn, _⟩ := I6.loc
      have hn : s6.heap.Ns ce.locals m := hn
      rw [cL] at hn
      refine ⟨m, hn, fun h'' sb => ?_⟩
      obtain ⟨g0, g1, g2, g3, g4, g5⟩ := I3.fpOk (Nat.le_refl _) nC
      exact ⟨.ref D, H5, I7.turned (t' := s6.toks) (fun b o hb e => (sb.2 b hb).trans e) g0 g1 g3 g4 g5, rfl, qq⟩
    · refine thnF (list_item (X := X.blk s3 H3 scope ce [it]) (tg := tg) (E := fun _ _ => False) I5 (stat I5 n5) st5 hxs hxi) fun r s6 ⟨u, hr, h6⟩ => ?_
      subst hr
      refine thnF h6 fun _ s7 ⟨I7, r7, st7⟩ => ?_
      obtain ⟨oi, ei, di⟩ : ∃ o, s7.heap.get? it = some o ∧ ∀ v, o.data ≠ .cell v := by
        obtain ⟨o, e, c, d⟩ := id st7
        exact ⟨o, e, fun v z => by rw [d] at z; cases z⟩
      have I7' : Inv (X.blk s3 H3 scope ce [it]) ([p] ++ [(it, oi)]) (wipe σ (own.map (·.2))) H5 s7 := I7.pins_of fun b hb => by
        rcases List.mem_append.mp hb with hb | hb
        · exact I7.pin b (List.mem_append_right _ hb)
        · rw [List.mem_singleton.mp hb]
          obtain ⟨f0, f1, f2', _⟩ := stat I7 n5
          exact ⟨ei, f0, f1, f2', di⟩
      refine thnF (pg.run _ s7 _ H5 x u _ I7' r7 (step x H5 ⟨rfl, fun ys hy => by rw [I5.list_inj hy hxs]; exact hxi⟩)) fun _ s8 ⟨σ8, H8, I8, hw8, q8⟩ => ?_
      refine thnF (pt.run _ s8 σ8 H8 _ I8 q8) fun b s9 ⟨H9, I9, q9⟩ => ?_
      have fin : ∀ {s' : Shared} {H' : Hp}, Inv (X.blk s3 H3 scope ce [it]) ([p] ++ [(it, oi)]) σ8 H' s' → Nx H' → ∃ m, m < n ∧ ∃ i H', Inv (X.blk s3 H3 scope ce [it]) [p] (wipe σ (own.map (·.2))) H' s' ∧ s'.heap.IsListIter it a i ∧ H' it = none ∧ W i m H' := fun {s' H'} I' nx => by
        obtain ⟨m', hm, w'⟩ := hNx H' nx
        obtain ⟨z1, z2, _⟩ := I'.pin (it, oi) (List.mem_append_right _ (List.mem_append_right _ List.mem_cons_self))
        have hlen : (wipe σ (own.map (·.2))).length = σ8.length := by rw [← hw8, wipe_length]
        refine ⟨m', hm, i + 1, H', (I'.unpinned (pins := [p])).weak hlen (fun j v e => ?_), st7.at fun o e => ?_, z2, w'⟩
        · rw [← hw8] at e
          exact (wipe_some e).1
        · rw [ei] at e
          cases e
          exact z1
      cases b with
      | false =>
        simp only [Bool.false_eq_true, if_false] at q9 ⊢
        exact fin I9 q9
      | true =>
        simp only [if_true] at q9 ⊢
        refine thnF (pe.run _ s9 σ8 H9 _ I9 q9) fun z s10 ⟨yv, H10, I10, r10, acc, hD10, hz10, nx⟩ => ?_
        exact app_ok (X := X.blk s3 H3 scope ce [it]) I10 hD10 hz10 r10 fun s11 I11 => fin I11 nx
  exact codeAny_compStart_list loop (wpAny_pyIter_listiter st4 loop)
end
end FkH

/-! told(lambda: body): the lambda is made, handed over, called in a try; what it raises is named by a def that is called in the except suite. -/
namespace FkL
open PySem PySem.Spec PyProof.Rows L2 HotX L2H LamX FkH
set_option autoImplicit false
theorem inv_xe {X : Cx} {pins : List (Addr × Obj)} {σ : L2.St} {H : Hp} {s : Shared} (f : Value → Shared → Prop) (I : Inv X pins σ H s) : Inv { X with xe := f } pins σ H s := by
  obtain ⟨ok, i2, i3, i4, i5, i6, i7, i8, i9, i10, i11⟩ := I
  obtain ⟨o1, o2, o3, o4, o5, o6, o7, o8, o9, o10, o11, o12, o13, o14, o15, o16, o17, o18⟩ := ok
  exact ⟨⟨o1, o2, o3, o4, o5, o6, o7, o8, o9, o10, o11, o12, o13, o14, o15, o16, o17, o18⟩, i2, i3, i4, i5, i6, i7, i8, i9, i10, i11⟩
/-- the context of the lambda's body; exceptions leave it with no context -/
abbrev lamN (X : Cx) (A : Around) (outer : List Env) (s : Shared) (H : Hp) (E : XK) (scope : Scope) (f c' : Addr) : Cx :=
  { lamCx X A outer s H E scope f c' with xe := fun e s' => wpAny (model X.prog X.w) (A.deeper (lamEnv X scope s.heap.objs.size f c')) (leaving (lamEnv X scope s.heap.objs.size f c') e) (fun _ s'' => L2N.CX X.prog X.w outer H s E e s'') (fun e' s'' => L2N.CX X.prog X.w outer H s E e' s'') s' }
section
variable {X : Cx} {pins : List (Addr × Obj)} {σ : L2.St} {H : Hp} {s : Shared}
/-- x(), in the def that got the lambda -/
theorem pe_actN {CXg : CXT} {Eg : XK} {Ng : List Str} {qg : Str} {sg : Scope} {g f c' : Addr} {cdg pm ctv : Value} {params : Arguments} {body : Expr} {scope : Scope} {k i : Nat} {a : Str} {pn : List (Addr × Obj)} {xe : Value → Shared → Prop} {W : WX} {E : XK} {tb : TE} {p1 p2 : Pos}
    (I : Inv X pins σ H s) (L : LamS X.env.scope scope) (hf : s.heap.get? f = some (PySem.W.kla_obj "<lambda>" (X.env.qual ++ "<lambda>") params body scope (cloFrom X.env.cells scope.names []) pm c' ctv)) (hfn : H f = none) (hfr : f ∉ frs X.stack)
    (hbind : bindArgs (PySem.W.kla_fn "<lambda>" (X.env.qual ++ "<lambda>") params body scope (cloFrom X.env.cells scope.names []) pm (.ref c') ctv) ⟨[], []⟩ = pure [])
    (tk : L2N.Takes ((cxOf CXg X.prog X.w X.K X.mg X.base Ng qg sg g cdg X.A X.stack s H Eg).tr pn xe) W) (hW : ∀ cls d (σ' : L2.St) H', σ'.length = Ng.length → E cls d H' → W cls d σ' H') (hr : Room (k + 1) (X.A.deeper (envOfC qg sg s.heap.objs.size g cdg)))
    (hbody : ∀ (A : Around) (outer : List Env) (s : Shared) (H : Hp), Room k (A.deeper (lamEnv X scope s.heap.objs.size f c')) → PE (lamN X A outer s H E scope f c') body tb)
    (hN : Ng[i]? = some a) (hv : Vis sg a) (hd : (a == ("__debug__" : Str)) = false) (hcd : (a == ("__classdict__" : Str)) = false) :
    PE ((cxOf CXg X.prog X.w X.K X.mg X.base Ng qg sg g cdg X.A X.stack s H Eg).tr pn xe) (.Call (.Name a p1) [] [] p2)
      (fun σZ HZ Q => σZ[i]? = some (some (.ref f)) ∧ HZ c' = some (CodeO c' (X.env.qual ++ "<lambda>")) ∧ tb σ HZ Q) := by
  refine ⟨fun pinsZ sZ σZ HZ Q IZ h => ?_⟩
  obtain ⟨hs, hc, ht⟩ := h
  refine wpAny_Call_Name_kw (thn ((pe_var (pos := p1) (i := i) hN hv hd hcd).run pinsZ sZ σZ HZ (fun v H1 => v = .ref f ∧ H1 = HZ) IZ ⟨.ref f, hs, rfl, rfl⟩) fun u s1 ⟨v, H1, I1, r1, q1⟩ => ?_)
  obtain ⟨ev, eH⟩ := q1
  subst ev
  rw [eH] at I1
  obtain rfl : u = Value.ref f := r1
  have of1 := I1.base.keep f _ hf hfn hfr (fun z => nomatch (show f ∈ ([] : List Addr) from z))
  refine PySem.W.callWith_F0 ⟨_, _, _, _, of1⟩ ?_
  have un : Un (frs X.stack) [] H HZ s.heap s1.heap := I1.base
  obtain ⟨⟨oc, vs, t, hoc, hdc, hvc⟩, _, _⟩ := I1.hok c' _ hc
  have rc : codeAny (model X.prog X.w) (X.A.deeper (envOfC qg sg s.heap.objs.size g cdg)) (.call (.ref f) ⟨[], []⟩) (CR (L2N.CX X.prog X.w) (envOfC qg sg s.heap.objs.size g cdg :: X.stack) X.prog X.w HZ s1 Q E) s1 := by
    refine PySem.W.kla_callFunE hr.depth of1 rfl L.co L.gen rfl ⟨c', oc, vs, t, rfl, hoc, hdc, hvc⟩ ?_
    rw [hbind]
    refine wpAny_pure (wpAny_newFunctionEnv (fun y hy => (L.own y hy).2) (fun y hy => absurd hy (by simp)) (fun g1 hns hsb => ⟨I1.nolimit.fresh _ hsb, ?_⟩) L.kind)
    show codeAny _ _ (.expr body (lamEnv X scope s1.heap.objs.size f c')) _ _
    have kp : ∀ b o, s1.heap.get? b = some o → g1.get? b = some o := fun b o e => hsb.extBut b o (Nat.ne_of_lt (Heap.lt_size e)) (Heap.get?_push_of_some _ e)
    have J := inv_xe (fun e s' => wpAny (model X.prog X.w) ((X.A.deeper (envOfC qg sg s.heap.objs.size g cdg)).deeper (lamEnv X scope s1.heap.objs.size f c')) (leaving (lamEnv X scope s1.heap.objs.size f c') e) (fun _ s'' => L2N.CX X.prog X.w (envOfC qg sg s.heap.objs.size g cdg :: X.stack) HZ s1 E e s'') (fun e' s'' => L2N.CX X.prog X.w (envOfC qg sg s.heap.objs.size g cdg :: X.stack) HZ s1 E e' s'') s') (lam_start2 (E := E) (f := f) (c' := c') (tk := s1.toks + ([] : List (Str × Value)).length) I L I1.env0 hr.hd un hns kp)
    refine PySem.W.kla_codeExpr (wpAny_mono ((hbody _ _ s1 HZ (hr.deeper _)).run [] _ _ HZ Q J ht) (fun v s' hq => ?_) fun e s' hq => hq)
    obtain ⟨w', H', J', rv, q⟩ := hq
    exact ⟨w', H', J'.os, J'.bare, J'.base, J'.hok, rv, q⟩
  refine wpAny_call (codeAny_mono rc fun r s' hq => ?_)
  cases r with
  | error e => exact tk e s' (L2N.XE.of_call I1 (fun cls d H' h => hW cls d σZ H' I1.len h) hq)
  | ok fl =>
    cases fl with
    | ret u => exact I1.after hq
    | next => exact False.elim hq
    | brk => exact False.elim hq
    | cont => exact False.elim hq
end
/-- what the def that names a caught exception promises: of the class D, from H, to Q -/
abbrev SpT := Addr → Hp → VK → Prop
/-- it keeps it, called in an except suite -/
def TermOk (P : Program) (w : World) (K : PySem.W.Frag) (mg : Str → Option Value) (base : Heap) (k : Nat) (ft : Addr) (sp : SpT) : Prop :=
  ∀ (A : Around) (outer : List Env) (s : Shared) (H : Hp) (Q : VK) (D : Addr) (p : Addr × Obj), RoomH k A → Hot1 A p → L2N.Zn (.ref D) none p.2 → PinOk outer H s p → Env0 P w K mg base A outer s H → sp D H Q →
    codeAny (model P w) A (.call (.ref ft) ⟨[.ref p.1], []⟩) (CR C8.CX0 outer P w H s Q C8.E0) s
/-- what is wanted of an exception of the lambda's -/
def ECof (K : PySem.W.Frag) (CS : Addr) (sp : SpT) (Q : VK) : XK := fun cls d H => d = none ∧ ∃ D, cls = .ref D ∧ PySem.W.exmOne K (.ref D) (.ref CS) = some true ∧ sp D H Q
section
variable {X : Cx}
theorem told_body {Ng : List Str} {x : Str} {sg : Scope} {g CS ft : Addr} {cdg : Value} {k : Nat} {sp : SpT} {a e tn q : Str} {p1 p2 p3 p4 p5 p6 p7 p8 p9 p10 : Pos} {f c' : Addr} {s : Shared} {H : Hp} {Q : VK} {tl : XK → Hp → VK → Prop}
    (hNg : Ng = [a, e]) (hae : a ≠ e) (hle : sg.names.lookup e = some .local) (hgC : sg.names.lookup ("FlowError" : Str) = some NameKind.globalImplicit) (hmC : X.mg "FlowError" = some (.ref CS))
    (hgT : sg.names.lookup tn = some .globalImplicit) (hmT : X.mg tn = some (.ref ft)) (hkT : PySem.W.keepIn X.K (.ref ft) = true) (hdT : (tn == ("__debug__" : Str)) = false) (hde : (e == ("__debug__" : Str)) = false) (hce : (e == ("__classdict__" : Str)) = false)
    (T : TermOk X.prog X.w X.K X.mg X.base k ft sp) (hr : RoomH k (X.A.deeper (envOfC x sg s.heap.objs.size g cdg)))
    (act : ∀ (W : WX) (pn : List (Addr × Obj)) (xe : Value → Shared → Prop) (E : XK), L2N.Takes ((cxOf C8.CX0 X.prog X.w X.K X.mg X.base Ng x sg g cdg X.A X.stack s H C8.E0).tr pn xe) W → (∀ cls d (σ' : L2.St) H', σ'.length = Ng.length → E cls d H' → W cls d σ' H') →
      PE ((cxOf C8.CX0 X.prog X.w X.K X.mg X.base Ng x sg g cdg X.A X.stack s H C8.E0).tr pn xe) (.Call (.Name a p1) [] [] p2) (fun σZ HZ Q => σZ[0]? = some (some (.ref f)) ∧ HZ c' = some (CodeO c' q) ∧ tl E HZ Q))
    (hc : H c' = some (CodeO c' q)) (h : tl (ECof X.K CS sp Q) H Q) :
    ∃ t, PSs (cxOf C8.CX0 X.prog X.w X.K X.mg X.base Ng x sg g cdg X.A X.stack s H C8.E0).nox
        [.Try [.Return (some (.Call (.Name a p1) [] [] p2)) p3] [.ExceptHandler (some (.Name "FlowError" p4)) (some e) [.Return (some (.Call (.Name tn p5) [.Name e p6] [] p7)) p8] p9] [] [] p10] t ∧ t { nx := fun _ H' => Q .non H', rt := Q } (L2.start Ng [.ref f]) H := by
  let Z := (cxOf C8.CX0 X.prog X.w X.K X.mg X.base Ng x sg g cdg X.A X.stack s H C8.E0).nox
  have nd : Ng.Nodup := by rw [hNg]; simp [hae]
  have n1 : Ng[1]? = some e := by rw [hNg]; rfl
  have n0 : (L2.start Ng [V.ref f])[0]? = some (some (V.ref f)) := by rw [hNg]; rfl
  have nl : Ng.length = 2 := by rw [hNg]; rfl
  have hgl : Gl Z "FlowError" := hgC
  refine ⟨_, pss_one (L2N.ps_try_as (X := Z) (c := .ref CS) (i := 1) (Wout := fun _ _ _ _ => False)
      (tb := fun W D σ H => ∃ Ech : XK, (∀ cls d (σ' : L2.St) H', σ'.length = Ng.length → Ech cls d H' → W cls d σ' H') ∧ σ[0]? = some (some (.ref f)) ∧ H c' = some (CodeO c' q) ∧ tl Ech H D.rt)
      (ts := fun a cls d D σ H => ∃ Dc, cls = .ref Dc ∧ d = none ∧ σ[1]? = some (some (.ref a)) ∧ sp Dc H D.rt)
      rfl rfl nd n1 hle ⟨hgl, by decide, .inl hmC⟩ ?_ (fun W pn xe tk _ => ?_) (fun a oe cls d pn hz hv => ?_)), ?_⟩
  · intro u s' xx
    obtain ⟨_, _, _, _, _, _, _, _, _, _, _, _, _, _, _, _, z⟩ := xx
    exact z.elim
  · refine ⟨fun pins s' σ H' D I h' => ?_⟩
    obtain ⟨Ech, hW, h1, h2, h3⟩ := h'
    exact (pss_one (ps_ret (pos := p3) (act W pn xe Ech tk hW))).run pins s' σ H' D I ⟨h1, h2, h3⟩
  · refine pss_one ⟨fun pins s' σ H' D I h' => ?_⟩
    obtain ⟨Dc, rfl, rfl, h1, h2⟩ := h'
    refine (ps_ret (pos := p8) (X := Z.suite a ((a, oe) :: pn)) (te := fun σ H' Q => σ[1]? = some (some (.ref a)) ∧ sp Dc H' Q) ⟨fun pins s' σ H' Q I h => ?_⟩).run pins s' σ H' D I ⟨h1, h2⟩
    obtain ⟨h1, h2⟩ := h
    have hgt : Gl (Z.suite a ((a, oe) :: pn)) tn := hgT
    refine wpAny_Call_Name_kw (ld_glob I hgt hmT ?_ hdT)
    have ha : PA (Z.suite a ((a, oe) :: pn)) [.Name e p6] _ := pa_cons (pe_var (pos := p6) (i := 1) n1 (.inl hle) hde hce) pa_nil
    refine PySem.W.callWith_K (h₀ := X.base) I.ok.mod.kin hkT (thn (ha.run p7 pins s' σ H' (fun vs H1 => vs = [.ref a] ∧ H1 = H') I ⟨.ref a, h1, rfl, rfl⟩) fun us s1 ⟨vs, H1, I1, r, ev, eH⟩ => ⟨I1.kIn, ?_⟩) (by rfl) (by rfl)
    subst ev
    subst eH
    rw [Vals.ref1 r]
    have P1 := I1.pin (a, oe) (List.mem_append_left _ List.mem_cons_self)
    have hpin : PinOk Z.stack H1 s1 (a, oe) := ⟨P1.1, P1.2.1, fun hm => (List.mem_cons.mp (I1.stkSub a hm)).elim P1.2.2.1 P1.2.2.2.1, P1.2.2.2.2⟩
    obtain ⟨vv, hvv⟩ := hv
    have hot : Hot1 (Z.suite a ((a, oe) :: pn)).A (a, oe) := ⟨rfl, vv, hvv, hz.2.2 vv hvv⟩
    refine wpAny_call (codeAny_mono (T (Z.suite a ((a, oe) :: pn)).A Z.stack s1 H1 Q Dc (a, oe) ⟨hr.dp, hr.un⟩ hot hz hpin I1.env0 h2) fun r s2 hq => ?_)
    cases r with
    | error e => exact (show False from hq).elim
    | ok fl =>
      cases fl with
      | ret u => exact I1.after hq
      | next => exact False.elim hq
      | brk => exact False.elim hq
      | cont => exact False.elim hq
  · refine ⟨ECof X.K CS sp Q, fun cls d σ' H' hl hE => ?_, n0, hc, h⟩
    obtain ⟨rfl, D, rfl, hx, hs⟩ := hE
    refine ⟨true, hx, fun _ a ha => ⟨D, rfl, rfl, ?_, hs⟩, fun z => by cases z⟩
    exact List.getElem?_set_self (by rw [hl, nl]; decide)
/-- what told(lambda: body) asks -/
def tTold (T : List (Addr × Str)) (CS : Addr) (sp : SpT) (t : XK → TE) : TE := fun σ H Q => Tabs T H ∧ ∀ H1, ExtN H H1 → Tabs T H1 → t (ECof X.K CS sp Q) σ H1 Q
theorem pe_told {T : List (Addr × Str)} {x a e tn : Str} {g CS ft c P : Addr} {k : Nat} {pg : Arguments} {sg : Scope} {dV kV doc pm cdv ct oc : Value} {an od : Option Addr} {osl : Array (Option Value)} {Ng : List Str} {sp : SpT}
    {params : Arguments} {body : Expr} {scope : Scope} {t : XK → TE} {p lpos pos p1 p2 p3 p4 p5 p6 p7 p8 p9 p10 : Pos} (hg : Gl X x) (hm : X.mg x = some (.ref g)) (hk : PySem.W.keepIn X.K (.ref g) = true)
    (lk : X.K.lookup g = some ⟨oc, od, .func (PySem.W.fnOf x x pg [.Try [.Return (some (.Call (.Name a p1) [] [] p2)) p3] [.ExceptHandler (some (.Name "FlowError" p4)) (some e) [.Return (some (.Call (.Name tn p5) [.Name e p6] [] p7)) p8] p9] [] [] p10] sg dV kV doc pm an cdv ct), osl⟩)
    (hcg : PySem.W.codeIn X.K cdv x = true) (hb : L2.Binds X.K (PySem.W.fnOf x x pg [.Try [.Return (some (.Call (.Name a p1) [] [] p2)) p3] [.ExceptHandler (some (.Name "FlowError" p4)) (some e) [.Return (some (.Call (.Name tn p5) [.Name e p6] [] p7)) p8] p9] [] [] p10] sg dV kV doc pm an cdv ct) [a] [])
    (Sg : FnScope Ng [a] sg) (hva : Vis sg a)
    (hNg : Ng = [a, e]) (hae : a ≠ e) (hle : sg.names.lookup e = some .local) (hgC : sg.names.lookup ("FlowError" : Str) = some NameKind.globalImplicit) (hmC : X.mg "FlowError" = some (.ref CS))
    (hgT : sg.names.lookup tn = some .globalImplicit) (hmT : X.mg tn = some (.ref ft)) (hkT : PySem.W.keepIn X.K (.ref ft) = true) (hdT : (tn == ("__debug__" : Str)) = false) (hde : (e == ("__debug__" : Str)) = false) (hce : (e == ("__classdict__" : Str)) = false)
    (TO : TermOk X.prog X.w X.K X.mg X.base k ft sp)
    (TB : TabB X.base X.mg c P) (hcode : X.env.code = .ref c) (hmTb : (P, X.env.qual ++ "<lambda>") ∈ T) (hu : ∀ p ∈ T, p.1 = P → p.2 = X.env.qual ++ "<lambda>") (hr : Room (k + 2) X.A) (L : LamS X.env.scope scope) (hdef : defaultsOf params X.env = ([], []))
    (hbind : ∀ (q : Str) (cl : List (Str × Addr)) (pm cv ctv : Value), bindArgs (PySem.W.kla_fn "<lambda>" q params body scope cl pm cv ctv) ⟨[], []⟩ = pure [])
    (hbody : ∀ (A : Around) (outer : List Env) (s : Shared) (H : Hp) (E : XK) (f c' : Addr), Room k (A.deeper (lamEnv X scope s.heap.objs.size f c')) → PE (lamN X A outer s H E scope f c') body (t E))
    (hdb : (x == ("__debug__" : Str)) = false) (hd : (a == ("__debug__" : Str)) = false) (hcd : (a == ("__classdict__" : Str)) = false) :
    PE X (.Call (.Name x p) [.Lambda params body scope lpos] [] pos) (tTold (X := X) T CS sp t) := by
  refine ⟨fun pins s σ H Q I h => ?_⟩
  obtain ⟨hT, h⟩ := h
  refine wpAny_Call_Name_kw (ld_glob I hg hm ?_ hdb)
  refine PySem.W.callWith_K (h₀ := X.base) I.ok.mod.kin hk ?_ (by rfl) (by rfl)
  show wpAny _ _ (spliced ((false, eval (.Lambda params body scope lpos) X.env) :: backTo pos (starEach [] X.env))) _ _ s
  refine Calls.spliced_cons (lam_make2 I TB hcode hmTb hu hT hdef (L.has I.ok) fun f c' pm' ctv H1 s' I1 eN T1 hf hfn hfr hco => ?_)
  refine Calls.spliced_nil ⟨I1.kIn, ?_⟩
  have rc : codeAny (model X.prog X.w) X.A (.call (.ref g) ⟨[.ref f], []⟩) (CR C8.CX0 X.stack X.prog X.w H1 s' Q C8.E0) s' := by
    refine run_ofS (N := Ng) (ps := [a]) (us := [.ref f]) (vs := [.ref f]) lk hcg Sg hr I1.env0 (hb s' [.ref f] I1.kIn rfl) (.cons rfl .nil) rfl fun hr' => ?_
    obtain ⟨t', ht', hq'⟩ := told_body (X := X) (f := f) (c' := c') (q := X.env.qual ++ "<lambda>") (tl := fun E H' Q' => t E σ H' Q') hNg hae hle hgC hmC hgT hmT hkT hdT hde hce TO (roomH_of (hr'.mono (Nat.le_succ k)))
      (fun W pn xe E tk hW => pe_actN (i := 0) I1 L hf hfn hfr (hbind _ _ _ _ _) tk hW hr' (fun A outer s H hr2 => hbody A outer s H E f c' hr2) (by rw [hNg]; rfl) hva hd hcd) hco (h H1 eN T1)
    exact ⟨t', ht'.nox, hq'⟩
  refine wpAny_call (codeAny_mono rc fun r s2 hq => ?_)
  cases r with
  | error e => exact (show False from hq).elim
  | ok fl =>
    cases fl with
    | ret u => exact I1.after hq
    | next => exact False.elim hq
    | brk => exact False.elim hq
    | cont => exact False.elim hq
end
end FkL

namespace Fk
open PySem PySem.Spec L2
set_option autoImplicit false
/-! ### told(lambda: e): the value, or the name of the exception -/
def kinds18 : List Str := ["InvalidNumber", "InvalidRow", "InvalidFormula", "InvalidGraph", "InvalidBlock", "InvalidName", "InvalidValues", "InvalidWay", "InvalidText", "InvalidPass", "InvalidPaper", "NotCounted", "NotOdd", "NotSingle", "NotPlain", "NoLoop", "TooMany", "NothingToUndo"]
def errT (c : Str) : PyData := .tuple [.str "error", .str c]
def R.told (r : R D) : R D := match r with
  | .ok d st => .ok d st
  | .ex c st => if c ∈ kinds18 then .ok (.p (errT c)) st else .bad
  | .bad => .bad
def mTold (m : M D) : M D := fun ms env st => (m ms env st).told
/-- the promise of the def that names an exception -/
def spTm (K : PySem.W.Frag) (mg : Str → Option Value) : FkL.SpT := fun D H Q => ∃ w ms st c, RSt K ms w st H ∧ mg c = some (.ref D) ∧ c ∈ kinds18 ∧ ∀ w' v H', w.le w' → RSt K ms w' st H' → RD K w' v (.p (errT c)) → Q v H'
def FnAt (P : Program) (w : World) (K : PySem.W.Frag) (mg : Str → Option Value) (base : Heap) (k : Nat) (x : Str) (n : Nat) (g : Fn) : Prop :=
  ∃ (f : Addr) (fd : FuncData) (ps : List Str), FnOk P w K mg base (L2N.CX P w) k f fd ps (spOf K mg n g) ∧ mg x = some (.ref f) ∧ PySem.W.keepIn K (.ref f) = true ∧ Binds K fd ps []
abbrev toldBody (p1 p2 p3 p4 p5 p6 p7 p8 p9 p10 : Pos) : List Stmt :=
  [.Try [.Return (some (.Call (.Name "deed" p1) [] [] p2)) p3] [.ExceptHandler (some (.Name "FlowError" p4)) (some "e") [.Return (some (.Call (.Name "_law_term" p5) [.Name "e" p6] [] p7)) p8] p9] [] [] p10]
/-- the two defs -/
structure TGiv (P : Program) (w : World) (K : PySem.W.Frag) (mg : Str → Option Value) (base : Heap) (k : Nat) : Prop where
  ex : ∃ (g CS ft : Addr) (pg : Arguments) (sg : Scope) (dV kV doc pm cdv ct oc : Value) (an od : Option Addr) (osl : Array (Option Value)) (p1 p2 p3 p4 p5 p6 p7 p8 p9 p10 : Pos),
    mg "_law_told" = some (.ref g) ∧ PySem.W.keepIn K (.ref g) = true ∧ K.lookup g = some ⟨oc, od, .func (PySem.W.fnOf "_law_told" "_law_told" pg (toldBody p1 p2 p3 p4 p5 p6 p7 p8 p9 p10) sg dV kV doc pm an cdv ct), osl⟩ ∧ PySem.W.codeIn K cdv "_law_told" = true ∧
    L2.Binds K (PySem.W.fnOf "_law_told" "_law_told" pg (toldBody p1 p2 p3 p4 p5 p6 p7 p8 p9 p10) sg dV kV doc pm an cdv ct) [("deed" : Str)] [] ∧ FnScope ["deed", "e"] [("deed" : Str)] sg ∧ sg.names.lookup ("e" : Str) = some .local ∧ sg.names.lookup ("FlowError" : Str) = some .globalImplicit ∧ sg.names.lookup ("_law_term" : Str) = some .globalImplicit ∧
    Vis sg "deed" ∧ mg "FlowError" = some (.ref CS) ∧ mg "_law_term" = some (.ref ft) ∧ PySem.W.keepIn K (.ref ft) = true ∧ (∀ c ∈ kinds18, ∃ D, mg c = some (.ref D) ∧ PySem.W.exmOne K (.ref D) (.ref CS) = some true) ∧ FkL.TermOk P w K mg base k ft (spTm K mg)
structure ToldF (fns : List (Str × Nat)) (cl : Str → Fn) (X : Cx) : Prop where
  ex : ∃ (k : Nat) (c : Addr), Room (k + 2) X.A ∧ X.env.code = .ref c ∧ LamX.TabB X.base X.mg c (He.tabOf X.K c) ∧ (He.tabOf X.K c, X.env.qual ++ "<lambda>") ∈ allTabs X.K ∧ (∀ p ∈ allTabs X.K, p.1 = He.tabOf X.K c → p.2 = X.env.qual ++ "<lambda>") ∧
    TGiv X.prog X.w X.K X.mg X.base k ∧ ∀ x n, fns.lookup x = some n → FnAt X.prog X.w X.K X.mg X.base k x n (cl x)
theorem RSt.extN {K : PySem.W.Frag} {ms : List Nat} {w : Wd} {st : List O} {H H1 : Hp} (s : RSt K ms w st H) (e : LamX.ExtN H H1) (t : LamX.Tabs (allTabs K) H1) : RSt K ms w st H1 := by
  have nt : ∀ {o : HO}, isX o = false → ∀ ps, o ≠ .tbl ps := fun h ps z => by rw [z] at h; cases h
  refine ⟨s.len, fun x o h => ?_, fun x o h => ⟨e _ _ (s.gz x o h).1 (nt (s.tbl.ng x o h)), (s.gz x o h).2⟩, fun i o a h q => ?_, s.inj, s.mrk, s.mle, ⟨t, s.tbl.nt, s.tbl.ng⟩⟩
  · rcases s.fz x o h with z | z
    · exact .inl (e _ _ z (nt (s.tbl.nt x o h)))
    · exact .inr z
  · have z := s.at i o a h q
    cases o with
    | dead => exact True.intro
    | lk o => exact z
    | lst l => obtain ⟨f, g, ho, t, r⟩ := z; exact ⟨f, g, ho, e _ _ t (nt r.isX), r⟩
    | dK l => obtain ⟨f, g, ho, t, r⟩ := z; exact ⟨f, g, ho, e _ _ t (nt r.isX), r⟩
    | dT l => obtain ⟨f, g, ho, t, r⟩ := z; exact ⟨f, g, ho, e _ _ t (nt r.isX), r⟩
/-- an exception's wish, by names -/
def WofE (mg : Str → Option Value) (E : XK) : Ex := fun c σ H => ∀ cv, mg c = some cv → E cv none H
abbrev noArgs : Arguments := ⟨[], [], none, [], [], none, []⟩
section
variable {X : Cx} {W : Ex}
theorem se_told {fns : List (Str × Nat)} {cl : Str → Fn} (F : ToldF fns cl X) {body : Expr} {scope : Scope} {p lpos pos : Pos} {m : M D} (hg : Gl X "_law_told") (L : LamX.LamS X.env.scope scope)
    (hbody : ∀ (k : Nat), (∀ x n, fns.lookup x = some n → FnAt X.prog X.w X.K X.mg X.base k x n (cl x)) → ∀ (A : Around) (outer : List Env) (s : Shared) (H : Hp) (E : XK) (f c' : Addr), Room k (A.deeper (LamX.lamEnv X scope s.heap.objs.size f c')) → PE (FkL.lamN X A outer s H E scope f c') body (tE X.K (WofE X.mg E) m)) :
    PE X (.Call (.Name "_law_told" p) [.Lambda noArgs body scope lpos] [] pos) (tE X.K W (mTold m)) := by
  obtain ⟨k, c, hr, hcode, TB, hmT, hu, ⟨g, CS, ft, pg, sg, dV, kV, doc, pm, cdv, ct, oc, an, od, osl, p1, p2, p3, p4, p5, p6, p7, p8, p9, p10, t1, t2, t3, t4, t5, t6, t7, t8, t9, t10, t11, t12, t13, t14, t15⟩, hfn⟩ := F.ex
  refine pe_imp (FkL.pe_told (T := allTabs X.K) (CS := CS) (sp := spTm X.K X.mg) (t := fun E => tE X.K (WofE X.mg E) m) (k := k) (Ng := ["deed", "e"]) (a := "deed") (e := "e") (tn := "_law_term") hg t1 t2 t3 t4 t5 t6 t10 rfl (by decide +kernel) t7 t8 t11 t9 t12 t13 (by decide) (by decide) (by decide) t15 TB hcode hmT hu hr L rfl (fun _ _ _ _ _ => rfl) (hbody k hfn) (by decide) (by decide) (by decide)) fun σ H Q h => ?_
  obtain ⟨w, ms, env, st, s, en, q⟩ := h
  refine ⟨s.tbl.tb, fun H1 eN T1 => ⟨w, ms, env, st, s.extN eN T1, en, ?_⟩⟩
  have q' : Post (RD X.K) X.K W ms σ w (m ms env st).told Q := q
  revert q'
  cases m ms env st with
  | ok d st' => exact fun z => z
  | bad => exact fun z => z
  | ex c' st' =>
    intro z w' H' l s' cv hc
    unfold R.told at z
    dsimp only at z
    by_cases hk : c' ∈ kinds18
    · rw [if_pos hk] at z
      obtain ⟨D, d1, d2⟩ := t14 c' hk
      rw [d1] at hc
      cases hc
      exact ⟨rfl, D, rfl, d2, w', ms, st', c', s', d1, hk, fun w2 v H2 l2 s2 r2 => z w2 v H2 (l.trans l2) s2 r2⟩
    · rw [if_neg hk] at z
      exact False.elim z
end
end Fk

namespace Fk
open PySem PySem.Spec L2
set_option autoImplicit false

/-! ### from the text to the evaluator -/
structure Cf where
  /-- all names by slot -/
  N : List Str
  /-- flags by place: 1 a list or dict of the store, 2 (a dict) by tuples, 4 taken as it is, 8 the store is cut behind it -/
  fg : List (Pos × Nat)
  /-- names whose things are taken as they are ahead of a statement -/
  fv : List (Pos × List Nat)
  /-- the module's constants, its defs with the number of their parameters, its exceptions -/
  gl : List (Str × D)
  fns : List (Str × Nat)
  exc : List Str
  /-- the built-in names that the module leaves alone -/
  blt : List Str
  wf : Nat
  /-- told(lambda: ..) is there -/
  told : Bool
def Cf.at (cf : Cf) (p : Pos) : Nat := (cf.fg.lookup p).getD 0
def Cf.lst (cf : Cf) (p : Pos) : Bool := cf.at p % 2 == 1
def Cf.dct (cf : Cf) (p : Pos) : Nat := cf.at p % 4
def Cf.frz (cf : Cf) (p : Pos) : Bool := cf.at p / 4 % 2 == 1
def Cf.cut (cf : Cf) (p : Pos) : Bool := cf.at p / 8 % 2 == 1
def Cf.fvs (cf : Cf) (p : Pos) : List Nat := (cf.fv.lookup p).getD []
def idx (N : List Str) (x : Str) : Option Nat := match N with
  | [] => none
  | y :: r => if y = x then some 0 else (idx r x).map (· + 1)
theorem idx_get : ∀ {N : List Str} {x : Str} {i : Nat}, idx N x = some i → N[i]? = some x
  | [], _, _, h => by cases h
  | y :: r, x, i, h => by
    unfold idx at h
    by_cases e : y = x
    · rw [if_pos e] at h; cases h; rw [e]; rfl
    · rw [if_neg e] at h
      cases q : idx r x with
      | none => rw [q] at h; cases h
      | some j => rw [q] at h; cases h; exact idx_get (N := r) q
theorem takesN0 {X : Cx} : L2N.Takes X (fun _ _ _ _ => False) := fun _ _ x => by
  obtain ⟨_, _, _, _, _, _, _, _, _, _, _, _, _, _, _, _, z⟩ := x
  exact z.elim
/-- the context of an expression -/
structure CE (cf : Cf) (cl : Str → Fn) (X : Cx) (W : Ex) (sc : Scope) : Prop where
  N : X.N = cf.N
  nd : cf.N.Nodup
  calm : X.calm = true
  hu : X.A.units + 200 < cLine
  sc : X.env.scope = sc
  tk : L2N.Takes X (WXof X.mg W)
  glo : ∀ x d, cf.gl.lookup x = some d → ∃ u v, X.mg x = some u ∧ RelV v u ∧ ∀ w, RD X.K w v d
  fns : ∀ x n, cf.fns.lookup x = some n → FnIs X x n (cl x)
  blt : ∀ x, x ∈ cf.blt → X.mg x = none
  told : cf.told = true → ToldF cf.fns cl X
theorem CE.blk {cf : Cf} {cl : Str → Fn} {X : Cx} {W : Ex} {sc : Scope} (C : CE cf cl X W sc) (s : Shared) (H : Hp) (scope : Scope) (cls : List (Str × Addr)) (a : Addr) (fp : List Addr) :
    CE cf cl (X.blk s H scope (compEnvC scope cls a X.env) fp) W0 (relS scope sc) where
  N := C.N
  nd := C.nd
  calm := C.calm
  hu := C.hu
  sc := by
    have e : (X.blk s H scope (compEnvC scope cls a X.env) fp).env.scope = relS scope X.env.scope := rfl
    rw [e, C.sc]
  tk := L2N.Takes.imp takesN0 fun c d σ H h => by obtain ⟨_, _, _, z⟩ := h; exact z
  glo := C.glo
  fns := fun x n h => ⟨(C.fns x n h).ex⟩
  blt := C.blt
  told := fun h => ⟨(C.told h).ex⟩
structure Sm where
  E : Scope → Expr → Option (M D)
  T : Scope → Expr → Option (M Bool)
def SmOk (cf : Cf) (cl : Str → Fn) (S : Sm) : Prop := ∀ (X : Cx) (W : Ex) (sc : Scope), CE cf cl X W sc → (∀ e m, S.E sc e = some m → PE X e (tE X.K W m)) ∧ (∀ e m, S.T sc e = some m → PT X e (tT X.K W m))
def isLoc (k : Option NameKind) : Bool := match k with
  | some .local => true
  | some .cell => true
  | some .free => true
  | _ => false
def nameOk (x : Str) : Bool := !(x == ("__debug__" : Str)) && !(x == ("__classdict__" : Str)) && !(decide (x = "__name__"))
def isGl (k : Option NameKind) : Bool := match k with
  | some .globalImplicit => true
  | _ => false
/-- a name's value -/
def semName (cf : Cf) (sc : Scope) (x : Str) : Option (M D) :=
  if nameOk x = true then
    if isLoc (sc.names.lookup x) = true then (idx cf.N x).map mVar
    else if isGl (sc.names.lookup x) = true then (cf.gl.lookup x).map mD
    else none
  else none
def opB (fl : Bool) : Operator → Option Op2
  | .Add => some (dAdd fl)
  | .Sub => some dSub
  | .Mult => some (dMul fl)
  | .FloorDiv => some dDiv
  | .Mod => some dMod
  | .Pow => some dPow
  | _ => none
def opC : CmpOp → Option Op2
  | .Eq => some dEq'
  | .NotEq => some dNe'
  | .Lt => some dLt
  | .LtE => some dLe
  | .Gt => some dGt
  | .GtE => some dGe
  | .Is => some (dIs false)
  | .IsNot => some (dIs true)
  | .In => some (dIn false)
  | .NotIn => some (dIn true)
def semA (f : Expr → Option (M D)) : List Expr → Option (M (List D))
  | [] => some mNil
  | e :: r => match f e, semA f r with
    | some m, some n => if notStar e = true then some (mCons m n) else none
    | _, _ => none
def boolV (f : Expr → Option (M D)) (op : PySem.BoolOp) : List Expr → Option (M D)
  | [] => none
  | [e] => f e
  | e :: r => match f e, boolV f op r with
    | some m, some n => match op with
      | .And => some (mAndV m n)
      | .Or => some (mOrV m n)
    | _, _ => none
def boolT (f : Expr → Option (M Bool)) (op : PySem.BoolOp) : List Expr → Option (M Bool)
  | [] => none
  | [e] => f e
  | e :: r => match f e, boolT f op r with
    | some m, some n => match op with
      | .And => some (mAndT m n)
      | .Or => some (mOrT m n)
    | _, _ => none
def bifs : List (Str × (Bool → OpN)) := [("len", fun _ => fLen), ("sum", fun _ => fSum), ("max", fun _ => fMax), ("min", fun _ => fMin), ("any", fun _ => fAny false), ("all", fun _ => fAny true), ("sorted", fSorted)]
def tifs : List (Str × (Bool → OpN)) := [("list", fList), ("tuple", fun _ => fTuple), ("int", fun _ => fInt), ("str", fun _ => fStr)]
def tyOf (x : Str) : Option String := if x = "int" then some "int" else if x = "bool" then some "bool" else if x = "str" then some "str" else if x = "tuple" then some "tuple" else if x = "list" then some "list" else none
def nmlen (l : List Expr) : Nat := l.length
/-- the call of a name -/
def semCall (cf : Cf) (cl : Str → Fn) (S : Sm) (sc : Scope) (x : Str) (args : List Expr) (pos : Pos) : Option (M D) :=
  if isGl (sc.names.lookup x) = true ∧ nameOk x = true ∧ args ≠ [] then
    match cf.fns.lookup x with
    | some n => if args.length = n then (semA (S.E sc) args).map (mCall (cl x)) else none
    | none =>
      if x ∈ cf.blt then
        match bifs.lookup x with
        | some f => (semA (S.E sc) args).map (mN (f (cf.lst pos)))
        | none => match tifs.lookup x with
          | some f => (semA (S.E sc) args).map (mN (f (cf.lst pos)))
          | none =>
            if x = "isinstance" then
              match args with
              | [e, .Name t _] => match tyOf t, S.E sc e with
                | some T, some m => if notStar e = true ∧ isGl (sc.names.lookup t) = true ∧ t ∈ cf.blt then some (mIsi T m) else none
                | _, _ => none
              | _ => none
            else none
      else none
  else none
def semCall0 (cf : Cf) (cl : Str → Fn) (sc : Scope) (x : Str) : Option (M D) :=
  if isGl (sc.names.lookup x) = true ∧ nameOk x = true ∧ cf.fns.lookup x = some 0 then some (mCall (cl x) mNil) else none
def isLenSet (cf : Cf) (sc : Scope) (x y : Str) (a : Expr) : Bool := decide (x = "len") && decide (y = "set") && isGl (sc.names.lookup x) && isGl (sc.names.lookup y) && decide (x ∈ cf.blt) && decide (y ∈ cf.blt) && notStar a
def semMeth (cf : Cf) (S : Sm) (sc : Scope) (o : Expr) (name : Str) (apos : Pos) (args : List Expr) (cpos : Pos) : Option (M D) :=
  if noSuper o = true ∧ (apos.endLine == cpos.line) = true then
    match S.E sc o with
    | none => none
    | some mo => match args with
      | [] => if name = "pop" then some (mPop mo) else none
      | [e] => match S.E sc e with
        | some m => if name = "append" ∧ notStar e = true then some (mAppend mo m) else none
        | none => none
      | [e, f] => match S.E sc e, S.E sc f with
        | some m, some n => if name = "get" ∧ notStar e = true ∧ notStar f = true then some (mGet2 mo m n) else none
        | _, _ => none
      | _ => none
  else none
/-- targets -/
def isLoc1 (k : Option NameKind) : Bool := match k with
  | some .local => true
  | _ => false
def isLc (k : Option NameKind) : Bool := match k with
  | some .local => true
  | some .cell => true
  | _ => false
def tgName (cf : Cf) (ok : Str → Bool) (sc : Scope) (x : Str) : Option Nat := if isLc (sc.names.lookup x) = true ∧ ok x = true then idx cf.N x else none
def blkOf (scope sc : Scope) (x : Str) : Bool := scope.names.lookup x == some .cell || isLoc1 ((relS scope sc).names.lookup x)
def semG (cf : Cf) (ok : Str → Bool) (sc : Scope) : Nat → Expr → Option Tg
  | 0, _ => none
  | n + 1, .Name x _ => (tgName cf ok sc x).map Tg.nm
  | n + 1, .Tuple es _ _ => (go n es).map Tg.tp
  | _, _ => none
where go (n : Nat) : List Expr → Option (List Tg)
  | [] => some []
  | e :: r => match semG cf ok sc n e, go n r with
    | some t, some ts => if notStar e = true then some (t :: ts) else none
    | _, _ => none
/-- what is walked -/
def semI (cf : Cf) (S : Sm) (sc : Scope) (tg iter : Expr) : Option (M (List D)) :=
  match iter with
  | .Call (.Name x _) args [] _ =>
    if isGl (sc.names.lookup x) = true ∧ x ∈ cf.blt ∧ args.all notStar = true ∧ (x = "range" ∨ x = "enumerate" ∨ x = "reversed") then
      if x = "range" then match args with
        | [_] => (semA (S.E sc) args).map mR1
        | [_, _] => (semA (S.E sc) args).map mR2
        | [_, _, _] => (semA (S.E sc) args).map mR3
        | _ => none
      else match args with
        | [e] => if x = "enumerate" then (match tg with
            | .Tuple _ _ _ => (S.E sc e).map mEnum
            | _ => none)
          else (S.E sc e).map mRev
        | _ => none
    else (S.E sc iter).map mIt
  | _ => if notSet iter = true then (S.E sc iter).map mIt else none
def ownOf (N : List Str) (scope : Scope) : List (Str × Nat) := scope.names.filterMap fun (n, k) => match k with
  | .local => (idx N n).map fun i => (n, i)
  | .cell => (idx N n).map fun i => (n, i)
  | _ => none
def semComp (cf : Cf) (S : Sm) (sc : Scope) (elt : Expr) (gs : List Comprehension) (scope : Scope) (pos : Pos) : Option (M D) :=
  match gs with
  | [⟨tg, iter, ifs, 0⟩] =>
    if blkC cf.N sc scope (ownOf cf.N scope) = true ∧ notSet iter = true then
      match semG cf (blkOf scope sc) (relS scope sc) 4 tg, S.E (relS scope sc) elt, (match ifs with
          | [] => some mTrue
          | [c] => S.T (relS scope sc) c
          | _ => none) with
      | some t, some el, some mc =>
        if t.slots.all (fun j => ((ownOf cf.N scope).map (·.2)).contains j) = true then
          match iter with
          | .Name x _ => if nameOk x = true ∧ isLoc (sc.names.lookup x) = true then (idx cf.N x).map fun i => mCompV (cf.lst pos) ((ownOf cf.N scope).map (·.2)) i t mc el
            else (semI cf S sc tg iter).map fun it => mComp (cf.lst pos) ((ownOf cf.N scope).map (·.2)) it t mc el
          | iter => (semI cf S sc tg iter).map fun it => mComp (cf.lst pos) ((ownOf cf.N scope).map (·.2)) it t mc el
        else none
      | _, _, _ => none
    else none
  | _ => none
def semCmp (S : Sm) (sc : Scope) (a : Expr) (ops : List CmpOp) (bs : List Expr) : Option (M D) :=
  if lastMarks ops bs = false then
    match ops, bs with
    | [op], [b] => match opC op, S.E sc a, S.E sc b with
      | some f, some ma, some mb => some (m2 f ma mb)
      | _, _, _ => none
    | [op, op'], [b, c] => match opC op, opC op', S.E sc a, S.E sc b, S.E sc c with
      | some f, some f', some ma, some mb, some mc => some (mChain f f' ma mb mc)
      | _, _, _, _, _ => none
    | _, _ => none
  else none
def semOpt (S : Sm) (sc : Scope) (e : Option Expr) : Option (Option (M D)) := match e with
  | none => some none
  | some e => (S.E sc e).map some
def semTold (cf : Cf) (L : Sm) (sc : Scope) (x : Str) (body : Expr) (scope : Scope) : Option (M D) :=
  if cf.told = true ∧ x = "_law_told" ∧ isGl (sc.names.lookup x) = true ∧ LamX.lamSB sc scope = true then (L.E scope body).map mTold else none
def coreE (cf : Cf) (cl : Str → Fn) (L S : Sm) (sc : Scope) (e : Expr) : Option (M D) :=
  match e with
  | .Constant (.int i) _ _ => some (mC (.int i))
  | .Constant (.bool i) _ _ => some (mC (.bool i))
  | .Constant .none _ _ => some (mC .none)
  | .Constant (.str i) _ _ => some (mC (.str i))
  | .Name x _ => semName cf sc x
  | .BinOp a op b pos => match opB (cf.lst pos) op, S.E sc a, S.E sc b with
    | some f, some ma, some mb => some (m2 f ma mb)
    | _, _, _ => none
  | .UnaryOp .USub a _ => (S.E sc a).map mNeg
  | .UnaryOp .Not a _ => (S.E sc a).map mNotV
  | .Compare a ops bs _ => semCmp S sc a ops bs
  | .BoolOp op es _ => boolV (S.E sc) op es
  | .IfExp c a b _ => match S.T sc c, S.E sc a, S.E sc b with
    | some mc, some ma, some mb => some (mIf mc ma mb)
    | _, _, _ => none
  | .Tuple es _ _ => (semA (S.E sc) es).map mTup
  | .List es pos => (semA (S.E sc) es).map (mLst (cf.lst pos))
  | .Dict [] [] pos => some (mDict0 (cf.dct pos))
  | .Subscript a (.Slice lo hi none _) pos => match S.E sc a, semOpt S sc lo, semOpt S sc hi with
    | some ma, some ml, some mh => some (mSl (cf.lst pos) ma ml mh)
    | _, _, _ => none
  | .Subscript a (.Slice none none (some (.UnaryOp .USub (.Constant (.int 1) _ _) _)) _) pos => (S.E sc a).map (mRevL (cf.lst pos))
  | .Subscript a i _ => match isSlice i, S.E sc a, S.E sc i with
    | false, some ma, some mi => some (m2 dIx ma mi)
    | _, _, _ => none
  | .Call (.Name x _) [] [] _ => semCall0 cf cl sc x
  | .Call (.Name x _) [.Lambda ⟨[], [], none, [], [], none, []⟩ body scope _] [] _ => semTold cf L sc x body scope
  | .Call (.Name x _) [.Call (.Name y p2) [a] [] q] [] pos => match isLenSet cf sc x y a with
    | true => (S.E sc a).map mLenSet
    | false => semCall cf cl S sc x [.Call (.Name y p2) [a] [] q] pos
  | .Call (.Name x _) args [] pos => semCall cf cl S sc x args pos
  | .Call (.Attribute o name apos) args [] cpos => semMeth cf S sc o name apos args cpos
  | .ListComp elt gs scope pos => semComp cf S sc elt gs scope pos
  | _ => none
def plainT : Expr → Bool
  | .Call .. => true
  | .Name .. => true
  | .Subscript .. => true
  | .Constant (.bool _) _ _ => true
  | _ => false
def coreT (cf : Cf) (cl : Str → Fn) (S : Sm) (sc : Scope) (e : Expr) : Option (M Bool) :=
  match e with
  | .Compare a ops bs _ => (semCmp S sc a ops bs).map mT
  | .BoolOp op es _ => boolT (S.T sc) op es
  | .UnaryOp .Not a _ => (S.T sc a).map mNotT
  | e => if plainT e = true then (S.E sc e).map mT else none
def semX (cf : Cf) (cl : Str → Fn) (L : Sm) : Nat → Sm
  | 0 => ⟨fun _ _ => none, fun _ _ => none⟩
  | n + 1 => ⟨fun sc e => (coreE cf cl L (semX cf cl L n) sc e).map fun m => match cf.frz e.pos with
      | true => mFrz m
      | false => m, fun sc e => coreT cf cl (semX cf cl L n) sc e⟩
def Cf.low (cf : Cf) : Cf := { cf with told := false }
def semL (cf : Cf) (cl : Str → Fn) : Sm := semX cf.low cl ⟨fun _ _ => none, fun _ _ => none⟩ 40
def sem (cf : Cf) (cl : Str → Fn) (n : Nat) : Sm := semX cf cl (semL cf cl) n
end Fk

namespace Fk
open PySem PySem.Spec L2
set_option autoImplicit false
section
variable {cf : Cf} {cl : Str → Fn} {X : Cx} {W : Ex} {sc : Scope}
theorem isLoc_vis {sc : Scope} {x : Str} (h : isLoc (sc.names.lookup x) = true) : Vis sc x := by
  unfold isLoc at h
  split at h
  · exact .inl (by assumption)
  · exact .inr (.inl (by assumption))
  · exact .inr (.inr (by assumption))
  · cases h
theorem isGl_gl (C : CE cf cl X W sc) {x : Str} (h : isGl (sc.names.lookup x) = true) : Gl X x := by
  unfold isGl at h
  split at h
  · unfold Gl Env.kindOf
    rw [C.sc]
    assumption
  · cases h
theorem nameOk_ok {x : Str} (h : nameOk x = true) : (x == ("__debug__" : Str)) = false ∧ (x == ("__classdict__" : Str)) = false ∧ x ≠ "__name__" := by
  unfold nameOk at h
  rw [Bool.and_eq_true, Bool.and_eq_true] at h
  refine ⟨by simpa using h.1.1, by simpa using h.1.2, ?_⟩
  have := h.2
  intro e
  rw [decide_eq_true e] at this
  cases this
theorem semName_ok (C : CE cf cl X W sc) {x : Str} {pos : Pos} {m : M D} (h : semName cf sc x = some m) : PE X (.Name x pos) (tE X.K W m) := by
  unfold semName at h
  split at h
  · rename_i hn
    obtain ⟨h1, h2, h3⟩ := nameOk_ok hn
    split at h
    · rename_i hl
      cases e : idx cf.N x with
      | none => rw [e] at h; cases h
      | some i =>
        rw [e] at h
        cases h
        exact se_var (by rw [C.N]; exact idx_get e) (by rw [C.sc]; exact isLoc_vis hl) h1 h2
    · split at h
      · rename_i hg
        cases e : cf.gl.lookup x with
        | none => rw [e] at h; cases h
        | some d =>
          rw [e] at h
          cases h
          obtain ⟨u, v, hm, r, rd⟩ := C.glo x d e
          exact se_glob (isGl_gl C hg) hm r rd h1
      · cases h
  · cases h
theorem opB_ok {fl : Bool} {op : Operator} {f : Op2} (h : opB fl op = some f) : OpR X (binaryOp op) (rD2 X.K f) := by
  cases op <;> first | (cases h; done) | (cases h; first | exact op_addD fl | exact op_subD | exact op_mulD' fl | exact op_divD | exact op_modD | exact op_powD)
theorem opC_ok (hu : X.A.units + 200 < cLine) {op : CmpOp} {f : Op2} (h : opC op = some f) : OpR X (compareOp op) (rD2 X.K f) := by
  cases op <;> cases h
  · exact op_eq' hu
  · exact op_ne' hu
  · exact op_ltD
  · exact op_leD
  · exact op_gtD
  · exact op_geD
  · exact op_isD
  · exact op_isnotD
  · exact op_inDD hu
  · exact op_notinDD hu
variable {S : Sm}
theorem semA_ok (hS : ∀ e m, S.E sc e = some m → PE X e (tE X.K W m)) : ∀ {es : List Expr} {m : M (List D)}, semA (S.E sc) es = some m → PA X es (tA X.K W m) ∧ es.all notStar = true
  | [], m, h => by cases h; exact ⟨sa_nil, rfl⟩
  | e :: r, m, h => by
    unfold semA at h
    split at h
    · rename_i m1 n1 h1 h2
      split at h
      · rename_i hs
        cases h
        obtain ⟨i1, i2⟩ := semA_ok hS h2
        exact ⟨sa_cons hs (hS _ _ h1) i1, by rw [List.all_cons, hs, i2]; rfl⟩
      · cases h
    · cases h
theorem semA_len : ∀ {f : Expr → Option (M D)} {es : List Expr} {m : M (List D)}, semA f es = some m → ∀ ms env st ds st', m ms env st = .ok ds st' → ds.length = es.length
  | f, [], m, h => by
    cases h
    intro ms env st ds st' e
    have e' : R.ok [] st = R.ok ds st' := e
    cases e'
    rfl
  | f, e :: r, m, h => by
    unfold semA at h
    split at h
    · rename_i m1 n1 h1 h2
      split at h
      · cases h
        intro ms env st ds st' e
        have e' : (m1 ms env st).bind (fun d st1 => (n1 ms env st1).bind fun ds st2 => R.ok (d :: ds) st2) = .ok ds st' := e
        cases q : m1 ms env st with
        | bad => rw [q] at e'; cases e'
        | ex c st1 => rw [q] at e'; cases e'
        | ok d st1 =>
          rw [q] at e'
          have e2 : (n1 ms env st1).bind (fun ds st2 => R.ok (d :: ds) st2) = .ok ds st' := e'
          cases q2 : n1 ms env st1 with
          | bad => rw [q2] at e2; cases e2
          | ex c st2 => rw [q2] at e2; cases e2
          | ok ds2 st2 =>
            rw [q2] at e2
            cases e2
            rw [List.length_cons, List.length_cons, semA_len h2 ms env st1 ds2 st' q2]
      · cases h
    · cases h
theorem boolV_ok (hS : ∀ e m, S.E sc e = some m → PE X e (tE X.K W m)) {op : PySem.BoolOp} {pos : Pos} : ∀ {es : List Expr} {m : M D}, boolV (S.E sc) op es = some m → PE X (.BoolOp op es pos) (tE X.K W m)
  | [], m, h => by cases h
  | [e], m, h => se_one (hS _ _ h)
  | e :: e2 :: r, m, h => by
    unfold boolV at h
    split at h
    · rename_i m1 n1 h1 h2
      have i1 := boolV_ok hS (es := e2 :: r) (pos := pos) h2
      cases op with
      | And => cases h; exact se_and (hS _ _ h1) i1
      | Or => cases h; exact se_or (hS _ _ h1) i1
    · cases h
theorem boolT_ok (hS : ∀ e m, S.T sc e = some m → PT X e (tT X.K W m)) {op : PySem.BoolOp} {pos : Pos} : ∀ {es : List Expr} {m : M Bool}, boolT (S.T sc) op es = some m → PW X (.BoolOp op es pos) (tT X.K W m)
  | [], m, h => by cases h
  | [e], m, h => by
    cases op with
    | And => exact st_and1 (hS _ _ h)
    | Or => exact st_or1 (hS _ _ h)
  | e :: e2 :: r, m, h => by
    unfold boolT at h
    split at h
    · rename_i m1 n1 h1 h2
      have i1 := boolT_ok hS (es := e2 :: r) (pos := pos) h2
      cases op with
      | And => cases h; exact st_and (hS _ _ h1) i1
      | Or => cases h; exact st_or (hS _ _ h1) i1
    · cases h
theorem bifs_ok (hc : X.calm = true) {x : Str} {f : Bool → OpN} (h : bifs.lookup x = some f) : ∃ id, bootBuiltins x = some (.builtin id) ∧ ∀ fl, CallR X (.builtin id) (rDs X.K (f fl)) := by
  unfold bifs at h
  rw [List.lookup_cons] at h
  split at h
  · rename_i e; have e := eq_of_beq e; subst e; cases h; exact ⟨_, PySem.boot_len, fun _ => cr_lenD⟩
  rw [List.lookup_cons] at h
  split at h
  · rename_i e; have e := eq_of_beq e; subst e; cases h; exact ⟨"sum", by decide +kernel, fun _ => cr_sumD hc⟩
  rw [List.lookup_cons] at h
  split at h
  · rename_i e; have e := eq_of_beq e; subst e; cases h; exact ⟨"max", by decide +kernel, fun _ => cr_maxD hc⟩
  rw [List.lookup_cons] at h
  split at h
  · rename_i e; have e := eq_of_beq e; subst e; cases h; exact ⟨"min", by decide +kernel, fun _ => cr_minD hc⟩
  rw [List.lookup_cons] at h
  split at h
  · rename_i e; have e := eq_of_beq e; subst e; cases h; exact ⟨"any", by decide +kernel, fun _ => cr_anyD hc⟩
  rw [List.lookup_cons] at h
  split at h
  · rename_i e; have e := eq_of_beq e; subst e; cases h; exact ⟨"all", by decide +kernel, fun _ => cr_allD hc⟩
  rw [List.lookup_cons] at h
  split at h
  · rename_i e; have e := eq_of_beq e; subst e; cases h; exact ⟨"sorted", by decide +kernel, fun fl => cr_sortedD fl⟩
  cases h
theorem tifs_ok (hc : X.calm = true) {x : Str} {f : Bool → OpN} (h : tifs.lookup x = some f) : ∃ id, bootBuiltins x = some (.type id) ∧ ∀ fl, CallR X (.type id) (rDs X.K (f fl)) := by
  unfold tifs at h
  rw [List.lookup_cons] at h
  split at h
  · rename_i e; have e := eq_of_beq e; subst e; cases h; exact ⟨"list", by decide +kernel, fun fl => cr_listD hc fl⟩
  rw [List.lookup_cons] at h
  split at h
  · rename_i e; have e := eq_of_beq e; subst e; cases h; exact ⟨"tuple", by decide +kernel, fun _ => cr_tupleD⟩
  rw [List.lookup_cons] at h
  split at h
  · rename_i e; have e := eq_of_beq e; subst e; cases h; exact ⟨"int", by decide +kernel, fun _ => cr_intD⟩
  rw [List.lookup_cons] at h
  split at h
  · rename_i e; have e := eq_of_beq e; subst e; cases h; exact ⟨"str", by decide +kernel, fun _ => cr_strD⟩
  cases h
theorem tyOf_ok {x : Str} {T : String} (h : tyOf x = some T) : isTy T = true ∧ bootBuiltins x = some (.type T) ∧ (x == ("__debug__" : Str)) = false ∧ x ≠ "__name__" := by
  unfold tyOf at h
  split at h
  · rename_i e; subst e; cases h; exact ⟨by decide, by decide +kernel, by decide +kernel, by decide +kernel⟩
  split at h
  · rename_i e; subst e; cases h; exact ⟨by decide, by decide +kernel, by decide +kernel, by decide +kernel⟩
  split at h
  · rename_i e; subst e; cases h; exact ⟨by decide, by decide +kernel, by decide +kernel, by decide +kernel⟩
  split at h
  · rename_i e; subst e; cases h; exact ⟨by decide, by decide +kernel, by decide +kernel, by decide +kernel⟩
  split at h
  · rename_i e; subst e; cases h; exact ⟨by decide, by decide +kernel, by decide +kernel, by decide +kernel⟩
  cases h
theorem semCall0_ok (C : CE cf cl X W sc) {x : Str} {p pos : Pos} {m : M D} (h : semCall0 cf cl sc x = some m) : PE X (.Call (.Name x p) [] [] pos) (tE X.K W m) := by
  unfold semCall0 at h
  split at h
  · rename_i hh
    cases h
    exact se_call0 (C.fns x 0 hh.2.2) C.tk (isGl_gl C hh.1) (nameOk_ok hh.2.1).1
  · cases h
theorem isLenSet_ok (C : CE cf cl X W sc) {x y : Str} {a : Expr} (h : isLenSet cf sc x y a = true) : x = "len" ∧ y = "set" ∧ Gl X x ∧ Gl X y ∧ X.mg x = none ∧ X.mg y = none ∧ notStar a = true := by
  unfold isLenSet at h
  simp only [Bool.and_eq_true, decide_eq_true_eq] at h
  obtain ⟨⟨⟨⟨⟨⟨h1, h2⟩, h3⟩, h4⟩, h5⟩, h6⟩, h7⟩ := h
  exact ⟨h1, h2, isGl_gl C h3, isGl_gl C h4, C.blt x h5, C.blt y h6, h7⟩
theorem semCall_ok (C : CE cf cl X W sc) (hS : ∀ e m, S.E sc e = some m → PE X e (tE X.K W m)) {x : Str} {args : List Expr} {p pos : Pos} {m : M D} (h : semCall cf cl S sc x args pos = some m) : PE X (.Call (.Name x p) args [] pos) (tE X.K W m) := by
  unfold semCall at h
  split at h
  · rename_i hc
    obtain ⟨hg, hn, hne⟩ := hc
    obtain ⟨n1, n2, n3⟩ := nameOk_ok hn
    have gl := isGl_gl C hg
    obtain ⟨e0, es0, rfl⟩ : ∃ e es, args = e :: es := by
      cases args with
      | nil => exact absurd rfl hne
      | cons e es => exact ⟨e, es, rfl⟩
    split at h
    · rename_i n hf
      split at h
      · rename_i hl
        cases e : semA (S.E sc) (e0 :: es0) with
        | none => rw [e] at h; cases h
        | some ma =>
          rw [e] at h
          cases h
          obtain ⟨i1, i2⟩ := semA_ok hS e
          exact se_call (C.fns x n hf) C.tk gl i1 n1 i2 fun ms env st ds st' q => by rw [semA_len e ms env st ds st' q]; exact hl
      · cases h
    · split at h
      · rename_i hb
        have mn := C.blt x hb
        split at h
        · rename_i f hf
          cases e : semA (S.E sc) (e0 :: es0) with
          | none => rw [e] at h; cases h
          | some ma =>
            rw [e] at h
            cases h
            obtain ⟨i1, i2⟩ := semA_ok hS e
            obtain ⟨id, b1, b2⟩ := bifs_ok C.calm hf
            exact se_callB (b2 _) gl mn b1 i1 n3 n1 i2
        · split at h
          · rename_i f hf
            cases e : semA (S.E sc) (e0 :: es0) with
            | none => rw [e] at h; cases h
            | some ma =>
              rw [e] at h
              cases h
              obtain ⟨i1, i2⟩ := semA_ok hS e
              obtain ⟨id, b1, b2⟩ := tifs_ok C.calm hf
              exact se_callTy (b2 _) gl mn b1 i1 n3 n1 i2
          · split at h
            · rename_i hx
              subst hx
              split at h
              · rename_i t _ _ heq
                injection heq with q1 q2
                subst q1
                split at h
                · rename_i T m1 hT hm
                  split at h
                  · rename_i hh
                    cases h
                    obtain ⟨t1, t2, t3, t4⟩ := tyOf_ok hT
                    subst q2
                    exact se_isi (hS _ _ hm) hh.1 t1 gl mn (isGl_gl C hh.2.1) (C.blt _ hh.2.2) t2 t4 t3
                  · cases h
                · cases h
              · cases h
            · cases h
      · cases h
  · cases h
end
end Fk

namespace Fk
open PySem PySem.Spec L2
set_option autoImplicit false
section
variable {cf : Cf} {cl : Str → Fn} {X : Cx} {W : Ex} {sc : Scope} {S : Sm}
theorem semMeth_ok (C : CE cf cl X W sc) (hS : ∀ e m, S.E sc e = some m → PE X e (tE X.K W m)) {o : Expr} {name : Str} {args : List Expr} {apos cpos : Pos} {m : M D} (h : semMeth cf S sc o name apos args cpos = some m) : PE X (.Call (.Attribute o name apos) args [] cpos) (tE X.K W m) := by
  unfold semMeth at h
  split at h
  · rename_i hc
    split at h
    · cases h
    · rename_i mo ho
      have po := hS _ _ ho
      split at h
      · split at h
        · rename_i hn
          subst hn
          cases h
          exact se_pop po hc.1 hc.2
        · cases h
      · split at h
        · rename_i m1 h1
          split at h
          · rename_i hn
            obtain ⟨hn, hs⟩ := hn
            subst hn
            cases h
            exact se_append po (hS _ _ h1) hs hc.1 hc.2
          · cases h
        · cases h
      · split at h
        · rename_i m1 m2 h1 h2
          split at h
          · rename_i hn
            obtain ⟨hn, hs, hs2⟩ := hn
            subst hn
            cases h
            exact se_get2 C.hu po (hS _ _ h1) (hS _ _ h2) hs hs2 hc.1 hc.2
          · cases h
        · cases h
      · cases h
  · cases h
/-- a target's name may be stored -/
def StoreOk (X : Cx) (ok : Str → Bool) : Prop := ∀ x, ok x = true → X.fn x = true ∨ X.env.scope.names.lookup x = some .local
theorem tgName_ok {ok : Str → Bool} (C : CE cf cl X W sc) (hst : StoreOk X ok) {x : Str} {i : Nat} {pos : Pos} (h : tgName cf ok sc x = some i) : PG X (.Name x pos) (tG X.K (.nm i)) := by
  unfold tgName at h
  split at h
  · rename_i hh
    obtain ⟨h1, h2⟩ := hh
    unfold isLc at h1
    split at h1
    · rename_i hl
      exact sg_name (by rw [C.N]; exact C.nd) (by rw [C.N]; exact idx_get h) (by rw [C.sc]; exact .inl hl) (hst x h2)
    · rename_i hl
      exact sg_name (by rw [C.N]; exact C.nd) (by rw [C.N]; exact idx_get h) (by rw [C.sc]; exact .inr hl) (hst x h2)
    · cases h1
  · cases h
theorem semG_ok {ok : Str → Bool} (C : CE cf cl X W sc) (hst : StoreOk X ok) : ∀ (n : Nat) (e : Expr) (t : Tg), semG cf ok sc n e = some t → PG X e (tG X.K t)
  | 0, e, t, h => by unfold semG at h; cases h
  | n + 1, e, t, h => by
    have ih := semG_ok C hst n
    cases e with
    | Name x pos =>
      unfold semG at h
      cases e1 : tgName cf ok sc x with
      | none => rw [e1] at h; cases h
      | some i => rw [e1] at h; cases h; exact tgName_ok C hst e1
    | Tuple es b pos =>
      unfold semG at h
      have lst : ∀ (es : List Expr) (ts : List Tg), semG.go cf ok sc n es = some ts → PGs X es (tGs X.K ts) ∧ es.all notStar = true ∧ es.length = ts.length := by
        intro es
        induction es with
        | nil => intro ts h; unfold semG.go at h; cases h; exact ⟨sgs_nil, rfl, rfl⟩
        | cons e r ihr =>
          intro ts h
          unfold semG.go at h
          split at h
          · rename_i t1 ts1 h1 h2
            split at h
            · rename_i hs
              cases h
              obtain ⟨i1, i2, i3⟩ := ihr _ h2
              exact ⟨sgs_cons hs (ih _ _ h1) i1, by rw [List.all_cons, hs, i2]; rfl, by rw [List.length_cons, List.length_cons, i3]⟩
            · cases h
          · cases h
      cases e1 : semG.go cf ok sc n es with
      | none => rw [e1] at h; cases h
      | some ts =>
        rw [e1] at h
        cases h
        obtain ⟨i1, i2, i3⟩ := lst _ _ e1
        exact sg_tup C.calm i1 i2 i3
    | _ => unfold semG at h; cases h
theorem semI_ok (C : CE cf cl X W sc) (hS : ∀ e m, S.E sc e = some m → PE X e (tE X.K W m)) {tg iter : Expr} {m : M (List D)} (h : semI cf S sc tg iter = some m) : PI X tg iter (tI X.K W m) := by
  have plain : ∀ {m : M (List D)}, (S.E sc iter).map mIt = some m → PI X tg iter (tI X.K W m) := fun {m} h => by
    cases e : S.E sc iter with
    | none => rw [e] at h; cases h
    | some m1 => rw [e] at h; cases h; exact si_seq (hS _ _ e)
  unfold semI at h
  split at h
  · rename_i x p args pos
    split at h
    · rename_i hh
      obtain ⟨hg, hb, hs, hx⟩ := hh
      have gl := isGl_gl C hg
      have mn := C.blt x hb
      split at h
      · rename_i ex
        subst ex
        split at h
        · rename_i a
          cases e : semA (S.E sc) [a] with
          | none => rw [e] at h; cases h
          | some ma =>
            rw [e] at h; cases h
            simp only [List.all_cons, List.all_nil, Bool.and_true] at hs
            exact si_range1 gl mn (semA_ok hS e).1 hs
        · rename_i a b
          cases e : semA (S.E sc) [a, b] with
          | none => rw [e] at h; cases h
          | some ma =>
            rw [e] at h; cases h
            simp only [List.all_cons, List.all_nil, Bool.and_true, Bool.and_eq_true] at hs
            exact si_range2 gl mn (semA_ok hS e).1 hs.1 hs.2
        · rename_i a b c
          cases e : semA (S.E sc) [a, b, c] with
          | none => rw [e] at h; cases h
          | some ma =>
            rw [e] at h; cases h
            simp only [List.all_cons, List.all_nil, Bool.and_true, Bool.and_eq_true] at hs
            exact si_range3 gl mn (semA_ok hS e).1 hs.1 hs.2.1 hs.2.2
        · cases h
      · rename_i nr
        split at h
        · rename_i e1
          simp only [List.all_cons, List.all_nil, Bool.and_true] at hs
          split at h
          · rename_i ex
            subst ex
            split at h
            · cases e : S.E sc e1 with
              | none => rw [e] at h; cases h
              | some m1 => rw [e] at h; cases h; exact si_enum gl mn (hS _ _ e) hs
            · cases h
          · rename_i ne
            have ex : x = "reversed" := by
              rcases hx with z | z | z
              · exact absurd z nr
              · exact absurd z ne
              · exact z
            subst ex
            cases e : S.E sc e1 with
            | none => rw [e] at h; cases h
            | some m1 => rw [e] at h; cases h; exact si_rev gl mn (hS _ _ e) hs
        · cases h
    · exact plain h
  · split at h
    · exact plain h
    · cases h
theorem semCmp_ok (C : CE cf cl X W sc) (hS : ∀ e m, S.E sc e = some m → PE X e (tE X.K W m)) {a : Expr} {ops : List CmpOp} {bs : List Expr} {pos : Pos} {m : M D} (h : semCmp S sc a ops bs = some m) : PE X (.Compare a ops bs pos) (tE X.K W m) ∧ PT X (.Compare a ops bs pos) (tT X.K W (mT m)) := by
  unfold semCmp at h
  split at h
  · rename_i hm
    split at h
    · split at h
      · rename_i f ma mb hf h1 h2
        cases h
        exact ⟨se_cmp (opC_ok C.hu hf) (hS _ _ h1) (hS _ _ h2) hm, st_cmp (opC_ok C.hu hf) (hS _ _ h1) (hS _ _ h2) hm⟩
      · cases h
    · split at h
      · rename_i f f' ma mb mc hf hf' h1 h2 h3
        cases h
        exact ⟨se_chain (opC_ok C.hu hf) (opC_ok C.hu hf') (hS _ _ h1) (hS _ _ h2) (hS _ _ h3) hm, st_chain (opC_ok C.hu hf) (opC_ok C.hu hf') (hS _ _ h1) (hS _ _ h2) (hS _ _ h3) hm⟩
      · cases h
    · cases h
  · cases h
theorem blk_store (s : Shared) (H : Hp) {scope : Scope} (cls : List (Str × Addr)) (a : Addr) (fp : List Addr) : StoreOk (X.blk s H scope (compEnvC scope cls a X.env) fp) (blkOf scope X.env.scope) := fun x h => by
  unfold blkOf at h
  rw [Bool.or_eq_true] at h
  rcases h with h | h
  · exact .inl h
  · right
    unfold isLoc1 at h
    split at h
    · assumption
    · cases h
theorem semComp_ok (C : CE cf cl X W sc) (hS : SmOk cf cl S) {elt : Expr} {gs : List Comprehension} {scope : Scope} {pos : Pos} {m : M D} (h : semComp cf S sc elt gs scope pos = some m) : PC X (.ListComp elt gs scope pos) (tE X.K W m) := by
  unfold semComp at h
  split at h
  · rename_i tg iter ifs
    split at h
    · rename_i hh
      obtain ⟨hb, hset⟩ := hh
      split at h
      · rename_i t el mc h2 h3 h4
        split at h
        · rename_i hsl
          have hb' : BlkOk X.N X.env.scope scope (ownOf cf.N scope) := by rw [C.N, C.sc]; exact blkOk_by hb
          have hN : X.N.Nodup := by rw [C.N]; exact C.nd
          have hsl' : ∀ j ∈ t.slots, j ∈ (ownOf cf.N scope).map (·.2) := fun j hj => by
            have := List.all_eq_true.mp hsl j hj
            simpa using this
          have hg := fun (s : Shared) (H : Hp) (Cc : Addr) (cls : List (Str × Addr)) (fp : List Addr) => semG_ok (C.blk s H scope cls Cc fp) (ok := blkOf scope X.env.scope) (blk_store s H cls Cc fp) 4 tg t (by rw [C.sc]; exact h2)
          have he := fun (s : Shared) (H : Hp) (Cc : Addr) (cls : List (Str × Addr)) (fp : List Addr) => (hS _ _ _ (C.blk s H scope cls Cc fp)).1 elt el h3
          have hst : ∀ x, foldedSetIterable iter X.env x = pure x := folded_of hset X.env
          have ht : ∀ (s : Shared) (H : Hp) (Cc : Addr) (cls : List (Str × Addr)) (fp : List Addr), PTs (X.blk s H scope (compEnvC scope cls Cc X.env) fp) ifs (tT X.K W0 mc) := fun s H Cc cls fp => by
            split at h4
            · cases h4; exact st_yes
            · exact st_one ((hS _ _ _ (C.blk s H scope cls Cc fp)).2 _ mc h4)
            · cases h4
          have plain : ∀ {m : M D}, ((semI cf S sc tg iter).map fun it => mComp (cf.lst pos) ((ownOf cf.N scope).map (·.2)) it t mc el) = some m → PC X (.ListComp elt [⟨tg, iter, ifs, 0⟩] scope pos) (tE X.K W m) := fun {m} h => by
            cases e : semI cf S sc tg iter with
            | none => rw [e] at h; cases h
            | some it =>
              rw [e] at h
              cases h
              exact sc_comp _ C.calm hN (semI_ok C (hS X W sc C).1 e) hb' hg ht he hst hsl'
          split at h
          · rename_i x p1
            split at h
            · rename_i hx
              obtain ⟨n1, n2, n3⟩ := nameOk_ok hx.1
              cases e : idx cf.N x with
              | none => rw [e] at h; cases h
              | some i =>
                rw [e] at h
                cases h
                have hv : Vis X.env.scope x := by rw [C.sc]; exact isLoc_vis hx.2
                have hi : X.N[i]? = some x := by rw [C.N]; exact idx_get e
                exact ((sc_compK _ C.calm hN hi hv n1 n2 hb' hg ht he hsl').or (sc_comp _ C.calm hN (si_seq (se_var hi hv n1 n2)) hb' hg ht he hst hsl')).imp fun σ H Q h => compV_or h
            · exact plain h
          · exact plain h
        · cases h
      · cases h
    · cases h
  · cases h
theorem semOpt_ok (hS : ∀ e m, S.E sc e = some m → PE X e (tE X.K W m)) {o : Option Expr} {m : Option (M D)} (h : semOpt S sc o = some m) : PO X o (tO X.K W (mOpt m)) := by
  unfold semOpt at h
  split at h
  · cases h; exact so_none
  · rename_i e
    cases q : S.E sc e with
    | none => rw [q] at h; cases h
    | some m1 => rw [q] at h; cases h; exact so_some (hS _ _ q)
theorem semTold_ok (C : CE cf cl X W sc) {L : Sm} (hL : SmOk cf.low cl L) {x : Str} {body : Expr} {scope : Scope} {p lpos pos : Pos} {m : M D} (h : semTold cf L sc x body scope = some m) : PE X (.Call (.Name x p) [.Lambda noArgs body scope lpos] [] pos) (tE X.K W m) := by
  unfold semTold at h
  split at h
  · rename_i hh
    obtain ⟨h1, rfl, h3, h4⟩ := hh
    cases q : L.E scope body with
    | none => rw [q] at h; cases h
    | some m1 =>
      rw [q] at h
      cases h
      refine se_told (C.told h1) (isGl_gl C h3) (by rw [C.sc]; exact LamX.lamS_by h4) fun k hfn A outer s H E f c' hr => ?_
      refine (hL (FkL.lamN X A outer s H E scope f c') (WofE X.mg E) scope ?_).1 body m1 q
      exact {
        N := C.N
        nd := C.nd
        calm := rfl
        hu := by have := hr.un; show (A.deeper _).units + 200 < cLine; omega
        sc := rfl
        tk := L2N.Takes.imp (L2N.takes_of (X := FkL.lamN X A outer s H E scope f c') (E := E) rfl rfl rfl rfl) fun cls dd σ H' z => by
          obtain ⟨rfl, c, hc, hw⟩ := z
          exact hw cls hc
        glo := C.glo
        fns := fun x n hx => by
          obtain ⟨f', fd', ps, F', m', k', B'⟩ := hfn x n hx
          exact ⟨⟨k, f', fd', ps, F', hr, m', k', B'⟩⟩
        blt := C.blt
        told := fun z => by cases z }
  · cases h
theorem coreE_ok (C : CE cf cl X W sc) {L : Sm} (hL : SmOk cf.low cl L) (hS : SmOk cf cl S) {e : Expr} {m : M D} (h : coreE cf cl L S sc e = some m) : PE X e (tE X.K W m) := by
  have hE := (hS X W sc C).1
  have hT := (hS X W sc C).2
  unfold coreE at h
  split at h
  · cases h; exact se_int
  · cases h; exact se_bl
  · cases h; exact se_non
  · cases h; exact se_str
  · exact semName_ok C h
  · split at h
    · rename_i f ma mb h1 h2 h3
      cases h; exact se_op (opB_ok h1) (hE _ _ h2) (hE _ _ h3)
    · cases h
  · rename_i a _
    cases q : S.E sc a with
    | none => rw [q] at h; cases h
    | some m1 => rw [q] at h; cases h; exact se_neg (hE _ _ q)
  · rename_i a _
    cases q : S.E sc a with
    | none => rw [q] at h; cases h
    | some m1 => rw [q] at h; cases h; exact se_not (hE _ _ q)
  · exact (semCmp_ok C hE h).1
  · exact boolV_ok hE h
  · split at h
    · rename_i h1 h2 h3
      cases h; exact se_if (hT _ _ h1) (hE _ _ h2) (hE _ _ h3)
    · cases h
  · rename_i es _ _
    cases q : semA (S.E sc) es with
    | none => rw [q] at h; cases h
    | some m1 => rw [q] at h; cases h; exact se_tup (semA_ok hE q).1
  · rename_i es _
    cases q : semA (S.E sc) es with
    | none => rw [q] at h; cases h
    | some m1 => rw [q] at h; cases h; exact se_lst _ (semA_ok hE q).1
  · cases h; exact se_dict0 _
  · split at h
    · rename_i h1 h2 h3
      cases h; exact se_slice _ (hE _ _ h1) (semOpt_ok hE h2) (semOpt_ok hE h3)
    · cases h
  · rename_i a _ _ _ _ _
    cases q : S.E sc a with
    | none => rw [q] at h; cases h
    | some m1 => rw [q] at h; cases h; exact se_revL _ (hE _ _ q)
  · split at h
    · rename_i h0 h1 h2
      cases h; exact se_ix C.hu (hE _ _ h1) (hE _ _ h2) (plain_ix h0)
    · cases h
  · exact semCall0_ok C h
  · exact semTold_ok C hL h
  · rename_i x _ y _ a _ _
    split at h
    · rename_i hl
      obtain ⟨rfl, rfl, g1, g2, b1, b2, ns⟩ := isLenSet_ok C hl
      cases q : S.E sc a with
      | none => rw [q] at h; cases h
      | some m1 => rw [q] at h; cases h; exact se_lenSet C.calm g1 b1 g2 b2 (hE _ _ q) ns
    · exact semCall_ok C hE h
  · exact semCall_ok C hE h
  · exact semMeth_ok C hE h
  · exact (semComp_ok C hS h).pe
  · cases h
theorem coreT_ok (C : CE cf cl X W sc) (hS : SmOk cf cl S) {e : Expr} {m : M Bool} (h : coreT cf cl S sc e = some m) : PT X e (tT X.K W m) := by
  have hE := (hS X W sc C).1
  have hT := (hS X W sc C).2
  unfold coreT at h
  split at h
  · rename_i a ops bs _
    cases q : semCmp S sc a ops bs with
    | none => rw [q] at h; cases h
    | some m1 => rw [q] at h; cases h; exact (semCmp_ok C hE q).2
  · exact (boolT_ok hT h).pt
  · rename_i a _
    cases q : S.T sc a with
    | none => rw [q] at h; cases h
    | some m1 => rw [q] at h; cases h; exact st_not (hT _ _ q)
  · split at h
    · rename_i hp
      cases q : S.E sc e with
      | none => rw [q] at h; cases h
      | some m1 =>
        rw [q] at h; cases h
        refine st_val (hE _ _ q) fun whole => ?_
        unfold plainT at hp
        split at hp <;> first | rfl | cases hp
    · cases h
end
theorem semX_ok {cf : Cf} {cl : Str → Fn} {L : Sm} (hL : SmOk cf.low cl L) : ∀ n, SmOk cf cl (semX cf cl L n)
  | 0 => fun X W sc C => ⟨fun e m h => (by cases h), fun e m h => (by cases h)⟩
  | n + 1 => fun X W sc C => by
    have ih := semX_ok (cf := cf) (cl := cl) hL n
    refine ⟨fun e m h => ?_, fun e m h => coreT_ok C ih h⟩
    have h' : (coreE cf cl L (semX cf cl L n) sc e).map (fun m => match cf.frz e.pos with
      | true => mFrz m
      | false => m) = some m := h
    cases q : coreE cf cl L (semX cf cl L n) sc e with
    | none => rw [q] at h'; cases h'
    | some m1 =>
      rw [q] at h'
      have p := coreE_ok C hL ih q
      cases z : cf.frz e.pos with
      | true => rw [z] at h'; cases h'; exact se_frz p
      | false => rw [z] at h'; cases h'; exact p
theorem semL_ok {cf : Cf} {cl : Str → Fn} : SmOk cf.low cl (semL cf cl) := semX_ok (cf := cf.low) (fun X W sc C => ⟨fun e m h => (by cases h), fun e m h => (by cases h)⟩) 40
theorem sem_ok {cf : Cf} {cl : Str → Fn} (n : Nat) : SmOk cf cl (sem cf cl n) := semX_ok semL_ok n
theorem sem_okC {cf : Cf} {cl : Str → Fn} {X : Cx} {W : Ex} {sc : Scope} (C : CE cf cl X W sc) {n : Nat} {elt : Expr} {gs : List Comprehension} {scope : Scope} {pos : Pos} {m : M D} (h : (sem cf cl n).E sc (.ListComp elt gs scope pos) = some m) : PC X (.ListComp elt gs scope pos) (tE X.K W m) := by
  cases n with
  | zero => cases h
  | succ n =>
    have h' : (semComp cf (sem cf cl n) sc elt gs scope pos).map (fun m => match cf.frz pos with
      | true => mFrz m
      | false => m) = some m := h
    cases q : semComp cf (sem cf cl n) sc elt gs scope pos with
    | none => rw [q] at h'; cases h'
    | some m1 =>
      rw [q] at h'
      have p := semComp_ok C (sem_ok n) q
      cases z : cf.frz pos with
      | true => rw [z] at h'; cases h'; exact p.imp fun σ H Q h => seq1 h fun w ms env st H d x s _ r p => frz_post s r p
      | false => rw [z] at h'; cases h'; exact p
end Fk

namespace Fk
open PySem PySem.Spec L2
set_option autoImplicit false

/-! ### statements -/
/-- the context of a def's statements -/
structure CS (cf : Cf) (cl : Str → Fn) (X : Cx) (W : Ex) (sc : Scope) : Prop extends CE cf cl X W sc where
  fn : ∀ x, X.fn x = true
  knd : X.env.scope.kind = .function
  hp : PassesOwn (model X.prog X.w) X.A X.env X.xe
  exc : ∀ x ∈ cf.exc, ∃ C, PySem.W.excIn X.K C [.type "ValueError", .type "Exception", .type "BaseException", .type "object"] "ValueError.__new__" = true ∧ X.mg x = some (.ref C) ∧ PySem.W.keepIn X.K (.ref C) = true ∧ Raises X (.ref C)
def isSt : Expr → Bool
  | .Starred .. => true
  | _ => false
/-- a, b = x, y: which names are stored from the right -/
def swR (sc : Scope) (tg e : Expr) : Option (Option (List Str)) := match tg, e with
  | .Tuple ts _ _, .Tuple vs _ _ =>
    if (!(ts.length == 2 || ts.length == 3) || vs.length != ts.length) = true then some none
    else if (vs.any isSt) = true then some none
    else
      let names := ts.filterMap fun
        | .Name id pos => if (sc.names.lookup id == some .local && pos.line == (ts.head?.map (·.pos.line)).getD 0) = true then some id else none
        | _ => none
      if (names.length != ts.length || names.eraseDups.length != names.length) = true then some none
      else if vs.all (foldedForSure 8) = true then some none
      else if vs.all (constantsAlone 8) = true then none
      else some (some names)
  | .Tuple _ _ _, _ => some none
  | _, _ => none
theorem swR_ok {sc : Scope} {tg e : Expr} {env : Env} {r : Option (List Str)} (hk : env.blockKind = .function) (hs : env.scope = sc) (h : swR sc tg e = some r) : swappedStores [tg] e env = pure r := by
  subst hs
  cases tg with
  | Tuple ts k p =>
    cases e with
    | Tuple vs k2 p2 =>
      unfold swR at h
      dsimp only at h
      unfold swappedStores
      simp only [hk]
      have ek : ∀ id, env.kindOf id = env.scope.names.lookup id := fun _ => rfl
      simp only [ek]
      have en : (ScopeKind.function != ScopeKind.function) = false := by decide
      rw [en, Bool.or_false]
      split at h
      · rename_i c1
        cases h
        rw [if_pos c1]
      · rename_i c1
        rw [if_neg c1]
        split at h
        · rename_i c2
          cases h
          exact if_pos c2
        · rename_i c2
          refine Eq.trans (if_neg c2) ?_
          split at h
          · rename_i c3
            cases h
            exact if_pos c3
          · rename_i c3
            refine Eq.trans (if_neg c3) ?_
            split at h
            · rename_i c4
              cases h
              exact if_pos c4
            · rename_i c4
              refine Eq.trans (if_neg c4) ?_
              split at h
              · cases h
              · rename_i c5
                cases h
                refine Eq.trans (if_neg c5) ?_
                rfl
    | _ => cases h; rfl
  | _ => cases h

/-! ### a, b = x, y: the names from the left -/
def setAll : List Nat → List D → En → En
  | i :: is, d :: ds, env => setAll is ds (env.set i (some d))
  | _, _, env => env
def mAsgL (is : List Nat) (m : M (List D)) : MS := sB m fun ds => fun _ env st => if ds.length = is.length then .nx (setAll is ds env) st else .bad
def gNs : List Nat → TGs
  | [] => gNil
  | i :: r => gCons (gName i) (gNs r)
theorem gNs_ok {K : PySem.W.Frag} {w : Wd} {H : Hp} {Q : St → Hp → Prop} : ∀ {is : List Nat} {vs : List V} {ds : List D} {σ : St} {env : En}, RDs K w vs ds → REn K w σ env → ds.length = is.length → (∀ σ', REn K w σ' (setAll is ds env) → Q σ' H) → gNs is vs σ H Q
  | [], _, [], σ, env, .nil, en, _, q => ⟨rfl, q σ en⟩
  | [], _, _ :: _, _, _, _, _, h, _ => by cases h
  | _ :: _, _, [], _, _, _, _, h, _ => by cases h
  | i :: is, _, d :: ds, σ, env, .cons r rs, en, h, q => by
    refine ⟨_, _, rfl, ?_⟩
    exact gNs_ok (is := is) rs (en.set i r) (by simpa using h) q
section
variable {X : Cx} {W : Ex}
theorem ss_asgL {ts es : List Expr} {is : List Nat} {k k2 : Nat} {p p2 pos : Pos} {m : M (List D)} (hc : X.calm = true) (ha : PA X es (tA X.K W m)) (hg : PGs X ts (gNs is)) (hs : ts.all notStar = true) (hl : ts.length = is.length) (hi : is.length ≤ 1000) (hw : swappedStores [.Tuple ts k p] (.Tuple es k2 p2) X.env = pure none) :
    PS X (.Assign [.Tuple ts k p] (.Tuple es k2 p2) pos) (tS X.K W (mAsgL is m)) :=
  ps_imp (ps_asg (pe_tup ha) (pg_tup hc hg (each_len hs).1 (each_len hs).2) (swaps_tup (e := .Tuple es k2 p2) (ts := ts) (k := k) (p := p) pos.line X.env) hw (by rfl)) fun D σ H h =>
  seqS h fun w ms env st H ds vs s en r q => by
    by_cases e : ds.length = is.length
    · rw [if_pos e] at q
      have lv : vs.length = is.length := (Paired.length r).trans e
      refine ⟨by rw [lv, sizeLine_eq]; omega, fun a ha => ⟨a, vs, rfl, SqT.of upd_same, lv.trans hl.symm, ?_⟩⟩
      have le := Wd.le_frz (u := .tup vs) (s.fnone ha)
      exact gNs_ok (r.mono le) (en.mono le) e fun σ' en' => q _ σ' _ le (s.newF ha) en'
    · rw [if_neg e] at q
      exact False.elim q
/-- a comprehension is not stored in one go where the name is a cell -/
theorem sw_false {elt : Expr} {gs : List Comprehension} {scope : Scope} {pos py : Pos} {y : Str} {l : Nat} {env : Env} (hy : env.scope.names.lookup y = some .cell) : swapsWith (.ListComp elt gs scope pos) (some (.Name y py)) l env = pure false := by
  have ky : env.kindOf y = some .cell := hy
  have e : (some NameKind.cell == some NameKind.local) = false := by decide
  unfold swapsWith
  simp only [ky, e, Bool.and_false, Bool.false_and]
end
end Fk

namespace Fk
open PySem PySem.Spec L2
set_option autoImplicit false

def mPar3 (i j k : Nat) (m : M (List D)) : MS := sB m fun ds => fun _ env st => match ds with
  | [a, b, c] => .nx (((env.set i (some a)).set j (some b)).set k (some c)) st
  | _ => .bad
def slotL (cf : Cf) (sc : Scope) (x : Str) : Option Nat := if isLoc1 (sc.names.lookup x) = true then idx cf.N x else none
def allT : Str → Bool := fun _ => true
def isCell (k : Option NameKind) : Bool := match k with
  | some .cell => true
  | _ => false
def semNs (cf : Cf) (sc : Scope) : List Expr → Option (List Nat)
  | [] => some []
  | .Name x _ :: r => match tgName cf allT sc x, semNs cf sc r with
    | some i, some is => some (i :: is)
    | _, _ => none
  | _ :: _ => none
def semTupL (cf : Cf) (S : Sm) (sc : Scope) (ts : List Expr) (e : Expr) : Option MS := match e with
  | .Tuple es _ _ => match semNs cf sc ts, semA (S.E sc) es with
    | some is, some m => if is.length ≤ 1000 then some (mAsgL is m) else none
    | _, _ => none
  | _ => none
def semAsg (cf : Cf) (S : Sm) (sc : Scope) (tg e : Expr) : Option MS := match tg with
  | .Name x p => match tgName cf allT sc x, S.E sc e with
    | some i, some m => match e with
      | .ListComp _ _ scope pos => if isCell (sc.names.lookup x) = true then some (mSet i m) else if isLoc1 (sc.names.lookup x) = true ∧ (p.line == pos.line) = true ∧ (scope.names.any fun (n, k) => n == x && (k == .local || k == .cell)) = false then some (mSet i m) else none
      | e => if notComp e = true then some (mSet i m) else none
    | _, _ => none
  | .Subscript o i _ => match S.E sc e, S.E sc o, S.E sc i with
    | some m, some mo, some mi => if isSlice i = false then some (mPut m mo mi) else none
    | _, _, _ => none
  | .Tuple ts k p => match swR sc (.Tuple ts k p) e with
    | some none => match semTupL cf S sc ts e with
      | some m => some m
      | none => match semG cf allT sc 4 (.Tuple ts k p), S.E sc e with
        | some t, some m => some (mAsg t m)
        | _, _ => none
    | some (some names) => match ts, e with
      | [.Name x _, .Name y _], .Tuple [a, b] _ _ => match slotL cf sc x, slotL cf sc y, semA (S.E sc) [a, b] with
        | some i, some j, some m => if i ≠ j ∧ names = [x, y] then some (mPar i j m) else none
        | _, _, _ => none
      | [.Name x _, .Name y _, .Name z _], .Tuple [a, b, c] _ _ => match slotL cf sc x, slotL cf sc y, slotL cf sc z, semA (S.E sc) [a, b, c] with
        | some i, some j, some k, some m => if i ≠ j ∧ i ≠ k ∧ j ≠ k ∧ names = [x, y, z] then some (mPar3 i j k m) else none
        | _, _, _, _ => none
      | _, _ => none
    | none => none
  | _ => none
def semSs (f : Stmt → Option MS) : List Stmt → Option MS
  | [] => some mNext
  | s :: r => match f s, semSs f r with
    | some m, some n => some (mSeq m n)
    | _, _ => none
def semFor (cf : Cf) (S : Sm) (sc : Scope) (tg iter : Expr) (b : MS) : Option MS :=
  match semG cf allT sc 4 tg with
  | some t => if notSet iter = true then
      match iter with
      | .Name x _ => if nameOk x = true ∧ isLoc (sc.names.lookup x) = true then (idx cf.N x).map fun i => mForV i t b else (semI cf S sc tg iter).map fun it => mFor it t b
      | iter => (semI cf S sc tg iter).map fun it => mFor it t b
    else none
  | none => none
/-- the store is cut behind each turn -/
def cutB (cf : Cf) (p : Pos) (m : MS) : MS := match cf.at p / 16 % 2 == 1 with
  | true => mCut m
  | false => m
def coreS (cf : Cf) (S : Sm) (sc : Scope) (f : Stmt → Option MS) : Stmt → Option MS
  | .Expr e _ => if notComp e = true then (S.E sc e).map mExpr else none
  | .Return (some e) _ => (S.E sc e).map mRtn
  | .Return none _ => some mRtnN
  | .Pass _ => some mNext
  | .Break _ => some mBrk
  | .Continue _ => some mCnt
  | .If c a b _ => match S.T sc c, semSs f a, semSs f b with
    | some mc, some ma, some mb => some (mIfS mc ma mb)
    | _, _, _ => none
  | .While c a [] p => match S.T sc c, semSs f a with
    | some mc, some ma => some (mWh mc (cutB cf p ma) cf.wf)
    | _, _ => none
  | .For tg iter a [] p => match semSs f a with
    | some ma => semFor cf S sc tg iter (cutB cf p ma)
    | none => none
  | .Assign [tg] e _ => semAsg cf S sc tg e
  | .Raise (some (.Call (.Name x _) [.Constant (.str _) _ _] [] _)) none _ => if x ∈ cf.exc ∧ isGl (sc.names.lookup x) = true ∧ nameOk x = true then some (mRaise x) else none
  | _ => none
def stPos : Stmt → Pos
  | .Expr _ p => p
  | .Return _ p => p
  | .If _ _ _ p => p
  | .While _ _ _ p => p
  | .For _ _ _ _ p => p
  | .Assign _ _ p => p
  | .Raise _ _ p => p
  | .Pass p => p
  | .Break p => p
  | .Continue p => p
  | _ => default
def frzs : List Nat → MS → MS
  | [], m => m
  | i :: r, m => mSeq (mFrzV i) (frzs r m)
def wrapS (cf : Cf) (p : Pos) (m : MS) : MS := match cf.cut p with
  | true => mCut (frzs (cf.fvs p) m)
  | false => frzs (cf.fvs p) m
def semS (cf : Cf) (S : Sm) (sc : Scope) : Nat → Stmt → Option MS
  | 0, _ => none
  | n + 1, s => (coreS cf S sc (semS cf S sc n) s).map (wrapS cf (stPos s))
section
variable {cf : Cf} {cl : Str → Fn} {X : Cx} {W : Ex} {sc : Scope} {n : Nat}
theorem ss_par3 {i j k : Nat} {x y z : Str} {a b c : Expr} {m : M (List D)} {px py pz pt pos : Pos} {kt k2 : Nat} {pt2 : Pos} (hc : X.calm = true) (hN : X.N.Nodup) (hi : X.N[i]? = some x) (hj : X.N[j]? = some y) (hl : X.N[k]? = some z) (hij : i ≠ j) (hil : i ≠ k) (hjl : j ≠ k)
    (hx : X.env.scope.names.lookup x = some .local) (hy : X.env.scope.names.lookup y = some .local) (hz : X.env.scope.names.lookup z = some .local) (ha : PA X [a, b, c] (tA X.K W m))
    (hw : swappedStores [.Tuple [.Name x px, .Name y py, .Name z pz] kt pt] (.Tuple [a, b, c] k2 pt2) X.env = pure (some [x, y, z])) :
    PS X (.Assign [.Tuple [.Name x px, .Name y py, .Name z pz] kt pt] (.Tuple [a, b, c] k2 pt2) pos) (tS X.K W (mPar3 i j k m)) := ps_imp (ps_par3 hc hN hi hj hl hij hil hjl hx hy hz ha hw (by rfl)) fun D σ H h =>
  seqS h fun w ms env st H ds vs s en r p => by
    split at p
    · cases r with
      | cons r1 q =>
        cases q with
        | cons r2 q =>
          cases q with
          | cons r3 q =>
            cases q
            exact ⟨_, _, _, rfl, p w _ H (Wd.le.refl w) s (((en.set i r1).set j r2).set k r3)⟩
    · exact False.elim p
theorem isLoc1_ok {x : Str} (h : isLoc1 (sc.names.lookup x) = true) : sc.names.lookup x = some .local := by
  unfold isLoc1 at h
  split at h
  · assumption
  · cases h
theorem slotL_ok (C : CE cf cl X W sc) {x : Str} {i : Nat} (h : slotL cf sc x = some i) : X.N[i]? = some x ∧ X.env.scope.names.lookup x = some .local := by
  unfold slotL at h
  split at h
  · rename_i hh
    exact ⟨by rw [C.N]; exact idx_get h, by rw [C.sc]; exact isLoc1_ok hh⟩
  · cases h
theorem CS.blk (C : CS cf cl X W sc) : X.env.blockKind = .function := by
  unfold Env.blockKind
  rw [C.knd]
  rfl
theorem CS.store (C : CS cf cl X W sc) : StoreOk X allT := fun x _ => .inl (C.fn x)
theorem isCell_ok {x : Str} (h : isCell (sc.names.lookup x) = true) : sc.names.lookup x = some .cell := by
  unfold isCell at h
  split at h
  · assumption
  · cases h
theorem tg_name {ok : Str → Bool} (C : CE cf cl X W sc) {x : Str} {i : Nat} (h : tgName cf ok sc x = some i) : X.N[i]? = some x ∧ Loc X.env.scope x := by
  unfold tgName at h
  split at h
  · rename_i hh
    refine ⟨by rw [C.N]; exact idx_get h, ?_⟩
    rw [C.sc]
    have := hh.1
    unfold isLc at this
    split at this
    · exact .inl (by assumption)
    · exact .inr (by assumption)
    · cases this
  · cases h
theorem semNs_ok (C : CS cf cl X W sc) : ∀ {ts : List Expr} {is : List Nat}, semNs cf sc ts = some is → PGs X ts (gNs is) ∧ ts.all notStar = true ∧ ts.length = is.length
  | [], _, h => by cases h; exact ⟨pgs_nil, rfl, rfl⟩
  | e :: r, is, h => by
    unfold semNs at h
    split at h
    · rename_i heq; cases heq
    · rename_i x p r' heq
      injection heq with e1 e2
      subst e1 e2
      split at h
      · rename_i i is' h1 h2
        cases h
        obtain ⟨g1, g2, g3⟩ := semNs_ok C h2
        obtain ⟨n1, n2⟩ := tg_name C.toCE h1
        exact ⟨pgs_cons (pg_name (by rw [C.N]; exact C.nd) n1 n2 (.inl (C.fn x))) g1 (by rfl), g2, by rw [List.length_cons, List.length_cons, g3]⟩
      · cases h
    · cases h
theorem semTupL_ok (C : CS cf cl X W sc) {ts : List Expr} {e : Expr} {k : Nat} {p pos : Pos} {m : MS} (hw : swappedStores [.Tuple ts k p] e X.env = pure none) (h : semTupL cf (sem cf cl n) sc ts e = some m) : PS X (.Assign [.Tuple ts k p] e pos) (tS X.K W m) := by
  have hE := (sem_ok (cf := cf) (cl := cl) n X W sc C.toCE).1
  unfold semTupL at h
  split at h
  · split at h
    · rename_i is m1 h1 h2
      split at h
      · rename_i hl
        cases h
        obtain ⟨g1, g2, g3⟩ := semNs_ok C h1
        exact ss_asgL C.calm (semA_ok hE h2).1 g1 g2 g3 hl hw
      · cases h
    · cases h
  · cases h
theorem semAsg_ok (C : CS cf cl X W sc) {tg e : Expr} {pos : Pos} {m : MS} (h : semAsg cf (sem cf cl n) sc tg e = some m) : PS X (.Assign [tg] e pos) (tS X.K W m) := by
  have hE := (sem_ok (cf := cf) (cl := cl) n X W sc C.toCE).1
  have hN : X.N.Nodup := by rw [C.N]; exact C.nd
  unfold semAsg at h
  split at h
  · rename_i x p
    split at h
    · rename_i i m1 h1 h2
      have h1' := h1
      unfold tgName at h1
      split at h1
      · rename_i hh
        have hi : X.N[i]? = some x := by rw [C.N]; exact idx_get h1
        have hl : Loc X.env.scope x := by
          rw [C.sc]
          have := hh.1
          unfold isLc at this
          split at this
          · exact .inl (by assumption)
          · exact .inr (by assumption)
          · cases this
        split at h
        · rename_i elt gs scope pos2
          split at h
          · rename_i hc
            cases h
            exact ss_set hN hi hl (hE _ _ h2) (sw_false (by rw [C.sc]; exact isCell_ok hc)) (.inl (C.fn x))
          split at h
          · rename_i hc
            obtain ⟨c1, c2, c3⟩ := hc
            cases h
            have hl1 : X.env.scope.names.lookup x = some .local := by rw [C.sc]; exact isLoc1_ok c1
            refine ps_imp ((sem_okC C.toCE h2).ps i x p pos hi hl1 (sw_true C.knd hl1 c2 c3)) fun D σ H h => ?_
            exact seqS h fun w ms env st H d x s en r p => p w _ H (Wd.le.refl w) s (en.set i r)
          · cases h
        · split at h
          · rename_i hc
            cases h
            exact ss_set hN hi hl (hE _ _ h2) (swaps_of hc _ _ _) (.inl (C.fn x))
          · cases h
      · cases h1
    · cases h
  · split at h
    · rename_i h1 h2 h3
      split at h
      · rename_i hc
        cases h
        exact ss_put C.hu (hE _ _ h1) (hE _ _ h2) (hE _ _ h3) hc
      · cases h
    · cases h
  · rename_i ts k p
    split at h
    · rename_i hw
      split at h
      · rename_i m1 h1
        cases h
        exact semTupL_ok C (swR_ok C.blk C.sc hw) h1
      split at h
      · rename_i t m1 h1 h2
        cases h
        exact ss_asg (hE _ _ h2) (semG_ok C.toCE C.store 4 _ _ h1) (swaps_tup (e := e) (ts := ts) (k := k) (p := p) pos.line X.env) (swR_ok C.blk C.sc hw) (by rfl)
      · cases h
    · rename_i names hw
      have hw' := swR_ok (env := X.env) C.blk C.sc hw
      split at h
      · rename_i x px y py a b k2 p2
        split at h
        · rename_i i j m1 h1 h2 h3
          split at h
          · rename_i hh
            obtain ⟨c1, c2⟩ := hh
            subst c2
            cases h
            obtain ⟨x1, x2⟩ := slotL_ok C.toCE h1
            obtain ⟨y1, y2⟩ := slotL_ok C.toCE h2
            exact ss_par C.calm hN x1 y1 c1 x2 y2 (semA_ok hE h3).1 hw' (by rfl)
          · cases h
        · cases h
      · rename_i x px y py z pz a b c k2 p2
        split at h
        · rename_i i j l m1 h1 h2 h3 h4
          split at h
          · rename_i hh
            obtain ⟨c1, c2, c3, c4⟩ := hh
            subst c4
            cases h
            obtain ⟨x1, x2⟩ := slotL_ok C.toCE h1
            obtain ⟨y1, y2⟩ := slotL_ok C.toCE h2
            obtain ⟨z1, z2⟩ := slotL_ok C.toCE h3
            exact ss_par3 C.calm hN x1 y1 z1 c1 c2 c3 x2 y2 z2 (semA_ok hE h4).1 hw'
          · cases h
        · cases h
      · cases h
    · cases h
  · cases h
theorem semSs_ok {f : Stmt → Option MS} (hf : ∀ s m, f s = some m → PS X s (tS X.K W m)) : ∀ {l : List Stmt} {m : MS}, semSs f l = some m → PSs X l (tS X.K W m)
  | [], m, h => by cases h; exact ss_nil
  | s :: r, m, h => by
    unfold semSs at h
    split at h
    · rename_i m1 m2 h1 h2
      cases h
      exact ss_cons (hf _ _ h1) (semSs_ok hf h2)
    · cases h
theorem semFor_ok (C : CS cf cl X W sc) {tg iter : Expr} {body : List Stmt} {b m : MS} {pos : Pos} (hb : PSs X body (tS X.K W b)) (h : semFor cf (sem cf cl n) sc tg iter b = some m) : PS X (.For tg iter body [] pos) (tS X.K W m) := by
  have hE := (sem_ok (cf := cf) (cl := cl) n X W sc C.toCE).1
  unfold semFor at h
  split at h
  · rename_i t ht
    have hg := semG_ok C.toCE C.store 4 _ _ ht
    split at h
    · rename_i hset
      have plain : ∀ {m : MS}, ((semI cf (sem cf cl n) sc tg iter).map fun it => mFor it t b) = some m → PS X (.For tg iter body [] pos) (tS X.K W m) := fun {m} h => by
        cases e : semI cf (sem cf cl n) sc tg iter with
        | none => rw [e] at h; cases h
        | some it =>
          rw [e] at h
          cases h
          exact ss_for C.hp C.calm (semI_ok C.toCE hE e) hg hb hset
      split at h
      · rename_i x p1
        split at h
        · rename_i hx
          obtain ⟨n1, n2, n3⟩ := nameOk_ok hx.1
          cases e : idx cf.N x with
          | none => rw [e] at h; cases h
          | some i =>
            rw [e] at h
            cases h
            have hv : Vis X.env.scope x := by rw [C.sc]; exact isLoc_vis hx.2
            have hi : X.N[i]? = some x := by rw [C.N]; exact idx_get e
            exact ps_imp (ps_or (ss_forK C.hp C.calm hi hv n1 n2 hg hb) (ss_for C.hp C.calm (si_seq (se_var hi hv n1 n2)) hg hb hset)) fun D σ H h => forV_or h
        · exact plain h
      · exact plain h
    · cases h
  · cases h
theorem cutB_ok {l : List Stmt} {p : Pos} {m : MS} (h : PSs X l (tS X.K W m)) : PSs X l (tS X.K W (cutB cf p m)) := by
  unfold cutB
  split
  · exact ss_cut h
  · exact h
theorem coreS_ok (C : CS cf cl X W sc) {f : Stmt → Option MS} (hf : ∀ s m, f s = some m → PS X s (tS X.K W m)) {s : Stmt} {m : MS} (h : coreS cf (sem cf cl n) sc f s = some m) : PS X s (tS X.K W m) := by
  have hE := (sem_ok (cf := cf) (cl := cl) n X W sc C.toCE).1
  have hT := (sem_ok (cf := cf) (cl := cl) n X W sc C.toCE).2
  unfold coreS at h
  split at h
  · rename_i e _
    split at h
    · rename_i hc
      cases q : (sem cf cl n).E sc e with
      | none => rw [q] at h; cases h
      | some m1 => rw [q] at h; cases h; exact ss_expr (hE _ _ q) (swaps_of hc _ _ _)
    · cases h
  · rename_i e _
    cases q : (sem cf cl n).E sc e with
    | none => rw [q] at h; cases h
    | some m1 => rw [q] at h; cases h; exact ss_ret (hE _ _ q)
  · cases h; exact ss_retN
  · cases h; exact ss_pass
  · cases h; exact ss_break
  · cases h; exact ss_cont
  · split at h
    · rename_i h1 h2 h3
      cases h; exact ss_if (hT _ _ h1) (semSs_ok hf h2) (semSs_ok hf h3)
    · cases h
  · split at h
    · rename_i h1 h2
      cases h; exact ss_while _ C.hp (hT _ _ h1) (cutB_ok (semSs_ok hf h2))
    · cases h
  · split at h
    · rename_i h1
      exact semFor_ok C (cutB_ok (semSs_ok hf h1)) h
    · cases h
  · exact semAsg_ok C h
  · split at h
    · rename_i hh
      cases h
      obtain ⟨Cc, c1, c2, c3, c4⟩ := C.exc _ hh.1
      exact ss_raise C.calm C.tk c1 c2 c3 c4 (isGl_gl C.toCE hh.2.1) (nameOk_ok hh.2.2).1
    · cases h
  · cases h
theorem frzs_ok {s : Stmt} : ∀ (l : List Nat) {m : MS}, PS X s (tS X.K W m) → PS X s (tS X.K W (frzs l m))
  | [], m, h => h
  | i :: r, m, h => ss_frzV (frzs_ok r h)
theorem semS_ok (C : CS cf cl X W sc) : ∀ (k : Nat) (s : Stmt) (m : MS), semS cf (sem cf cl n) sc k s = some m → PS X s (tS X.K W m)
  | 0, s, m, h => by cases h
  | k + 1, s, m, h => by
    have ih := semS_ok C k
    have h' : (coreS cf (sem cf cl n) sc (semS cf (sem cf cl n) sc k) s).map (wrapS cf (stPos s)) = some m := h
    cases q : coreS cf (sem cf cl n) sc (semS cf (sem cf cl n) sc k) s with
    | none => rw [q] at h'; cases h'
    | some m1 =>
      rw [q] at h'
      cases h'
      have p := frzs_ok (cf.fvs (stPos s)) (coreS_ok C ih q)
      unfold wrapS
      cases cf.cut (stPos s) with
      | true => exact ss_cut1 p
      | false => exact p
end
end Fk

namespace Fk
open PySem PySem.Spec L2
set_option autoImplicit false

/-! ### defs -/
structure Df where
  nm : Str
  qual : Str
  st : Stmt
  cf : Cf
  ps : List Str
def dfOf (tab : List Df) (x : Str) : Option Df := match tab with
  | [] => none
  | d :: r => if d.nm = x then some d else dfOf r x
def runFn (n : Nat) (m : MS) : Fn := fun ds ms st => match m ms (ds.map some ++ List.replicate (n - ds.length) none) st with
  | .nx _ st' => .ok (.p .none) st'
  | .rt d st' => .ok d st'
  | .ex c st' => .ex c st'
  | _ => .bad
def cutD (cf : Cf) (m : MS) : MS := match cf.cut ⟨0, 0, 0, 0⟩ with
  | true => mCut m
  | false => m
def bodyM (df : Df) (cl : Str → Fn) : Option MS := (semSs (semS df.cf (sem df.cf cl 40) (defScope df.st) 40) (defBody df.st)).map (cutD df.cf)
def fnOf (df : Df) (cl : Str → Fn) : Fn := match bodyM df cl with
  | some m => runFn df.cf.N.length m
  | none => fun _ _ _ => .bad
def fnK (tab : List Df) : Nat → Str → Fn
  | 0, _ => fun _ _ _ => .bad
  | k + 1, x => match dfOf tab x with
    | some df => fnOf df (fnK tab k)
    | none => fun _ _ _ => .bad
/-- the table's facts -/
structure TabOk (P : Program) (w : World) (K : PySem.W.Frag) (mg : Str → Option Value) (base : Heap) (tab : List Df) : Prop where
  df : ∀ x d, dfOf tab x = some d → ∃ f fd, Fun K d.nm d.qual d.st f fd ∧ FnScope d.cf.N d.ps (defScope d.st) ∧ Binds K fd d.ps [] ∧ mg x = some (.ref f) ∧ PySem.W.keepIn K (.ref f) = true
  fns : ∀ x d, dfOf tab x = some d → ∀ y n, d.cf.fns.lookup y = some n → ∃ d', dfOf tab y = some d' ∧ d'.ps.length = n
  glo : ∀ z d', dfOf tab z = some d' → ∀ x d, d'.cf.gl.lookup x = some d → ∃ u v, mg x = some u ∧ RelV v u ∧ ∀ w, RD K w v d
  blt : ∀ z d', dfOf tab z = some d' → ∀ x, x ∈ d'.cf.blt → mg x = none
  exc : ∀ z d', dfOf tab z = some d' → ∀ x ∈ d'.cf.exc, ∃ C, PySem.W.excIn K C [.type "ValueError", .type "Exception", .type "BaseException", .type "object"] "ValueError.__new__" = true ∧ mg x = some (.ref C) ∧ PySem.W.keepIn K (.ref C) = true ∧
    PySem.W.subIn K (.ref C) (.type "BaseException") = some true ∧ PySem.W.typeIn K (.ref C) = some (.type "type")
/-- .. where told(lambda: ..) is there -/
structure TabT (P : Program) (w : World) (K : PySem.W.Frag) (mg : Str → Option Value) (base : Heap) (tab : List Df) : Prop extends TabOk P w K mg base tab where
  tgv : ∀ z d', dfOf tab z = some d' → d'.cf.told = true → ∀ k, TGiv P w K mg base (k + 1)
  tbs : ∀ f oc od fd osl c, K.lookup f = some ⟨oc, od, .func fd, osl⟩ → fd.code = .ref c → LamX.TabB base mg c (He.tabOf K c)
  tun : ∀ p ∈ allTabs K, ∀ q ∈ allTabs K, p.1 = q.1 → p.2 = q.2
theorem REn.start {K : PySem.W.Frag} {w : Wd} {N : List Str} {vs : List V} {ds : List D} (r : RDs K w vs ds) : REn K w (start N vs) (ds.map some ++ List.replicate (N.length - ds.length) none) := by
  have hl := Paired.length r
  refine ⟨by unfold L2.start; simp only [List.length_append, List.length_map, List.length_replicate, hl], fun i d h => ?_⟩
  by_cases hi : i < ds.length
  · rw [List.getElem?_append_left (by rw [List.length_map]; exact hi), List.getElem?_map] at h
    cases e : ds[i]? with
    | none => rw [e] at h; cases h
    | some d' =>
      rw [e] at h
      cases h
      obtain ⟨v, hv, rv⟩ := Paired.getR r i d e
      refine ⟨v, ?_, rv⟩
      unfold L2.start
      rw [List.getElem?_append_left (by rw [List.length_map, hl]; exact hi), List.getElem?_map, hv]
      rfl
  · rw [List.getElem?_append_right (by rw [List.length_map]; omega), List.getElem?_replicate] at h
    split at h <;> cases h
section
variable {P : Program} {w : World} {K : PySem.W.Frag} {mg : Str → Option Value} {base : Heap} {tab : List Df}
theorem tabs_mem {f c : Addr} {oc : Value} {od : Option Addr} {fd : FuncData} {osl : Array (Option Value)} (lk : K.lookup f = some ⟨oc, od, .func fd, osl⟩) (hc : fd.code = .ref c) : (He.tabOf K c, fd.qualname ++ ".<locals>." ++ "<lambda>") ∈ allTabs K := by
  refine List.mem_filterMap.mpr ⟨(f, ⟨oc, od, .func fd, osl⟩), He.lookup_mem lk, ?_⟩
  show (match fd.code with
    | .ref c => some (He.tabOf K c, fd.qualname ++ ".<locals>." ++ "<lambda>")
    | _ => none) = _
  rw [hc]
theorem told_of {fns : List (Str × Nat)} {cl : Str → Fn} {X : Cx} {k : Nat} {c : Addr} {qual : Str} (hr : Room (k + 2) X.A) (hc : X.env.code = .ref c) (hq : X.env.qual = qual ++ ".<locals>.") (tb : LamX.TabB X.base X.mg c (He.tabOf X.K c)) (mem : (He.tabOf X.K c, qual ++ ".<locals>." ++ "<lambda>") ∈ allTabs X.K)
    (un : ∀ p ∈ allTabs X.K, p.1 = He.tabOf X.K c → p.2 = qual ++ ".<locals>." ++ "<lambda>") (tg : TGiv X.prog X.w X.K X.mg X.base k) (fn : ∀ x n, fns.lookup x = some n → FnAt X.prog X.w X.K X.mg X.base k x n (cl x)) : ToldF fns cl X :=
  ⟨⟨k, c, hr, hc, tb, by rw [hq]; exact mem, by rw [hq]; exact un, tg, fn⟩⟩
theorem tab_ok (T : TabT P w K mg base tab) : ∀ (k : Nat) (x : Str) (d : Df) (f : Addr) (fd : FuncData), dfOf tab x = some d → Fun K d.nm d.qual d.st f fd → FnScope d.cf.N d.ps (defScope d.st) →
    FnOk P w K mg base (L2N.CX P w) (3 * k + 1) f fd d.ps (spOf K mg d.ps.length (fnK tab k x))
  | 0, x, d, f, fd, hx, F, S => ⟨fun vs H Q E h => h.1, fun A outer s H args us vs Q E _ _ _ _ h => by
      obtain ⟨_, w1, ms, st, ds, _, _, p⟩ := h
      exact False.elim p⟩
  | k + 1, x, d, f, fd, hx, F, S => by
    obtain ⟨oc, od, kV, doc, pm, an, cdv, ct, osl, rfl, lk, hcd⟩ := F.ex
    obtain ⟨c, hc⟩ := He.codeIn_ref hcd
    subst hc
    have ek : 3 * (k + 1) + 1 = (3 * k + 3) + 1 := by omega
    rw [ek]
    refine fn_of lk hcd S (fun vs H Q E h => h.1) fun A outer s H vs Q E hr h => ?_
    obtain ⟨hl, w1, ms, st, ds, s1, rs, p⟩ := h
    have e1 : fnK tab (k + 1) x = fnOf d (fnK tab k) := by
      show (match dfOf tab x with
        | some df => fnOf df (fnK tab k)
        | none => fun _ _ _ => .bad) = _
      rw [hx]
    rw [e1] at p
    unfold fnOf at p
    cases hm : bodyM d (fnK tab k) with
    | none => rw [hm] at p; exact False.elim p
    | some m =>
      rw [hm] at p
      have p : PostF K mg ms w1 (runFn d.cf.N.length m ds ms st) Q E := p
      let W : Ex := fun c σ H => ∀ cv, mg c = some cv → E cv none H
      have tk : L2N.Takes (cxOf (L2N.CX P w) P w K mg base d.cf.N d.qual (defScope d.st) f (.ref c) A outer s H E) (WXof mg W) := L2N.Takes.imp (L2N.takes_of (E := E) rfl rfl rfl rfl) fun cls dd σ H' h => by
        obtain ⟨rfl, c, hc, hw⟩ := h
        exact hw cls hc
      have fnat : ∀ y n, d.cf.fns.lookup y = some n → FnAt P w K mg base (3 * k + 1) y n (fnK tab k y) := fun y n hy => by
        obtain ⟨d', hd', hn⟩ := T.fns x d hx y n hy
        obtain ⟨f', fd', F', S', B', m', k'⟩ := T.df y d' hd'
        exact ⟨f', fd', d'.ps, by rw [← hn]; exact tab_ok T k y d' f' fd' hd' F' S', m', k', B'⟩
      have mem : (He.tabOf K c, d.qual ++ ".<locals>." ++ "<lambda>") ∈ allTabs K := by
        have z := tabs_mem lk (c := c) rfl
        exact z
      have tb1 := T.tbs _ _ _ _ _ c lk rfl
      have told : d.cf.told = true → ToldF d.cf.fns (fnK tab k) (cxOf (L2N.CX P w) P w K mg base d.cf.N d.qual (defScope d.st) f (.ref c) A outer s H E) := fun ht => by
        have tg := T.tgv x d hx ht (3 * k)
        exact told_of (k := 3 * k + 1) (c := c) (qual := d.qual) (hr.mono (by omega)) rfl rfl tb1 mem (fun p hp e => T.tun p hp (He.tabOf K c, d.qual ++ ".<locals>." ++ "<lambda>") mem e) tg fnat
      have C : CS d.cf (fnK tab k) (cxOf (L2N.CX P w) P w K mg base d.cf.N d.qual (defScope d.st) f (.ref c) A outer s H E) W (defScope d.st) := {
        N := rfl
        nd := S.nd
        calm := rfl
        hu := by have := hr.un; show (A.deeper _).units + 200 < cLine; omega
        sc := rfl
        tk := tk
        glo := T.glo x d hx
        fns := fun y n hy => by
          obtain ⟨f', fd', ps', F', m', k', B'⟩ := fnat y n hy
          exact ⟨⟨3 * k + 1, f', fd', ps', F', hr.mono (by omega), m', k', B'⟩⟩
        blt := T.blt x d hx
        told := told
        fn := fun _ => rfl
        knd := S.kind
        hp := passes_of rfl
        exc := fun y hy => by
          obtain ⟨Cc, c1, c2, c3, c4, c5⟩ := T.exc x d hx y hy
          exact ⟨Cc, c1, c2, c3, raises_own c4 c5⟩ }
      have hb : PSs (cxOf (L2N.CX P w) P w K mg base d.cf.N d.qual (defScope d.st) f (.ref c) A outer s H E) (defBody d.st) (tS K W m) := by
        unfold bodyM at hm
        cases q : semSs (semS d.cf (sem d.cf (fnK tab k) 40) (defScope d.st) 40) (defBody d.st) with
        | none => rw [q] at hm; cases hm
        | some m1 =>
          rw [q] at hm
          cases hm
          have z := semSs_ok (fun s m h => semS_ok C 40 s m h) q
          unfold cutD
          split
          · exact ss_cut z
          · exact z
      refine ⟨tS K W m, hb, w1, ms, _, st, s1, REn.start rs, ?_⟩
      unfold runFn at p
      revert p
      cases m ms (ds.map some ++ List.replicate (d.cf.N.length - ds.length) none) st with
      | nx env1 st1 => exact fun p w' σ' H' l s' e' => p w' .non H' l s' .non
      | rt d1 st1 => exact fun p w' v H' l s' r' => p w' v H' l s' r'
      | ex c st1 => exact fun p w' σ' H' l s' cv hc => p w' H' cv l s' hc
      | bk env1 st1 => exact fun p => False.elim p
      | ct env1 st1 => exact fun p => False.elim p
      | bad => exact fun p => False.elim p
end
end Fk

/-! The def that names a caught exception, walked while it is handled. -/
namespace Fk
open PySem PySem.Spec L2 HotX L2H
set_option autoImplicit false
/-! ### xs.index(b) of bools -/
def ixB (b : Bool) : List Bool → Option Nat
  | [] => none
  | x :: r => if x = b then some 0 else (ixB b r).map (· + 1)
theorem ixB_ok {b : Bool} : ∀ {l : List Bool} {j : Nat}, ixB b l = some j → l[j]? = some b ∧ ∀ m, m < j → ∀ z, l[m]? = some z → z ≠ b
  | [], _, h => by cases h
  | x :: r, j, h => by
    unfold ixB at h
    split at h
    · rename_i e
      cases h
      exact ⟨by rw [e]; rfl, fun m hm => absurd hm (Nat.not_lt_zero _)⟩
    · rename_i ne
      cases q : ixB b r with
      | none => rw [q] at h; cases h
      | some i =>
        rw [q] at h
        cases h
        obtain ⟨h1, h2⟩ := ixB_ok q
        refine ⟨by simpa using h1, fun m hm z hz => ?_⟩
        cases m with
        | zero => simp at hz; rw [← hz]; exact ne
        | succ m => exact h2 m (Nat.lt_of_succ_lt_succ hm) z (by simpa using hz)
def fIndex (o a : D) (st : List O) : R D := match o, a with
  | .p (.list ps), .p (.bool b) => match bls ps with
    | some bs => match ixB b bs with
      | some j => .ok (.p (.int (j : Nat))) st
      | none => .bad
    | none => .bad
  | _, _ => .bad
def mIndex (mo ma : M D) : M D := mB mo fun o => mB (fun _ _ st => isLst o st) fun _ => mB ma fun a => fun _ _ st => fIndex o a st
section
variable {X : Cx} {W : Ex} {e o : Expr} {p p2 pos apos cpos : Pos}
theorem index_ok {K : PySem.W.Frag} {w : Wd} {ms : List Nat} {st : List O} {H : Hp} {σ : L2.St} {d a : D} {x y : V} {Q : VK} (s : RSt K ms w st H) (r : RD K w x d) (ra : RD K w y a) (h : Post (RD K) K W ms σ w (fIndex d a st) Q) : rIndex K x [y] H Q := by
  unfold fIndex at h
  split at h
  · split at h
    · rename_i b _ bs hb
      split at h
      · rename_i j hj
        cases ra
        cases r with
        | @lst l vs _ q rr =>
          rw [bls_some hb] at rr
          have ev := RpA.of_bls rr
          subst ev
          obtain ⟨j1, j2⟩ := ixB_ok hj
          refine ⟨l, _, .bl b, j, .bl b, rfl, rfl, SqL.of (s.nd q rfl), rfl, ?_, by rw [List.getElem?_map, j1]; rfl, by cases b <;> rfl, fun m z' hm hz => ?_, h.val s (.int _)⟩
          · rw [List.all_map, List.all_eq_true]
            intro x _
            rfl
          · rw [List.getElem?_map] at hz
            cases q2 : bs[m]? with
            | none => rw [q2] at hz; cases hz
            | some z =>
              rw [q2] at hz
              cases hz
              have := j2 m hm z q2
              cases z <;> cases b <;> first | rfl | exact absurd rfl this
      · exact False.elim h
    · exact False.elim h
  · exact False.elim h
theorem se_index {mo ma : M D} (ho : PE X o (tE X.K W mo)) (ha : PE X e (tE X.K W ma)) (hs : notStar e = true) (hb : noSuper o = true) (hl : (apos.endLine == cpos.line) = true) : PE X (.Call (.Attribute o "index" apos) [e] [] cpos) (tE X.K W (mIndex mo ma)) := by
  refine pe_imp (pe_bm PySem.F.plainAttrs_list PySem.F.slot_list_index PySem.F.type_list_index mt_index ho (pa_cons ha pa_nil (star_of hs _ _)) (base_of hb _ _ _) (few_of (by simp [hs]) (by show 1 < 30; decide)) hl (star_of hs _ _) (by rfl)) fun σ H Q h => ?_
  refine seq1 h fun w ms env st H d x s e r q => ?_
  obtain ⟨ty, t⟩ := isLst_post (Q := fun _ H1 => tE X.K W ma σ H1 fun y H2 => rIndex X.K x [y] H2 Q) s r (post_bind q fun _ st1 w1 _ H1 _ l1 s1 _ q1 => by
    refine ⟨w1, ms, env, st1, s1, e.mono l1, post_bind q1 fun a st2 w2 y H2 _ l2 s2 ra q2 => ?_⟩
    exact index_ok s2 (r.mono (l1.trans l2)) ra q2)
  exact ⟨ty, t⟩
/-! ### isinstance(e, C), e the handled exception -/
theorem cr_isE {a D : Addr} {oe : Obj} (hp : (a, oe) ∈ X.pn) (C : ExcC X.K D) (hz : Zc (.ref D) none oe) (hf : ∃ vs, oe.data = .fields vs) : CallR X (.builtin "isinstance") (rIsE X.K D a) := by
  intro pins s σ H xs us Q I r h
  obtain ⟨c, cv, b, rfl, hcv, e, q⟩ := h
  cases r with
  | cons rx rr =>
    cases rr with
    | cons rt rr =>
      cases rr
      cases rx
      have ec := hcv _ rt
      subst ec
      obtain ⟨hget, _⟩ := I.pin (a, oe) (List.mem_append.mpr (.inl hp))
      obtain ⟨vs, hv⟩ := hf
      have J : PySem.W.InstAt s.heap a oe D none := by
        obtain ⟨oc, od, oda, osl⟩ := oe
        obtain ⟨h1, h2⟩ := hz
        dsimp only at h1 h2 hv
        subst h1 h2 hv
        exact ⟨hget, rfl, rfl, trivial⟩
      exact PySem.W.kia_one (PySem.W.handS_kitx_exc C.hg C.hk C.hs C.hd C.ha C.hn C.ht C.hm) I.kIn J e (fun z => nomatch z) fun tk => ⟨.bl b, H, I.kept (t' := tk) fun _ _ z => z, rfl, q⟩
def mIsE (xa : Addr) (b : Bool) (m : M D) : M D := mB m fun d => fun _ _ st => match d with
  | .o a => if a = xa then .ok (.p (.bool b)) st else .bad
  | _ => .bad
theorem cr_sumHD (hc : HotC X) : CallR X (.builtin "sum") (rDs X.K fSum) := CallR.imp (FkH.cr_sumH hc) fun vs H Q h => by
  obtain ⟨w, ms, st, ds, σ, W, s, rs, p⟩ := h
  unfold fSum at p
  split at p
  · obtain ⟨v, rfl, r⟩ := vals1D rs
    split at p
    · split at p
      · rename_i ps hp _ ns hn
        obtain ⟨a, us, rfl, q, rr⟩ := getP_ok s r hp
        rw [ints_some hn] at rr
        rw [RpA.of_ints rr] at q
        exact ⟨a, ns, rfl, SqL.of q, p.val s (.int _)⟩
      · exact False.elim p
    · exact False.elim p
  · exact False.elim p
/-- what is known where the exception at a, of the class at D, is handled -/
structure CH (Nl : List Str) (xk : List (Str × Bool)) (a D : Addr) (X : Cx) (sc : Scope) : Prop where
  N : X.N = Nl
  nd : Nl.Nodup
  hot : HotC X
  hu : X.A.units + 200 < cLine
  sc : X.env.scope = sc
  fn : ∀ x, X.fn x = true
  pin : ∃ oe, (a, oe) ∈ X.pn ∧ Zc (.ref D) none oe ∧ ∃ vs, oe.data = .fields vs
  exc : ExcC X.K D
  cls : ∀ t b, xk.lookup t = some b → (∃ C, X.mg t = some (.ref C) ∧ PySem.W.kitOne X.K (.ref D) (.ref C) = some b) ∨ (t = "ValueError" ∧ X.mg t = none ∧ PySem.W.kitOne X.K (.ref D) (.type "ValueError") = some b)
  isi : X.mg "isinstance" = none
  sum : X.mg "sum" = none
  int : X.mg "int" = none
theorem gl_of {X : Cx} {sc : Scope} (hsc : X.env.scope = sc) {x : Str} (h : isGl (sc.names.lookup x) = true) : Gl X x := by
  unfold isGl at h
  split at h
  · unfold Gl Env.kindOf
    rw [hsc]
    assumption
  · cases h
variable {Nl : List Str} {xk : List (Str × Bool)} {a D : Addr} {sc : Scope}
theorem se_isE (C : CH Nl xk a D X sc) {b : Bool} {t : Str} {m : M Fk.D} (he : PE X e (tE X.K W m)) (hs : notStar e = true) (hg : Gl X "isinstance") (ht : xk.lookup t = some b) (hgT : Gl X t) (hd : (t == ("__debug__" : Str)) = false) :
    PE X (.Call (.Name "isinstance" p) [e, .Name t p2] [] pos) (tE X.K W (mIsE a b m)) := by
  obtain ⟨oe, h1, h2, h3⟩ := C.pin
  obtain ⟨c, hb, hc⟩ : ∃ c, PE X (.Name t p2) (tC c) ∧ ∀ H Q, Q (.bl b) H → rIsE X.K D a [.ref a, c] H Q := by
    rcases C.cls t b ht with ⟨Cc, hm, hk⟩ | ⟨rfl, hm, hk⟩
    · exact ⟨.ref Cc, pe_glob hgT hm rfl hd, fun H Q q => ⟨.ref Cc, .ref Cc, b, rfl, fun u r => r, hk, q⟩⟩
    · exact ⟨.ty "ValueError", pe_bltn hgT hm (by decide +kernel) rfl (by decide +kernel) hd, fun H Q q => ⟨.ty "ValueError", .type "ValueError", b, rfl, fun u r => r, hk, q⟩⟩
  refine pe_imp (pe_callB (cr_isE h1 C.exc h2 h3) hg C.isi PyProof.Rows.boot_isinstance (pa_cons he (pa_cons hb pa_nil (by rfl)) (star_of hs _ _)) (by decide) (by decide) (star_of hs _ _) (by rfl)) fun σ H Q h => ?_
  refine seq1 h fun w ms env st H d x s _ r q => ?_
  split at q
  · rename_i a'
    split at q
    · rename_i ea
      subst ea
      have er : x = .ref a' := r
      subst er
      exact hc _ _ (q.val s (.bl _))
    · exact False.elim q
  · exact False.elim q
/-! ### a comprehension over a list that never changes -/
def fItP (d : Fk.D) (st : List O) : R (List Fk.D) := match d with
  | .p (.list ds) => .ok (asP ds) st
  | _ => .bad
def mItP (m : M Fk.D) : M (List Fk.D) := mB m fun d => fun _ _ st => fItP d st
theorem se_compH (fl : Bool) {tg l elt : Expr} {ifs : List Expr} {scope : Scope} {own : List (Str × Nat)} {m : M Fk.D} {t : Tg} {c : M Bool} {el : M Fk.D} (hc : HotC X) (hN : X.N.Nodup) (hl : PE X l (tE X.K W m)) (ok : BlkOk X.N X.env.scope scope own)
    (hg : ∀ (s : Shared) (H : Hp) (C : Addr) (cl : List (Str × Addr)) (fp : List Addr), PG (X.blk s H scope (compEnvC scope cl C X.env) fp) tg (tG X.K t)) (ht : ∀ (s : Shared) (H : Hp) (C : Addr) (cl : List (Str × Addr)) (fp : List Addr), PTs (X.blk s H scope (compEnvC scope cl C X.env) fp) ifs (tT X.K W0 c))
    (he : ∀ (s : Shared) (H : Hp) (C : Addr) (cl : List (Str × Addr)) (fp : List Addr), PE (X.blk s H scope (compEnvC scope cl C X.env) fp) elt (tE X.K W0 el)) (hs : ∀ x, foldedSetIterable l X.env x = pure x) (hsl : ∀ j ∈ t.slots, j ∈ own.map (·.2)) :
    PE X (.ListComp elt [⟨tg, l, ifs, 0⟩] scope pos) (tE X.K W (mComp fl (own.map (·.2)) (mItP m) t c el)) :=
  pe_imp (FkH.pe_lcH hc hN hl ok hg ht he hs) fun σ H Q h => by
    obtain ⟨w, ms, env, st, s, en, p⟩ := h
    refine ⟨w, ms, env, st, s, en, ?_⟩
    have p' : Post (RD X.K) X.K W ms σ w (((m ms env st).bind fun d st' => fItP d st').bind fun ds st1 => (mCompL t c el ms (wipeE env (own.map (·.2))) ds [] st1).bind fun acc st' => mkL fl acc st') Q := p
    clear p
    revert p'
    cases m ms env st with
    | bad => exact fun z => z
    | ex c1 st1 => exact fun z => z
    | ok d st1 =>
      intro p' w' v H' l' s' r
      cases d with
      | p d =>
        cases d with
        | list ds =>
          cases r with
          | @lst a vs _ q r => exact ⟨a, rfl, ⟨vs, SqL.of (s'.nd q rfl)⟩, fun D hD => comp_core hsl s' (en.mono l') ⟨q, r.rds⟩ it_list hD (Post.mono l' p')⟩
        | _ => exact False.elim p'
      | _ => exact False.elim p'
/-! ### from the text -/
def hComp (Nl : List Str) (sc : Scope) (f : Expr → Option (M Fk.D)) (elt tg l : Expr) (scope : Scope) : Option (M Fk.D) := match elt, tg with
  | .Call (.Name g _) [.Name y _] [] _, .Name z _ =>
    if g = "int" ∧ isGl ((relS scope sc).names.lookup g) = true ∧ nameOk y = true ∧ isLoc ((relS scope sc).names.lookup y) = true ∧ blkC Nl sc scope (ownOf Nl scope) = true ∧ notSet l = true ∧ isLc ((relS scope sc).names.lookup z) = true ∧ blkOf scope sc z = true then
      match f l, idx Nl y, idx Nl z with
      | some m, some i, some j => if ((ownOf Nl scope).map (·.2)).contains j = true then some (mComp false ((ownOf Nl scope).map (·.2)) (mItP m) (.nm j) mTrue (mN fInt (mCons (mVar i) mNil))) else none
      | _, _, _ => none
    else none
  | _, _ => none
def hE (Nl : List Str) (xk : List (Str × Bool)) (a : Addr) (sc : Scope) : Nat → Expr → Option (M Fk.D)
  | 0, _ => none
  | n + 1, e => match e with
    | .Constant (.int i) _ _ => some (mC (.int i))
    | .Constant (.bool i) _ _ => some (mC (.bool i))
    | .Constant (.str i) _ _ => some (mC (.str i))
    | .Name x _ => if nameOk x = true ∧ isLoc (sc.names.lookup x) = true then (idx Nl x).map mVar else none
    | .BinOp l .Add r _ => match hE Nl xk a sc n l, hE Nl xk a sc n r with
      | some ml, some mr => some (m2 (dAdd false) ml mr)
      | _, _ => none
    | .List es _ => (semA (hE Nl xk a sc n) es).map (mLst false)
    | .Tuple es _ _ => (semA (hE Nl xk a sc n) es).map mTup
    | .Subscript v i _ => match hE Nl xk a sc n v, hE Nl xk a sc n i with
      | some mv, some mi => if isSlice i = false then some (m2 dIx mv mi) else none
      | _, _ => none
    | .Call (.Attribute o nm apos) [x] [] cpos => match hE Nl xk a sc n o, hE Nl xk a sc n x with
      | some mo, some mx => if nm = "index" ∧ noSuper o = true ∧ (apos.endLine == cpos.line) = true ∧ notStar x = true then some (mIndex mo mx) else none
      | _, _ => none
    | .Call (.Name f _) [x, .Name t _] [] _ => match hE Nl xk a sc n x, xk.lookup t with
      | some mx, some b => if f = "isinstance" ∧ notStar x = true ∧ isGl (sc.names.lookup f) = true ∧ isGl (sc.names.lookup t) = true ∧ nameOk t = true then some (mIsE a b mx) else none
      | _, _ => none
    | .Call (.Name f _) [x] [] _ => match hE Nl xk a sc n x with
      | some mx => if f = "sum" ∧ notStar x = true ∧ isGl (sc.names.lookup f) = true then some (mN fSum (mCons mx mNil)) else none
      | none => none
    | .ListComp elt [⟨tg, l, [], 0⟩] scope _ => hComp Nl sc (hE Nl xk a sc n) elt tg l scope
    | _ => none
def hT (f : Expr → Option (M Fk.D)) : Nat → Expr → Option (M Bool)
  | 0, _ => none
  | n + 1, e => match e with
    | .Compare l [.NotEq] [r] _ => match f l, f r with
      | some ml, some mr => if behindInMarks .NotEq r = false then some (mT (m2 dNe' ml mr)) else none
      | _, _ => none
    | .BoolOp .Or [l, r] _ => match hT f n l, hT f n r with
      | some ml, some mr => some (mOrT ml mr)
      | _, _ => none
    | .UnaryOp .Not x _ => (hT f n x).map mNotT
    | .Call g es ks pos => (f (.Call g es ks pos)).map mT
    | _ => none
def hS (Nl : List Str) (xk : List (Str × Bool)) (a : Addr) (sc : Scope) : Nat → Stmt → Option MS
  | 0, _ => none
  | n + 1, s => match s with
    | .Assign [.Name x _] e _ => match tgName ⟨Nl, [], [], [], [], [], [], 0, false⟩ allT sc x, hE Nl xk a sc 10 e with
      | some i, some m => if notComp e = true then some (mSet i m) else none
      | _, _ => none
    | .If c b [] _ => match hT (hE Nl xk a sc 10) 10 c, semSs (hS Nl xk a sc n) b with
      | some mc, some mb => some (mIfS mc mb mNext)
      | _, _ => none
    | .Return (some e) _ => (hE Nl xk a sc 10 e).map mRtn
    | _ => none
theorem hComp_ok (C : CH Nl xk a D X sc) {f : Expr → Option (M Fk.D)} (hf : ∀ e m, f e = some m → PE X e (tE X.K W m)) {elt tg l : Expr} {scope : Scope} {m : M Fk.D} (h : hComp Nl sc f elt tg l scope = some m) : PE X (.ListComp elt [⟨tg, l, [], 0⟩] scope pos) (tE X.K W m) := by
  unfold hComp at h
  split at h
  · rename_i g p1 y p2 p3 z p4
    split at h
    · rename_i hh
      obtain ⟨rfl, h1, h2, h3, h4, h5, h6, h7⟩ := hh
      split at h
      · rename_i ml i j e1 e2 e3
        split at h
        · rename_i e4
          cases h
          obtain ⟨n1, n2, n3⟩ := nameOk_ok h2
          have hN : X.N.Nodup := by rw [C.N]; exact C.nd
          refine se_compH false C.hot hN (hf _ _ e1) (by rw [C.N, C.sc]; exact blkOk_by h4) (fun s H Cc cls fp => ?_) (fun s H Cc cls fp => st_yes) (fun s H Cc cls fp => ?_) (folded_of h5 X.env) (fun q hq => ?_)
          · have es : (X.blk s H scope (compEnvC scope cls Cc X.env) fp).env.scope = relS scope X.env.scope := rfl
            refine sg_name (X := X.blk s H scope (compEnvC scope cls Cc X.env) fp) hN (by show X.N[j]? = some z; rw [C.N]; exact idx_get e3) (by
              rw [es, C.sc]
              unfold isLc at h6
              split at h6
              · exact .inl (by assumption)
              · exact .inr (by assumption)
              · cases h6) (by rw [← C.sc] at h7; exact blk_store s H cls Cc fp z h7)
          · have es : (X.blk s H scope (compEnvC scope cls Cc X.env) fp).env.scope = relS scope sc := by rw [← C.sc]; rfl
            exact se_callTy (X := X.blk s H scope (compEnvC scope cls Cc X.env) fp) cr_intD (gl_of es h1) C.int (by decide +kernel) (sa_cons rfl (se_var (by show X.N[i]? = some y; rw [C.N]; exact idx_get e2) (by rw [es]; exact isLoc_vis h3) n1 n2) sa_nil) (by decide +kernel) (by decide) (by rfl)
          · have eq : q = j := List.mem_singleton.mp hq
            subst eq
            simpa using e4
        · cases h
      · cases h
    · cases h
  · cases h
theorem hE_ok (C : CH Nl xk a D X sc) : ∀ (n : Nat) (e : Expr) (m : M Fk.D), hE Nl xk a sc n e = some m → PE X e (tE X.K W m)
  | 0, _, _, h => by cases h
  | n + 1, e, m, h => by
    have ih := hE_ok C n
    have ihA := fun {es : List Expr} {m : M (List Fk.D)} (h : semA (hE Nl xk a sc n) es = some m) => semA_ok (S := ⟨fun _ e => hE Nl xk a sc n e, fun _ _ => none⟩) (sc := sc) (X := X) (W := W) ih h
    unfold hE at h
    split at h
    · cases h; exact se_int
    · cases h; exact se_bl
    · cases h; exact se_str
    · split at h
      · rename_i x _ hh
        obtain ⟨n1, n2, n3⟩ := nameOk_ok hh.1
        cases q : idx Nl x with
        | none => rw [q] at h; cases h
        | some i => rw [q] at h; cases h; exact se_var (by rw [C.N]; exact idx_get q) (by rw [C.sc]; exact isLoc_vis hh.2) n1 n2
      · cases h
    · split at h
      · rename_i h1 h2
        cases h; exact se_op (op_addD false) (ih _ _ h1) (ih _ _ h2)
      · cases h
    · rename_i es _
      cases q : semA (hE Nl xk a sc n) es with
      | none => rw [q] at h; cases h
      | some m1 => rw [q] at h; cases h; exact se_lst _ (ihA q).1
    · rename_i es _ _
      cases q : semA (hE Nl xk a sc n) es with
      | none => rw [q] at h; cases h
      | some m1 => rw [q] at h; cases h; exact se_tup (ihA q).1
    · split at h
      · rename_i h1 h2
        split at h
        · rename_i h0
          cases h; exact se_ix C.hu (ih _ _ h1) (ih _ _ h2) (plain_ix h0)
        · cases h
      · cases h
    · split at h
      · rename_i h1 h2
        split at h
        · rename_i hh
          obtain ⟨rfl, g1, g2, g3⟩ := hh
          cases h
          exact se_index (ih _ _ h1) (ih _ _ h2) g3 g1 g2
        · cases h
      · cases h
    · split at h
      · rename_i h1 h2
        split at h
        · rename_i hh
          obtain ⟨rfl, g1, g2, g3, g4⟩ := hh
          cases h
          exact se_isE C (ih _ _ h1) g1 (gl_of C.sc g2) h2 (gl_of C.sc g3) (nameOk_ok g4).1
        · cases h
      · cases h
    · split at h
      · rename_i h1
        split at h
        · rename_i hh
          obtain ⟨rfl, g1, g2⟩ := hh
          cases h
          exact se_callB (cr_sumHD C.hot) (gl_of C.sc g2) C.sum (by decide +kernel) (sa_cons g1 (ih _ _ h1) sa_nil) (by decide +kernel) (by decide) (by simp [g1])
        · cases h
      · cases h
    · exact hComp_ok C ih h
    · cases h
theorem hT_ok (C : CH Nl xk a D X sc) {f : Expr → Option (M Fk.D)} (hf : ∀ e m, f e = some m → PE X e (tE X.K W m)) : ∀ (n : Nat) (e : Expr) (m : M Bool), hT f n e = some m → PT X e (tT X.K W m)
  | 0, _, _, h => by cases h
  | n + 1, e, m, h => by
    have ih := hT_ok C hf n
    unfold hT at h
    split at h
    · split at h
      · rename_i h1 h2
        split at h
        · rename_i h0
          cases h; exact st_cmp (op_ne' C.hu) (hf _ _ h1) (hf _ _ h2) h0
        · cases h
      · cases h
    · split at h
      · rename_i h1 h2
        cases h; exact (st_or (ih _ _ h1) (st_or1 (ih _ _ h2))).pt
      · cases h
    · rename_i x _
      cases q : hT f n x with
      | none => rw [q] at h; cases h
      | some m1 => rw [q] at h; cases h; exact st_not (ih _ _ q)
    · rename_i g es ks p
      cases q : f (.Call g es ks p) with
      | none => rw [q] at h; cases h
      | some m1 => rw [q] at h; cases h; exact st_val (hf _ _ q) fun whole => rfl
    · cases h
theorem hS_ok (C : CH Nl xk a D X sc) : ∀ (n : Nat) (s : Stmt) (m : MS), hS Nl xk a sc n s = some m → PS X s (tS X.K W m)
  | 0, _, _, h => by cases h
  | n + 1, s, m, h => by
    have ih := hS_ok C n
    have hN : X.N.Nodup := by rw [C.N]; exact C.nd
    unfold hS at h
    split at h
    · rename_i x p e q
      split at h
      · rename_i i m1 h1 h2
        split at h
        · rename_i hc
          cases h
          unfold tgName at h1
          split at h1
          · rename_i hh
            refine ss_set hN (by rw [C.N]; exact idx_get h1) (by
              rw [C.sc]
              have := hh.1
              unfold isLc at this
              split at this
              · exact .inl (by assumption)
              · exact .inr (by assumption)
              · cases this) (hE_ok C 10 _ _ h2) (swaps_of hc _ _ _) (.inl (C.fn x))
          · cases h1
        · cases h
      · cases h
    · split at h
      · rename_i h1 h2
        cases h; exact ss_if (hT_ok C (hE_ok C 10) 10 _ _ h1) (semSs_ok ih h2) ss_nil
      · cases h
    · rename_i e _
      cases q : hE Nl xk a sc 10 e with
      | none => rw [q] at h; cases h
      | some m1 => rw [q] at h; cases h; exact ss_ret (hE_ok C 10 _ _ q)
    · cases h
end
end Fk

set_option maxHeartbeats 4000000
namespace Fk
open PySem PySem.Spec L2 HotX L2H
set_option autoImplicit false
/-! ### the name of a caught exception -/
def xkOf (b : Str → Bool) : List (Str × Bool) := kinds18.map (fun t => (t, b t)) ++ [(("ValueError" : Str), true)]
def isLE (a : Addr) (l : List Bool) : M (List D) := match l with
  | [] => mNil
  | b :: r => mCons (mIsE a b (mVar 0)) (isLE a r)
def ksL (l : List Str) : M (List D) := match l with
  | [] => mNil
  | s :: r => mCons (mC (.str s)) (ksL r)
def tSum : M Bool := mT (m2 dNe' (mN fSum (mCons (mComp false [3] (mItP (mVar 1)) (.nm 3) mTrue (mN fInt (mCons (mVar 3) mNil))) mNil)) (mC (.int 1)))
def tTerm (a : Addr) (b : Str → Bool) : MS :=
  mSeq (mSet 1 (mLst false (isLE a [b "InvalidNumber", b "InvalidRow", b "InvalidFormula"]))) (mSeq (mSet 1 (m2 (dAdd false) (mVar 1) (mLst false (isLE a [b "InvalidGraph", b "InvalidBlock", b "InvalidName"])))) (mSeq (mSet 1 (m2 (dAdd false) (mVar 1) (mLst false (isLE a [b "InvalidValues", b "InvalidWay", b "InvalidText"])))) (mSeq (mSet 1 (m2 (dAdd false) (mVar 1) (mLst false (isLE a [b "InvalidPass", b "InvalidPaper", b "NotCounted"])))) (mSeq (mSet 1 (m2 (dAdd false) (mVar 1) (mLst false (isLE a [b "NotOdd", b "NotSingle", b "NotPlain"])))) (mSeq (mSet 1 (m2 (dAdd false) (mVar 1) (mLst false (isLE a [b "NoLoop", b "TooMany", b "NothingToUndo"])))) (mSeq (mSet 2 (mLst false (ksL ["InvalidNumber", "InvalidRow", "InvalidFormula", "InvalidGraph", "InvalidBlock", "InvalidName"]))) (mSeq (mSet 2 (m2 (dAdd false) (mVar 2) (mLst false (ksL ["InvalidValues", "InvalidWay", "InvalidText", "InvalidPass", "InvalidPaper", "NotCounted"])))) (mSeq (mSet 2 (m2 (dAdd false) (mVar 2) (mLst false (ksL ["NotOdd", "NotSingle", "NotPlain", "NoLoop", "TooMany", "NothingToUndo"])))) (mSeq (mIfS (mOrT tSum (mNotT (mT (mIsE a true (mVar 0))))) (mSeq (mRtn (mTup (mCons (mC (.str "error")) (mCons (mC (.str "other")) mNil)))) mNext) mNext) (mSeq (mRtn (mTup (mCons (mC (.str "error")) (mCons (m2 dIx (mVar 2) (mIndex (mVar 1) (mC (.bool true)))) mNil)))) mNext))))))))))
theorem m2_okU {f : Op2} {ma mb : M D} {ms : List Nat} {env : En} {st st1 st2 : List O} {x y : D} (ha : ma ms env st = .ok x st1) (hb : mb ms env st1 = .ok y st2) : m2 f ma mb ms env st = f x y st2 := by
  unfold m2 mB
  simp only [ha, hb, R.bind]
theorem isE_ok {a : Addr} {b : Bool} {ms : List Nat} {env : En} {st : List O} : mIsE a b (mVar 0) ms (some (.o a) :: env) st = .ok (.p (.bool b)) st := by
  show (if a = a then R.ok (D.p (.bool b)) st else .bad) = _
  rw [if_pos rfl]
theorem isLE_ok {a : Addr} {ms : List Nat} {env : En} {st : List O} : ∀ l : List Bool, isLE a l ms (some (.o a) :: env) st = .ok (l.map fun b => .p (.bool b)) st
  | [] => rfl
  | b :: r => by
    unfold isLE mCons mB
    simp only [mB, isE_ok, isLE_ok r, R.bind, List.map_cons]
    rfl
theorem seq_set {i : Nat} {m : M D} {n : MS} {ms : List Nat} {env : En} {st st' : List O} {d : D} (h : m ms env st = .ok d st') : mSeq (mSet i m) n ms env st = n ms (env.set i (some d)) st' := by
  unfold mSeq mSet sB
  rw [h]
  rfl
theorem isT_ok {a : Addr} {ms : List Nat} {env : En} {st : List O} (x y z : Bool) : mLst false (isLE a [x, y, z]) ms (some (.o a) :: env) st = .ok (.p (.list [.bool x, .bool y, .bool z])) st := by
  unfold mLst mB
  rw [isLE_ok]
  rfl
theorem fl_add {a : Addr} {ms : List Nat} {l r : List PyData} {x2 x3 : Option D} {st : List O} {m : M D} (h : m ms [some (.o a), some (.p (.list l)), x2, x3] st = .ok (.p (.list r)) st) (h2 : dAdd false (.p (.list l)) (.p (.list r)) st = .ok (.p (.list (l ++ r))) st) :
    m2 (dAdd false) (mVar 1) m ms [some (.o a), some (.p (.list l)), x2, x3] st = .ok (.p (.list (l ++ r))) st := by
  rw [m2_okU rfl h, h2]
def flagsOf (b : Str → Bool) : List PyData := kinds18.map fun t => .bool (b t)
def kindsD : List PyData := kinds18.map .str
def tEnd (a : Addr) : MS := mSeq (mIfS (mOrT tSum (mNotT (mT (mIsE a true (mVar 0))))) (mSeq (mRtn (mTup (mCons (mC (.str "error")) (mCons (mC (.str "other")) mNil)))) mNext) mNext) (mSeq (mRtn (mTup (mCons (mC (.str "error")) (mCons (m2 dIx (mVar 2) (mIndex (mVar 1) (mC (.bool true)))) mNil)))) mNext)
theorem tTerm_end {a : Addr} {b : Str → Bool} {ms : List Nat} {st : List O} : tTerm a b ms [some (.o a), none, none, none] st = tEnd a ms [some (.o a), some (.p (.list (flagsOf b))), some (.p (.list kindsD)), none] st := by
  unfold tTerm
  rw [seq_set (isT_ok _ _ _)]
  simp only [List.set_cons_zero, List.set_cons_succ]
  rw [seq_set (fl_add (isT_ok _ _ _) (by kernel_rfl))]
  simp only [List.set_cons_zero, List.set_cons_succ]
  rw [seq_set (fl_add (isT_ok _ _ _) (by kernel_rfl))]
  simp only [List.set_cons_zero, List.set_cons_succ]
  rw [seq_set (fl_add (isT_ok _ _ _) (by kernel_rfl))]
  simp only [List.set_cons_zero, List.set_cons_succ]
  rw [seq_set (fl_add (isT_ok _ _ _) (by kernel_rfl))]
  simp only [List.set_cons_zero, List.set_cons_succ]
  rw [seq_set (fl_add (isT_ok _ _ _) (by kernel_rfl))]
  kernel_rfl
theorem tEnd_ok {a : Addr} {b : Str → Bool} {c : Str} {ms : List Nat} {st : List O} (hs : tSum ms [some (.o a), some (.p (.list (flagsOf b))), some (.p (.list kindsD)), none] st = .ok false st)
    (hi : m2 dIx (mVar 2) (mIndex (mVar 1) (mC (.bool true))) ms [some (.o a), some (.p (.list (flagsOf b))), some (.p (.list kindsD)), none] st = .ok (.p (.str c)) st) :
    tEnd a ms [some (.o a), some (.p (.list (flagsOf b))), some (.p (.list kindsD)), none] st = .rt (.p (.tuple [.str "error", .str c])) st := by
  have h1 : mOrT tSum (mNotT (mT (mIsE a true (mVar 0)))) ms [some (.o a), some (.p (.list (flagsOf b))), some (.p (.list kindsD)), none] st = .ok false st := by
    unfold mOrT mNotT mT mB
    simp only [hs, R.bind, mB, isE_ok]
    rfl
  have h2 : mTup (mCons (mC (.str "error")) (mCons (m2 dIx (mVar 2) (mIndex (mVar 1) (mC (.bool true)))) mNil)) ms [some (.o a), some (.p (.list (flagsOf b))), some (.p (.list kindsD)), none] st = .ok (.p (.tuple [.str "error", .str c])) st := by
    generalize m2 dIx (mVar 2) (mIndex (mVar 1) (mC (.bool true))) = X at hi
    unfold mTup mCons mB
    simp only [mB, mC, mCons, hi, R.bind]
    rfl
  unfold tEnd mSeq mIfS sB
  simp only [h1, R.toS, mNext, RS.then, mRtn, sB, h2]
theorem tTerm_ok {a : Addr} {b : Str → Bool} {c : Str} (hc : c ∈ kinds18) (hb : ∀ t, b t = decide (t = c)) {ms : List Nat} {st : List O} : tTerm a b ms [some (.o a), none, none, none] st = .rt (.p (.tuple [.str "error", .str c])) st := by
  rw [tTerm_end]
  have eb : b = fun t => decide (t = c) := funext hb
  subst eb
  unfold kinds18 at hc
  simp only [List.mem_cons, List.not_mem_nil, or_false] at hc
  rcases hc with rfl | rfl | rfl | rfl | rfl | rfl | rfl | rfl | rfl | rfl | rfl | rfl | rfl | rfl | rfl | rfl | rfl | rfl
  all_goals exact tEnd_ok (by kernel_rfl) (by kernel_rfl)
end Fk

namespace Fk
open PySem PySem.Spec L2 HotX L2H
set_option autoImplicit false
/-- the exceptions' classes -/
def ExcF (K : PySem.W.Frag) (mg : Str → Option Value) (CS : Addr) : Prop := ∀ c ∈ kinds18, ∃ D, mg c = some (.ref D) ∧ ExcC K D ∧ PySem.W.exmOne K (.ref D) (.ref CS) = some true ∧ PySem.W.kitOne K (.ref D) (.type "ValueError") = some true ∧ ∀ t ∈ kinds18, ∃ C, mg t = some (.ref C) ∧ PySem.W.kitOne K (.ref D) (.ref C) = some (decide (t = c))
abbrev termN : List Str := ["e", "flags", "kinds", "flag"]
theorem xk_lookup {b : Str → Bool} {t : Str} {x : Bool} (h : (xkOf b).lookup t = some x) : (t ∈ kinds18 ∧ x = b t) ∨ (t = "ValueError" ∧ x = true) := by
  have hm := PySem.mem_of_lookup h
  unfold xkOf at hm
  rcases List.mem_append.mp hm with hm | hm
  · obtain ⟨s, hs, e⟩ := List.mem_map.mp hm
    cases e
    exact .inl ⟨hs, rfl⟩
  · rcases List.mem_singleton.mp hm with e
    cases e
    exact .inr ⟨rfl, rfl⟩
section
variable {P : Program} {w : World} {K : PySem.W.Frag} {mg : Str → Option Value} {base : Heap}
theorem term_ok {st : Stmt} {ft CS : Addr} {fd : FuncData} (F : Fun K "_law_term" "_law_term" st ft fd) (S : FnScope termN [("e" : Str)] (defScope st)) (B : Binds K fd [("e" : Str)] [])
    (hm : ∀ a b, semSs (hS termN (xkOf b) a (defScope st) 10) (defBody st) = some (tTerm a b)) (X : ExcF K mg CS) (b1 : mg "isinstance" = none) (b2 : mg "sum" = none) (b3 : mg "int" = none) (b4 : mg "ValueError" = none) (k : Nat) : FkL.TermOk P w K mg base (k + 1) ft (spTm K mg) := by
  intro A outer s H Q D p hr hot hz hpin e0 hsp
  obtain ⟨oc, od, kV, doc, pm, an, cdv, ct, osl, rfl, lk, hcd⟩ := F.ex
  obtain ⟨w1, ms, st1, c, s1, hc, hk, q⟩ := hsp
  obtain ⟨D', x1, x2, x3, x4, x5⟩ := X c hk
  rw [x1] at hc
  cases hc
  have KX : K.In s.heap := e0.mod.kin.keeps fun b o e => (e0.bs b o e).1
  have lim : s.heap.NoLimit := e0.mod.nolimit.keeps fun b o e => (e0.bs b o e).1
  have us : Vals [.ref p.1] [Value.ref p.1] := .cons rfl .nil
  have bd := B s [.ref p.1] KX rfl
  have hkind : ∀ y ∈ [("e" : Str)].zip [Value.ref p.1], (defScope st).names.lookup y.1 = some .local ∨ ((defScope st).names.lookup y.1 = some .cell ∧ ((cellsFrom (s.heap.objs.size + 1) (defScope st).names []).lookup y.1).isSome = true) := fun ⟨n, v⟩ hy => by
    rcases S.par n (List.of_mem_zip hy).1 with z | z
    · exact .inl z
    · exact .inr ⟨z, PySem.W.cellsFrom_some _ _ _ (.inl z)⟩
  refine codeAny_call_function hr.depth (KX _ _ lk) rfl S.co S.gen rfl (PySem.W.codeRec_of KX hcd) (bd _ _ _ _ ?_)
  refine wpAny_newFunctionEnv_cells S.kind hkind fun env he s2 x => ?_
  subst he
  refine ⟨lim.keeps x.toInCall.keep, codeAny_func ?_⟩
  have I : Inv (cxH C8.CX0 P w K mg base termN "_law_term" (defScope st) ft cdv A outer s H C8.E0 p) [] (L2.start termN [.ref p.1]) H s2 := inv_startH S hpin e0 rfl us x
  let b : Str → Bool := fun t => decide (t = c)
  obtain ⟨vs, hv1, hv2⟩ := hot.2
  have C : CH termN (xkOf b) p.1 D (cxH C8.CX0 P w K mg base termN "_law_term" (defScope st) ft cdv A outer s H C8.E0 p) (defScope st) := {
    N := rfl
    nd := S.nd
    hot := ⟨p, ⟨hot.1, vs, hv1, hv2⟩, List.mem_cons_self⟩
    hu := by have := hr.un; show (A.deeper _).units + 200 < cLine; show A.units + 3 + 200 < cLine; omega
    sc := rfl
    fn := fun _ => rfl
    pin := ⟨p.2, List.mem_cons_self, hz.zc, vs, hv1⟩
    exc := x2
    cls := fun t x h => by
      rcases xk_lookup h with ⟨h1, rfl⟩ | ⟨rfl, rfl⟩
      · obtain ⟨Cc, c1, c2⟩ := x5 t h1
        exact .inl ⟨Cc, c1, c2⟩
      · exact .inr ⟨rfl, b4, x4⟩
    isi := b1
    sum := b2
    int := b3 }
  have hb := semSs_ok (X := cxH C8.CX0 P w K mg base termN "_law_term" (defScope st) ft cdv A outer s H C8.E0 p) (W := W0) (fun s m h => hS_ok C 10 s m h) (hm p.1 b)
  have en : REn K w1 (L2.start termN [.ref p.1]) [some (.o p.1), none, none, none] := REn.start (N := termN) (vs := [.ref p.1]) (ds := [.o p.1]) (.cons rfl .nil)
  have ev := tTerm_ok (a := p.1) (b := b) hk (fun t => rfl) (ms := ms) (st := st1)
  refine wpAny_mono (hb.run [] s2 (L2.start termN [.ref p.1]) H { nx := fun _ H' => Q .non H', rt := Q } I ⟨w1, ms, _, st1, s1, en, by rw [ev]; exact q⟩) (fun fl s' hs => ?_) fun e s' hs => hs
  cases fl with
  | ret u =>
    obtain ⟨v, σ', H', J, rv, q⟩ := hs
    exact ⟨v, H', J.os, J.bare, J.base, J.hok, rv, q⟩
  | next =>
    obtain ⟨σ', H', J, q⟩ := hs
    exact ⟨V.non, H', J.os, J.bare, J.base, J.hok, rfl, q⟩
  | brk =>
    obtain ⟨_, _, _, q⟩ := hs
    exact False.elim q
  | cont =>
    obtain ⟨_, _, _, q⟩ := hs
    exact False.elim q
end
end Fk

namespace Fk
open PySem PySem.Spec L2
set_option autoImplicit false

/-! ### a law's defs and the module's other names -/
structure Gb where
  gi : List (Str × Int)
  gs : List (Str × Str)
  gt : List (Str × List Str)
  exc : List Str
  blt : List Str
  wf : Nat
  told : Bool
structure Sk where
  nm : Str
  st : Stmt
  N : List Str
  ps : List Str
  fg : List (Pos × Nat)
  fv : List (Pos × List Nat)
def Gb.gl (G : Gb) : List (Str × D) := G.gi.map (fun q => (q.1, D.p (.int q.2))) ++ G.gs.map (fun q => (q.1, D.p (.str q.2))) ++ G.gt.map (fun q => (q.1, D.g (q.2.map .str)))
def fnsOf (sk : List Sk) : List (Str × Nat) := sk.map fun s => (s.nm, s.ps.length)
def Sk.df (G : Gb) (fns : List (Str × Nat)) (s : Sk) : Df := ⟨s.nm, s.nm, s.st, ⟨s.N, s.fg, s.fv, G.gl, fns, G.exc, G.blt, G.wf, G.told⟩, s.ps⟩
def tabOf (G : Gb) (sk : List Sk) : List Df := sk.map (Sk.df G (fnsOf sk))
def isFun : ScopeKind → Bool
  | .function => true
  | _ => false
def notFree : NameKind → Bool
  | .free => false
  | _ => true
def skChk (s : Sk) : Bool := isFun (defScope s.st).kind && !(defScope s.st).isCoroutine && !(defScope s.st).isGenerator && decide s.N.Nodup && decide (s.N.take s.ps.length = s.ps) && s.ps.all (fun x => isLc ((defScope s.st).names.lookup x)) && (defScope s.st).names.all (fun y => notFree y.2)
theorem skChk_ok {s : Sk} (h : skChk s = true) : FnScope s.N s.ps (defScope s.st) := by
  unfold skChk at h
  simp only [Bool.and_eq_true, decide_eq_true_eq, List.all_eq_true, Bool.not_eq_true'] at h
  obtain ⟨⟨⟨⟨⟨⟨h1, h2⟩, h3⟩, h4⟩, h5⟩, h6⟩, h7⟩ := h
  refine ⟨?_, h2, h3, h4, h5, fun x hx => ?_, fun y hy e => ?_⟩
  · unfold isFun at h1
    split at h1
    · assumption
    · cases h1
  · have := h6 x hx
    unfold isLc at this
    split at this
    · exact .inl (by assumption)
    · exact .inr (by assumption)
    · cases this
  · have := h7 y hy
    rw [e] at this
    cases this
def BindOk (s : Sk) : Prop := ∀ (kV doc pm : Value) (an : Option Addr) (cdv ct : Value) (us : List Value), us.length = s.ps.length → bindArgs (PySem.W.fnOf s.nm s.nm (defArgs s.st) (defBody s.st) (defScope s.st) .none kV doc pm an cdv ct) ⟨us, []⟩ = pure (s.ps.zip us)
theorem dfOf_map {G : Gb} {fns : List (Str × Nat)} {x : Str} {d : Df} : ∀ {sk : List Sk}, dfOf (sk.map (Sk.df G fns)) x = some d → ∃ s ∈ sk, s.nm = x ∧ d = Sk.df G fns s
  | [], h => by cases h
  | s :: r, h => by
    rw [List.map_cons] at h
    unfold dfOf at h
    split at h
    · rename_i e
      cases h
      exact ⟨s, List.mem_cons_self, e, rfl⟩
    · obtain ⟨s', h1, h2, h3⟩ := dfOf_map h
      exact ⟨s', List.mem_cons_of_mem _ h1, h2, h3⟩
theorem dfOf_fns {G : Gb} {fns : List (Str × Nat)} {y : Str} {n : Nat} : ∀ {sk : List Sk}, (fnsOf sk).lookup y = some n → ∃ d', dfOf (sk.map (Sk.df G fns)) y = some d' ∧ d'.ps.length = n
  | [], h => by cases h
  | s :: r, h => by
    unfold fnsOf at h
    rw [List.map_cons, List.lookup_cons] at h
    rw [List.map_cons]
    unfold dfOf
    split at h
    · rename_i e
      have e : y = s.nm := eq_of_beq e
      cases h
      exact ⟨_, if_pos e.symm, rfl⟩
    · rename_i e
      have ne : ¬ s.nm = y := fun z => by
        subst z
        simp at e
      obtain ⟨d', h1, h2⟩ := dfOf_fns (G := G) (fns := fns) (sk := r) h
      exact ⟨d', by rw [if_neg (by exact ne)]; exact h1, h2⟩
/-! ### the facts behind the top -/
def Sk.dd (s : Sk) : He.DefD := ⟨(s.nm, none), s.nm, s.nm, defArgs s.st, defBody s.st, defScope s.st, [], []⟩
def faOf (G : Gb) (sk : List Sk) : List He.Fa := sk.map (fun s => .glo s.nm) ++ (G.blt.map .free ++ (G.exc.map .glo ++ (G.exc.map .exc ++ (G.gi.map (fun q => .int q.1 q.2) ++ (G.gs.map (fun q => .str q.1 q.2) ++ G.gt.map (fun q => .glo q.1))))))
def exOf (G : Gb) (K : PySem.W.Frag) : Bool := G.gt.all fun q => He.tupB K q.1 (q.2.map .str)
/-- the defs' code objects and their tables -/
def csOf (K : PySem.W.Frag) : List (Addr × Addr) := K.filterMap fun q => match q.2.data with
  | .func fd => match fd.code with
    | .ref c => some (c, He.tabOf K c)
    | _ => none
  | _ => none
def tabsOk (g : Addr → Option Obj) (K : PySem.W.Frag) : Bool := ((csOf K).all fun p => PySem.W.codeHdIn K p.1 p.2 && (match g p.2 with
  | some o => He.emptyTab o
  | none => false)) && (allTabs K).all fun p => (allTabs K).all fun q => !(decide (p.1 = q.1)) || decide (p.2 = q.2)
def eqB (a : Option Bool) (b : Bool) : Bool := match a with
  | some x => x == b
  | none => false
theorem eqB_ok {a : Option Bool} {b : Bool} (h : eqB a b = true) : a = some b := by
  cases a with
  | none => cases h
  | some x => rw [eq_of_beq h]
def excB (K : PySem.W.Frag) (D : Addr) : Bool := He.eqO (PySem.W.findIn K (.ref D) "__getattribute__") (some (some (.builtin "BaseException.__getattribute__"))) && He.eqO (PySem.W.findIn K (.ref D) "__getattr__") (some none) && eqB (PySem.W.subIn K (.ref D) (.type "BaseException")) true && PySem.W.hasDictIn K D &&
  He.eqO (PySem.W.findIn K (.ref D) "__class__") (some (some (.builtin "object.__class__"))) && He.eqO (PySem.W.specialIn K (.builtin "object.__class__") "__get__") (some (some (.builtin "getset_descriptor.__get__"))) && eqB (PySem.W.takesIn K (.builtin "object.__class__")) true && eqB (PySem.W.mroIn K D (.type "object")) true
theorem excB_ok {K : PySem.W.Frag} {D : Addr} (h : excB K D = true) : ExcC K D := by
  unfold excB at h
  simp only [Bool.and_eq_true] at h
  obtain ⟨⟨⟨⟨⟨⟨⟨h1, h2⟩, h3⟩, h4⟩, h5⟩, h6⟩, h7⟩, h8⟩ := h
  exact ⟨He.eqO_ok h1, He.eqO_ok h2, eqB_ok h3, h4, He.eqO_ok h5, He.eqO_ok h6, eqB_ok h7, eqB_ok h8⟩
def excOk (K : PySem.W.Frag) : Bool := kinds18.all fun c => excB K (He.ga K c) && eqB (PySem.W.exmOne K (.ref (He.ga K c)) (.ref (He.ga K "FlowError"))) true && eqB (PySem.W.kitOne K (.ref (He.ga K c)) (.type "ValueError")) true &&
  kinds18.all fun t => eqB (PySem.W.kitOne K (.ref (He.ga K c)) (.ref (He.ga K t))) (decide (t = c))
abbrev AlK : Type := He.AlD × Bool
def KofG (n : Nat) (g : Addr → Option Obj) : PySem.W.Frag := He.frT g (He.asD g n)
def obsK (n : Nat) (G : Gb) (sk : List Sk) (g : Addr → Option Obj) : AlK := (He.obsD (faOf G sk) (sk.map Sk.dd) (KofG n g), exOf G (KofG n g) && (!G.told || excOk (KofG n g)) && tabsOk g (KofG n g))
structure SaysK (G : Gb) (sk : List Sk) (h : Heap) (K : PySem.W.Frag) : Prop where
  d : He.SaysD (faOf G sk) (sk.map Sk.dd) K
  ex : exOf G K = true
  xc : G.told = true → excOk K = true
  hd : ∀ p ∈ csOf K, PySem.W.codeHdIn K p.1 p.2 = true
  out : ∀ p ∈ csOf K, K.lookup p.2 = none
  emp : ∀ p ∈ csOf K, h.get? p.2 = some { cls := .none, data := .fields #[] }
  un : ∀ p ∈ allTabs K, ∀ q ∈ allTabs K, p.1 = q.1 → p.2 = q.2
theorem saysK_of {n : Nat} {G : Gb} {sk : List Sk} {h : Heap} (e : obsK n G sk h.get? = (He.valD (sk.map Sk.dd), true)) : SaysK G sk h (KofG n h.get?) := by
  have e1 : He.obsD (faOf G sk) (sk.map Sk.dd) (KofG n h.get?) = He.valD (sk.map Sk.dd) := congrArg (fun z : AlK => z.1) e
  have e2 : (exOf G (KofG n h.get?) && (!G.told || excOk (KofG n h.get?)) && tabsOk h.get? (KofG n h.get?)) = true := congrArg (fun z : AlK => z.2) e
  simp only [Bool.and_eq_true] at e2
  obtain ⟨⟨h1, h2⟩, h3⟩ := e2
  unfold tabsOk at h3
  rw [Bool.and_eq_true] at h3
  obtain ⟨h4, h5⟩ := h3
  have key : ∀ p ∈ csOf (KofG n h.get?), PySem.W.codeHdIn (KofG n h.get?) p.1 p.2 = true ∧ ∃ o, h.get? p.2 = some o ∧ He.emptyTab o = true := fun p hp => by
    have z := List.all_eq_true.mp h4 p hp
    rw [Bool.and_eq_true] at z
    refine ⟨z.1, ?_⟩
    have z2 := z.2
    cases q : h.get? p.2 with
    | none => rw [q] at z2; cases z2
    | some o => rw [q] at z2; exact ⟨o, rfl, z2⟩
  refine ⟨e1, h1, fun ht => ?_, fun p hp => (key p hp).1, fun p hp => ?_, fun p hp => ?_, fun p hp q hq e => ?_⟩
  · rw [ht] at h2
    simpa using h2
  · obtain ⟨_, o, q, z⟩ := key p hp
    exact He.frT_none q z
  · obtain ⟨_, o, q, z⟩ := key p hp
    rw [q, He.emptyTab_eq z]
  · have z := List.all_eq_true.mp (List.all_eq_true.mp h5 p hp) q hq
    rw [decide_eq_true e] at z
    simpa using z
def hookK (n : Nat) (G : Gb) (sk : List Sk) : PySem.W.Hook where
  α := AlK
  obs := fun s => obsK n G sk s.heap.get?
  val := fun _ => (He.valD (sk.map Sk.dd), true)
  says := fun _ h => ∃ K : PySem.W.Frag, K.In h ∧ SaysK G sk h K
  of := fun _ _ e => ⟨_, He.frT_in, saysK_of e⟩
  keeps := fun _ _ _ ⟨K, hK, c⟩ k => ⟨K, PySem.W.Frag.In.keeps hK k, ⟨c.d, c.ex, c.xc, c.hd, c.out, fun p hp => k _ _ (c.emp p hp), c.un⟩⟩
theorem obsK_eq {n : Nat} {G : Gb} {sk : List Sk} {g : Addr → Option Obj} {s : Shared} (h : ∀ a, g a = s.heap.get? a) : obsK n G sk g = (hookK n G sk).obs s := by
  have e : g = s.heap.get? := funext h
  rw [e] <;> rfl
theorem says_fact {fa : List He.Fa} {fn : List He.DefD} {K : PySem.W.Frag} (c : He.SaysD fa fn K) {f : He.Fa} (h : f ∈ fa) : f.ok K = true := by
  obtain ⟨i, hi, e⟩ := List.mem_iff_getElem.mp h
  exact c.fact i (f := f) (by rw [List.getElem?_eq_getElem hi, e])
theorem says_def {fa : List He.Fa} {fn : List He.DefD} {K : PySem.W.Frag} (c : He.SaysD fa fn K) {d : He.DefD} (h : d ∈ fn) : ∃ fd, FunD K d.name d.qual d.params d.body d.scope (d.dvs K) (d.kws K) (He.fAd K d.at_) fd := by
  obtain ⟨i, hi, e⟩ := List.mem_iff_getElem.mp h
  exact c.def_ i (d := d) (by rw [List.getElem?_eq_getElem hi, e])
theorem FunD.toFun {K : PySem.W.Frag} {x q : Str} {st : Stmt} {f : Addr} {fd : FuncData} (F : FunD K x q (defArgs st) (defBody st) (defScope st) [] [] f fd) : Fun K x q st f fd := by
  obtain ⟨oc, od, dV, kV, doc, pm, an, cdv, ct, osl, rfl, lk, hcd, hD, hK⟩ := F.ex
  rcases hD with ⟨_, rfl⟩ | ⟨e, _⟩
  · exact ⟨⟨oc, od, kV, doc, pm, an, cdv, ct, osl, rfl, lk, hcd⟩, F.kp⟩
  · exact absurd rfl e
section
variable {P : Program} {w : World} {K : PySem.W.Frag} {mg : Str → Option Value} {base h : Heap} {G : Gb} {sk : List Sk}
theorem rpa_strs {F : Hp} : ∀ l : List Str, RpA K F ((l.map He.Dv.str).map (He.Dv.v K)) (l.map .str)
  | [] => .nil
  | x :: r => .cons (.str x) (rpa_strs r)
theorem tab_of {h' : Heap} (hsk : sk.all skChk = true) (hb : ∀ s ∈ sk, BindOk s) (c : SaysK G sk h' K) (X : K.In h) (Gn : h.Ns mainGlobals mg) : TabOk P w K mg base (tabOf G sk) where
  df := fun x d hd => by
    obtain ⟨s, hs, rfl, rfl⟩ := dfOf_map hd
    obtain ⟨fd, F⟩ := says_def c.d (d := s.dd) (List.mem_map.mpr ⟨s, hs, rfl⟩)
    have m := He.glo_ok X Gn (says_fact c.d (f := .glo s.nm) (List.mem_append_left _ (List.mem_map.mpr ⟨s, hs, rfl⟩)))
    exact ⟨_, fd, FunD.toFun F, skChk_ok (List.all_eq_true.mp hsk s hs), FunD.bindsN F (hb s hs), m, F.kp⟩
  fns := fun x d hd y n hy => by
    obtain ⟨s, hs, rfl, rfl⟩ := dfOf_map hd
    exact dfOf_fns hy
  glo := fun z d' hd x d hx => by
    obtain ⟨s, hs, rfl, rfl⟩ := dfOf_map hd
    have hx : G.gl.lookup x = some d := hx
    have hm := PySem.mem_of_lookup hx
    unfold Gb.gl at hm
    rcases List.mem_append.mp hm with hm | hm
    · rcases List.mem_append.mp hm with hm | hm
      · obtain ⟨q, hq, e⟩ := List.mem_map.mp hm
        cases e
        obtain ⟨t, ht⟩ := He.int_ok X Gn (says_fact c.d (f := .int q.1 q.2) (by unfold faOf; simp only [List.mem_append, List.mem_map]; exact .inr (.inr (.inr (.inr (.inl ⟨q, hq, rfl⟩))))))
        exact ⟨_, .int q.2, ht, ⟨t, rfl⟩, fun w => .int q.2⟩
      · obtain ⟨q, hq, e⟩ := List.mem_map.mp hm
        cases e
        obtain ⟨t, ht⟩ := He.str_ok X Gn (says_fact c.d (f := .str q.1 q.2) (by unfold faOf; simp only [List.mem_append, List.mem_map]; exact .inr (.inr (.inr (.inr (.inr (.inl ⟨q, hq, rfl⟩)))))))
        exact ⟨_, .str q.2, ht, ⟨t, rfl⟩, fun w => .str q.2⟩
    · obtain ⟨q, hq, e⟩ := List.mem_map.mp hm
      cases e
      have ht := He.glo_ok X Gn (says_fact c.d (f := .glo q.1) (by unfold faOf; simp only [List.mem_append, List.mem_map]; exact .inr (.inr (.inr (.inr (.inr (.inr ⟨q, hq, rfl⟩)))))))
      have hx := List.all_eq_true.mp c.ex q hq
      exact ⟨_, .ref (He.ga K q.1), ht, rfl, fun w => ⟨_, _, rfl, He.tupB_ok hx w.F, rpa_strs q.2⟩⟩
  blt := fun z d' hd x hx => by
    obtain ⟨s, hs, rfl, rfl⟩ := dfOf_map hd
    exact He.free_ok X Gn (says_fact c.d (f := .free x) (by unfold faOf; simp only [List.mem_append, List.mem_map]; exact .inr (.inl ⟨x, hx, rfl⟩)))
  exc := fun z d' hd x hx => by
    obtain ⟨s, hs, rfl, rfl⟩ := dfOf_map hd
    have hx : x ∈ G.exc := hx
    have ht := He.glo_ok X Gn (says_fact c.d (f := .glo x) (by unfold faOf; simp only [List.mem_append, List.mem_map]; exact .inr (.inr (.inl ⟨x, hx, rfl⟩))))
    obtain ⟨c1, c2, c3, c4⟩ := He.exc_ok (says_fact c.d (f := .exc x) (by unfold faOf; simp only [List.mem_append, List.mem_map]; exact .inr (.inr (.inr (.inl ⟨x, hx, rfl⟩)))))
    exact ⟨_, c1, ht, c2, c3, c4⟩
end
/-! ### the law's end -/
/-- the text has the two defs of told -/
structure ToldSk (sk : List Sk) : Prop where
  ex : ∃ s1 s2 : Sk, s1 ∈ sk ∧ s2 ∈ sk ∧ s1.nm = "_law_told" ∧ s1.N = [("deed" : Str), "e"] ∧ s1.ps = [("deed" : Str)] ∧ (∃ p1 p2 p3 p4 p5 p6 p7 p8 p9 p10, defBody s1.st = toldBody p1 p2 p3 p4 p5 p6 p7 p8 p9 p10) ∧ (defScope s1.st).names.lookup ("e" : Str) = some .local ∧ (defScope s1.st).names.lookup ("FlowError" : Str) = some .globalImplicit ∧ (defScope s1.st).names.lookup ("_law_term" : Str) = some .globalImplicit ∧
    (defScope s1.st).names.lookup ("deed" : Str) = some .local ∧ s2.nm = "_law_term" ∧ s2.N = termN ∧ s2.ps = [("e" : Str)] ∧ ∀ a b, semSs (hS termN (xkOf b) a (defScope s2.st) 10) (defBody s2.st) = some (tTerm a b)
/-- .. and the module's names that they use -/
def toldG (G : Gb) : Bool := kinds18.all (fun c => decide (c ∈ G.exc)) && decide (("isinstance" : Str) ∈ G.blt) && decide (("sum" : Str) ∈ G.blt) && decide (("int" : Str) ∈ G.blt) && decide (("ValueError" : Str) ∈ G.blt) && decide (("FlowError" : Str) ∈ G.exc)
section
variable {P : Program} {w : World} {K : PySem.W.Frag} {mg : Str → Option Value} {base h : Heap} {G : Gb} {sk : List Sk}
theorem csOf_mem {f c : Addr} {oc : Value} {od : Option Addr} {fd : FuncData} {osl : Array (Option Value)} (lk : K.lookup f = some ⟨oc, od, .func fd, osl⟩) (hc : fd.code = .ref c) : (c, He.tabOf K c) ∈ csOf K := by
  refine List.mem_filterMap.mpr ⟨(f, ⟨oc, od, .func fd, osl⟩), He.lookup_mem lk, ?_⟩
  show (match fd.code with
    | .ref c => some (c, He.tabOf K c)
    | _ => none) = _
  rw [hc]
theorem tabs_cs {p : Addr × Str} (hp : p ∈ allTabs K) : ∃ c, (c, p.1) ∈ csOf K := by
  obtain ⟨q, hq, e⟩ := List.mem_filterMap.mp hp
  split at e
  · rename_i fd hd
    split at e
    · rename_i c hc
      cases e
      refine ⟨c, List.mem_filterMap.mpr ⟨q, hq, ?_⟩⟩
      rw [hd]
      show (match fd.code with
        | .ref c => some (c, He.tabOf K c)
        | _ => none) = _
      rw [hc]
    · cases e
  · cases e
theorem tabT_of (hsk : sk.all skChk = true) (hb : ∀ s ∈ sk, BindOk s) (ht : G.told = true → ToldSk sk ∧ toldG G = true) (c : SaysK G sk h K) (X : K.In h) (Gn : h.Ns mainGlobals mg) (tb : ∀ p ∈ csOf K, LamX.TabB base mg p.1 p.2) : TabT P w K mg base (tabOf G sk) where
  toTabOk := tab_of hsk hb c X Gn
  tbs := fun f oc od fd osl c0 lk hc => tb _ (csOf_mem lk hc)
  tun := c.un
  tgv := fun z d' hd hT k => by
    obtain ⟨s, hs, rfl, rfl⟩ := dfOf_map hd
    have hT : G.told = true := hT
    obtain ⟨⟨s1, s2, m1, m2, e1, e2, e3, ⟨p1, p2, p3, p4, p5, p6, p7, p8, p9, p10, eb⟩, l1, l2, l3, l4, f1, f2, f3, f4⟩, tg⟩ := ht hT
    have xo := c.xc hT
    unfold toldG at tg
    simp only [Bool.and_eq_true, decide_eq_true_eq] at tg
    obtain ⟨⟨⟨⟨⟨g1, g2⟩, g3⟩, g4⟩, g5⟩, g6⟩ := tg
    have bl : ∀ x ∈ G.blt, mg x = none := fun x hx => He.free_ok X Gn (says_fact c.d (f := .free x) (by unfold faOf; simp only [List.mem_append, List.mem_map]; exact .inr (.inl ⟨x, hx, rfl⟩)))
    have gl : ∀ x ∈ G.exc, mg x = some (.ref (He.ga K x)) := fun x hx => He.glo_ok X Gn (says_fact c.d (f := .glo x) (by unfold faOf; simp only [List.mem_append, List.mem_map]; exact .inr (.inr (.inl ⟨x, hx, rfl⟩))))
    have XF : ExcF K mg (He.ga K "FlowError") := fun x hx => by
      have z := List.all_eq_true.mp xo x hx
      simp only [Bool.and_eq_true] at z
      obtain ⟨⟨⟨z1, z2⟩, z3⟩, z4⟩ := z
      refine ⟨He.ga K x, gl x (of_decide_eq_true (List.all_eq_true.mp g1 x hx)), excB_ok z1, eqB_ok z2, eqB_ok z3, fun t ht => ?_⟩
      exact ⟨He.ga K t, gl t (of_decide_eq_true (List.all_eq_true.mp g1 t ht)), eqB_ok (List.all_eq_true.mp z4 t ht)⟩
    obtain ⟨fd1, F1⟩ := says_def c.d (d := s1.dd) (List.mem_map.mpr ⟨s1, m1, rfl⟩)
    obtain ⟨fd2, F2⟩ := says_def c.d (d := s2.dd) (List.mem_map.mpr ⟨s2, m2, rfl⟩)
    have mg1 := He.glo_ok X Gn (says_fact c.d (f := .glo s1.nm) (List.mem_append_left _ (List.mem_map.mpr ⟨s1, m1, rfl⟩)))
    have mg2 := He.glo_ok X Gn (says_fact c.d (f := .glo s2.nm) (List.mem_append_left _ (List.mem_map.mpr ⟨s2, m2, rfl⟩)))
    have B1 := FunD.bindsN F1 (hb s1 m1)
    have B2 := FunD.bindsN F2 (hb s2 m2)
    have S1 := skChk_ok (List.all_eq_true.mp hsk s1 m1)
    have S2 := skChk_ok (List.all_eq_true.mp hsk s2 m2)
    have R1 : Fun K s1.nm s1.nm s1.st (He.ga K s1.nm) fd1 := FunD.toFun F1
    have R2 : Fun K s2.nm s2.nm s2.st (He.ga K s2.nm) fd2 := FunD.toFun F2
    rw [e1] at mg1 R1
    rw [f1] at mg2 R2
    rw [e2, e3] at S1
    rw [f2, f3] at S2
    have e3' : s1.ps = [("deed" : Str)] := e3
    have f3' : s2.ps = [("e" : Str)] := f3
    rw [e3'] at B1
    rw [f3'] at B2
    obtain ⟨oc, od, kV, doc, pm, an, cdv, ct, osl, rfl, lk, hcd⟩ := R1.ex
    rw [eb] at lk B1
    exact ⟨⟨_, He.ga K "FlowError", _, _, _, _, kV, doc, pm, cdv, ct, oc, an, od, osl, p1, p2, p3, p4, p5, p6, p7, p8, p9, p10, mg1, R1.kp, lk, hcd, B1, S1, l1, l2, l3, .inl l4, gl _ g6, mg2, R2.kp, fun x hx => by
      obtain ⟨D, d1, _, d2, _⟩ := XF x hx
      exact ⟨D, d1, d2⟩, term_ok R2 S2 B2 f4 XF (bl _ g2) (bl _ g3) (bl _ g4) (bl _ g5) k⟩⟩
end
/-- the heap without tables -/
def noTab (H : Hp) : Hp := fun x => match H x with
  | some o => if isX o = true then none else some o
  | none => none
theorem noTab_some {H : Hp} {x : Addr} {o : HO} : noTab H x = some o ↔ H x = some o ∧ isX o = false := by
  unfold noTab
  cases H x with
  | none =>
    constructor
    · intro h; cases h
    · rintro ⟨h, _⟩; cases h
  | some u =>
    show (if isX u = true then none else some u) = some o ↔ _
    by_cases q : isX u = true
    · rw [if_pos q]
      constructor
      · intro h; cases h
      · rintro ⟨h, h2⟩; cases h; rw [q] at h2; cases h2
    · rw [if_neg q]
      constructor
      · intro h; cases h; exact ⟨rfl, by simpa using q⟩
      · rintro ⟨h, _⟩; exact h
theorem walk_ofEB {l : PySem.W.OpenLaw} {n k : Nat} {q : Program} {loose : List Str} {XP : (Str → Option Value) → Heap → Prop} {YP : World → Heap → Prop} {d : DefRec} {CX : World → CXT} {x : Str}
    (hn : l.most = some n) (hn2 : n ≤ sizeLine) (hdf : d.params.defaults = []) (hr : Room k callerA)
    (F : ∀ (w : World) (mg : Str → Option Value) (fa : Addr) (h : Heap), YP w h → h.Ns mainGlobals mg → mg d.name = some (.ref fa) →
      ∃ (K : PySem.W.Frag), K.In h ∧ LamX.LawAtS l w K (CX w) k n x mg fa h)
    (hCX : ∀ (w : World) (H : Hp) (s : Shared) (e : Value) (s' : Shared), CX w [] H s (fun _ _ _ => False) e s' → False) :
    PySem.W.WalkO q loose XP YP l.row.toRowW d [] (fun f vs => PySem.call f vs) := by
  refine Att.attach_callB hn hdf fun w s₀ s₁ mg mb fa o pm cd doc a vs ns G Y ho hd hcd hmg hobj hints hlen hbits hg => ?_
  obtain ⟨K, KX, fd, cs, sp, hT, nT, C, hb, hsp, hF⟩ := F w mg fa _ Y G.T.g hmg
  exact LamX.law_callTs KX G.T.g G.T.b G.T.builtins G.T.nolimit hg hT nT C G.T.bmain hobj hints (Nat.le_trans hlen hn2) hr hF hb (fun H hH hS => hsp H a ns hlen hbits hH hS) fun H e s' => hCX w H s₁ e s'
/-- what is left of a law: its evaluator answers True -/
def LawTrue (tab : List Df) (k : Nat) : Prop := ∀ ns : List Int, ns.length ≤ 63 → (∀ z ∈ ns, Builtin.Int.intBits z ≤ 1048576) → ∃ st', fnK tab k "law" [.s ns] [] [] = .ok (.p (.bool true)) st'
theorem walk_fk {l : PySem.W.OpenLaw} {k : Nat} {q : Program} {loose : List Str} {XP : (Str → Option Value) → Heap → Prop} {d : DefRec} {G : Gb} {sk : List Sk} {s : Sk} {n : Nat}
    (hn : l.most = some 63) (hdf : d.params.defaults = []) (hr : Room (3 * k + 1) callerA) (hnm : d.name = "law") (hsk : sk.all skChk = true) (hb : ∀ s ∈ sk, BindOk s) (ht : G.told = true → ToldSk sk ∧ toldG G = true) (hs : dfOf (tabOf G sk) "law" = some (s.df G (fnsOf sk))) (hps : s.ps = [("script" : Str)]) (hT : LawTrue (tabOf G sk) k) :
    PySem.W.WalkO q loose XP (fun w h => (hookK n G sk).says w h) l.row.toRowW d [] (fun f vs => PySem.call f vs) := by
  refine walk_ofEB (n := 63) (k := 3 * k + 1) (x := "script") (CX := fun w => L2N.CX l.prog w) hn (by decide) hdf hr ?_ ?_
  · intro w mg fa h Y Gn hmg
    obtain ⟨K, KX, c⟩ := Y
    rw [hnm] at hmg
    have T := tab_of (P := l.prog) (w := w) (base := h) hsk hb c KX Gn
    obtain ⟨f, fd, F, S, B, m, kp⟩ := T.df _ _ hs
    rw [hmg] at m
    cases m
    obtain ⟨s', hs', e1, e2⟩ := dfOf_map hs
    have hps' : (s.df G (fnsOf sk)).ps = [("script" : Str)] := hps
    refine ⟨K, KX, fd, csOf K, _, c.emp, c.out, fun p hp => PySem.W.codeHd_of_K KX (c.hd p hp), ?_, ?_, fun base KB GB TB => by
      have r := tab_ok (tabT_of (P := l.prog) (w := w) (base := base) hsk hb ht c KX Gn TB) k "law" _ fa fd hs F S
      rw [hps'] at r
      exact r⟩
    · intro sh u
      obtain ⟨oc, od, kV, doc, pm, an, cdv, ct, osl, rfl, lk, hcd⟩ := F.ex
      have := hb s' hs' kV doc pm an cdv ct [u] (by
        have e3 : (s.df G (fnsOf sk)).ps = (s'.df G (fnsOf sk)).ps := by rw [e2]
        have e4 : s.ps = s'.ps := e3
        rw [← e4, hps]; rfl)
      refine .of_eq ?_
      have e3 : (s.df G (fnsOf sk)).ps = (s'.df G (fnsOf sk)).ps := by rw [e2]
      have e4 : s.ps = s'.ps := e3
      have e5 : s.st = s'.st := by
        have : (s.df G (fnsOf sk)).st = (s'.df G (fnsOf sk)).st := by rw [e2]
        exact this
      have e6 : s.nm = s'.nm := by
        have : (s.df G (fnsOf sk)).nm = (s'.df G (fnsOf sk)).nm := by rw [e2]
        exact this
      rw [← e4, ← e5, ← e6, hps] at this
      exact this
    · intro H a ns hl hbits hH hS
      obtain ⟨st', e⟩ := hT ns hl hbits
      have hS' : SqL K (noTab H) a (ns.map V.int) := by
        rcases hS with (z | ⟨o, z⟩) | z
        · exact .inl (.inl (noTab_some.mpr ⟨z, rfl⟩))
        · exact .inl (.inr ⟨o, noTab_some.mpr ⟨z, rfl⟩⟩)
        · exact .inr z
      refine ⟨rfl, ⟨noTab H, [], fun _ => none⟩, [], [], [.s ns], ?_, .cons ⟨a, rfl, hS'⟩ .nil, ?_⟩
      · refine ⟨rfl, fun x o h => .inl (noTab_some.mp h).1, (fun x o h => by cases h), (fun i o a h => by simp at h), (fun i j o o' a h => by simp at h), (fun m hm => by simp at hm), (fun m hm => by simp at hm), ⟨fun p hp => ?_, fun x o h => (noTab_some.mp h).2, fun x o h => by cases h⟩⟩
        obtain ⟨c0, hc0⟩ := tabs_cs hp
        exact LamX.TabS.nil (hH _ hc0)
      · rw [e]
        intro w' v H' _ _ r
        cases r
        rfl
  · intro w H sh e s' hcx
    obtain ⟨_, _, _, _, _, _, _, _, _, _, _, _, z⟩ := hcx
    exact z
end Fk

namespace Fk
open PySem PySem.Spec L2
set_option autoImplicit false

/-! ### what the laws share: the dice -/
theorem log2_le {n L : Nat} (h : n < 2 ^ L) : n.log2 ≤ L := by
  by_cases e : n = 0
  · rw [e, Nat.log2_zero]; exact Nat.zero_le _
  · exact Nat.le_of_lt ((Nat.log2_lt e).mpr h)
theorem mulOk_of {i j : Int} {n m : Nat} (hi : i.natAbs < 2 ^ n) (hj : j.natAbs < 2 ^ m) (h : n + m < 100000000) : mulOk i j = true := by
  unfold mulOk
  have := log2_le hi
  have := log2_le hj
  exact decide_eq_true (by omega)
def tDrawn : MS := mSeq (mSet 2 (m2 dMod (m2 (dAdd false) (m2 (dMul false) (mVar 0) (mC (.int 6364136223846793005))) (m2 (dMul false) (m2 (dAdd false) (mVar 1) (mC (.int 1))) (mC (.int 1442695040888963407)))) (mC (.int 340282366920938463463374607431768211507))))
  (mSeq (mSet 2 (m2 dMod (m2 (dMul false) (mVar 2) (mVar 2)) (mC (.int 340282366920938463463374607431768211297))))
  (mSeq (mSet 2 (m2 (dMul false) (m2 (dMul false) (m2 (dAdd false) (m2 dMod (mVar 2) (mC (.int 18446744073709551557))) (mC (.int 1))) (m2 (dAdd false) (m2 dDiv (mVar 2) (mC (.int 18446744073709551557))) (mC (.int 1)))) (mVar 2)))
  (mSeq (mRtn (m2 dMod (mVar 2) (mC (.int 340282366920938463463374607431768211507)))) mNext)))
theorem dMod_ok {i j : Int} {st : List O} (h : 0 < j) : dMod (.p (.int i)) (.p (.int j)) st = .ok (.p (.int (i % j))) st := by
  unfold dMod dIc
  simp only [decide_eq_true h]
theorem dDiv_ok {i j : Int} {st : List O} (h : 0 < j) (h2 : j.natAbs.log2 < 9000) : dDiv (.p (.int i)) (.p (.int j)) st = .ok (.p (.int (i / j))) st := by
  unfold dDiv dIc divOk
  simp only [decide_eq_true h, decide_eq_true h2, Bool.and_self]
theorem dMul_ok {fl : Bool} {i j : Int} {st : List O} (h : mulOk i j = true) : dMul fl (.p (.int i)) (.p (.int j)) st = .ok (.p (.int (i * j))) st := by
  unfold dMul
  simp only [if_pos h]
theorem dAdd_ok {fl : Bool} {i j : Int} {st : List O} : dAdd fl (.p (.int i)) (.p (.int j)) st = .ok (.p (.int (i + j))) st := rfl
theorem m2_ok {f : Op2} {ma mb : M D} {ms : List Nat} {env : En} {st st1 st2 : List O} {a b : D} (ha : ma ms env st = .ok a st1) (hb : mb ms env st1 = .ok b st2) : m2 f ma mb ms env st = f a b st2 := by
  unfold m2 mB
  simp only [ha, hb, R.bind]
theorem mod_nat {i j : Int} {n : Nat} (h : 0 < j) (hj : j.natAbs ≤ 2 ^ n) : (i % j).natAbs < 2 ^ n ∧ 0 ≤ i % j := by
  have h1 := Int.emod_nonneg i (Int.ne_of_gt h)
  have h2 := Int.emod_lt_of_pos i h
  constructor
  · omega
  · exact h1
theorem drawn_ok {c k : Int} {L : Nat} (hL : L ≤ 10000000) (hc : c.natAbs < 2 ^ L) (hk : (k + 1).natAbs < 2 ^ L) (ms : List Nat) (st : List O) : ∃ r : Int, runFn 3 tDrawn [.p (.int c), .p (.int k)] ms st = .ok (.p (.int r)) st ∧ 0 ≤ r := by
  have a1 : mulOk c 6364136223846793005 = true := mulOk_of (m := 63) hc (by decide) (by omega)
  have a2 : mulOk (k + 1) 1442695040888963407 = true := mulOk_of (m := 61) hk (by decide) (by omega)
  generalize e1 : (c * 6364136223846793005 + (k + 1) * 1442695040888963407) % 340282366920938463463374607431768211507 = x1
  have b1 := mod_nat (i := c * 6364136223846793005 + (k + 1) * 1442695040888963407) (j := 340282366920938463463374607431768211507) (n := 129) (by decide) (by decide)
  rw [e1] at b1
  have a3 : mulOk x1 x1 = true := mulOk_of b1.1 b1.1 (by omega)
  generalize e2 : x1 * x1 % 340282366920938463463374607431768211297 = x2
  have b2 := mod_nat (i := x1 * x1) (j := 340282366920938463463374607431768211297) (n := 128) (by decide) (by decide)
  rw [e2] at b2
  generalize e3 : x2 % 18446744073709551557 + 1 = y1
  generalize e4 : x2 / 18446744073709551557 + 1 = y2
  have b3 : y1.natAbs < 2 ^ 65 := by omega
  have b4 : y2.natAbs < 2 ^ 66 := by omega
  have a4 : mulOk y1 y2 = true := mulOk_of b3 b4 (by omega)
  have b5 : (y1 * y2).natAbs < 2 ^ 131 := by
    rw [Int.natAbs_mul]
    calc y1.natAbs * y2.natAbs < 2 ^ 65 * 2 ^ 66 := Nat.mul_lt_mul'' b3 b4
      _ = 2 ^ 131 := by decide
  have a5 : mulOk (y1 * y2) x2 = true := mulOk_of b5 b2.1 (by omega)
  refine ⟨y1 * y2 * x2 % 340282366920938463463374607431768211507, ?_, Int.emod_nonneg _ (by decide)⟩
  have s1 : ∀ x, m2 dMod (m2 (dAdd false) (m2 (dMul false) (mVar 0) (mC (.int 6364136223846793005))) (m2 (dMul false) (m2 (dAdd false) (mVar 1) (mC (.int 1))) (mC (.int 1442695040888963407)))) (mC (.int 340282366920938463463374607431768211507)) ms [some (.p (.int c)), some (.p (.int k)), x] st = .ok (.p (.int x1)) st := fun x => by
    rw [m2_ok (m2_ok (m2_ok rfl rfl |>.trans (dMul_ok a1)) (m2_ok (m2_ok rfl rfl |>.trans dAdd_ok) rfl |>.trans (dMul_ok a2)) |>.trans dAdd_ok) rfl, dMod_ok (by decide), e1]
  have s2 : m2 dMod (m2 (dMul false) (mVar 2) (mVar 2)) (mC (.int 340282366920938463463374607431768211297)) ms [some (.p (.int c)), some (.p (.int k)), some (.p (.int x1))] st = .ok (.p (.int x2)) st := by
    rw [m2_ok (m2_ok rfl rfl |>.trans (dMul_ok a3)) rfl, dMod_ok (by decide), e2]
  have s3 : m2 (dMul false) (m2 (dMul false) (m2 (dAdd false) (m2 dMod (mVar 2) (mC (.int 18446744073709551557))) (mC (.int 1))) (m2 (dAdd false) (m2 dDiv (mVar 2) (mC (.int 18446744073709551557))) (mC (.int 1)))) (mVar 2) ms [some (.p (.int c)), some (.p (.int k)), some (.p (.int x2))] st = .ok (.p (.int (y1 * y2 * x2))) st := by
    subst e3 e4
    rw [m2_ok (m2_ok (m2_ok (m2_ok rfl rfl |>.trans (dMod_ok (by decide))) rfl |>.trans dAdd_ok) (m2_ok (m2_ok rfl rfl |>.trans (dDiv_ok (by decide) (by decide))) rfl |>.trans dAdd_ok) |>.trans (dMul_ok a4)) rfl, dMul_ok a5]
  have s4 : m2 dMod (mVar 2) (mC (.int 340282366920938463463374607431768211507)) ms [some (.p (.int c)), some (.p (.int k)), some (.p (.int (y1 * y2 * x2)))] st = .ok (.p (.int (y1 * y2 * x2 % 340282366920938463463374607431768211507))) st := by
    rw [m2_ok rfl rfl, dMod_ok (by decide)]
  unfold runFn tDrawn
  simp only [mSeq, mSet, sB, RS.then, List.map_cons, List.map_nil, List.length_cons, List.length_nil, List.cons_append, List.nil_append, mRtn]
  have e0 : List.replicate (3 - (0 + 1 + 1)) (none : Option D) = [none] := rfl
  rw [e0, s1 none]
  simp only [R.toS, List.set_cons_succ, List.set_cons_zero]
  rw [s2]
  simp only [R.toS, List.set_cons_succ, List.set_cons_zero]
  rw [s3]
  simp only [R.toS, List.set_cons_succ, List.set_cons_zero]
  rw [s4]
end Fk

namespace Fk
open PySem PySem.Spec L2
set_option autoImplicit false
def tRoll (cl : Str → Fn) : MS := mSeq (mIfS (mT (m2 dGe (m2 dIx (mVar 0) (mC (.int 0))) (m2 dPow (mC (.int 10)) (mC (.int 18))))) (mSeq (mSet 2 (m2 dMod (m2 dIx (mVar 0) (mC (.int 0))) (mVar 1))) (mSeq (mPut (m2 dDiv (m2 dIx (mVar 0) (mC (.int 0))) (mVar 1)) (mVar 0) (mC (.int 0))) (mSeq (mRtn (mVar 2)) mNext))) mNext)
  (mSeq (mPut (m2 (dAdd false) (m2 dIx (mVar 0) (mC (.int 1))) (mC (.int 1))) (mVar 0) (mC (.int 1)))
  (mSeq (mRtn (m2 dMod (m2 dDiv (mCall (cl "_law_drawn") (mCons (m2 dIx (mVar 0) (mC (.int 0))) (mCons (m2 dIx (mVar 0) (mC (.int 1))) mNil))) (mC (.int 8))) (mVar 1))) mNext))
/-- a die of the store -/
abbrev die (a b : Int) : O := .lst [.p (.int a), .p (.int b)]
theorem ix_die0 {j : Nat} {a b : Int} {st : List O} (h : st[j]? = some (die a b)) : dIx (.r j) (.p (.int 0)) st = .ok (.p (.int a)) st := by
  unfold dIx getSeq getL
  simp only [h]
  rfl
theorem ix_die1 {j : Nat} {a b : Int} {st : List O} (h : st[j]? = some (die a b)) : dIx (.r j) (.p (.int 1)) st = .ok (.p (.int b)) st := by
  unfold dIx getSeq getL
  simp only [h]
  rfl
theorem put_die0 {j : Nat} {a b x : Int} {ms : List Nat} {st : List O} (h : st[j]? = some (die a b)) : fPut (.r j) (.p (.int 0)) (.p (.int x)) ms st = .ok () (st.set j (die x b)) := by
  unfold fPut
  simp only [h]
  rfl
theorem put_die1 {j : Nat} {a b x : Int} {ms : List Nat} {st : List O} (h : st[j]? = some (die a b)) : fPut (.r j) (.p (.int 1)) (.p (.int x)) ms st = .ok () (st.set j (die a x)) := by
  unfold fPut
  simp only [h]
  rfl
theorem roll_ok {cl : Str → Fn} (hcl : cl "_law_drawn" = runFn 3 tDrawn) {a b m : Int} {j L : Nat} {st : List O} (hL : L ≤ 10000000) (h : st[j]? = some (die a b)) (ha : a.natAbs < 2 ^ L) (hb0 : 0 ≤ b) (hb : (b + 2).natAbs < 2 ^ L) (hm : 0 < m) (hm2 : m.natAbs.log2 < 9000) (ms : List Nat) :
    ∃ v a' b', runFn 3 (tRoll cl) [.r j, .p (.int m)] ms st = .ok (.p (.int v)) (st.set j (die a' b')) ∧ 0 ≤ v ∧ v < m ∧ a'.natAbs < 2 ^ L ∧ 0 ≤ b' ∧ b' ≤ b + 1 := by
  have hj : j < st.length := (List.getElem?_eq_some_iff.mp h).1
  generalize hg : decide ((10 : Int) ^ (18 : Int).toNat ≤ a) = g
  have t1 : ∀ x, mT (m2 dGe (m2 dIx (mVar 0) (mC (.int 0))) (m2 dPow (mC (.int 10)) (mC (.int 18)))) ms [some (.r j), some (.p (.int m)), x] st = .ok g st := fun x => by
    have e1 : m2 dGe (m2 dIx (mVar 0) (mC (.int 0))) (m2 dPow (mC (.int 10)) (mC (.int 18))) ms [some (.r j), some (.p (.int m)), x] st = .ok (.p (.bool g)) st := by
      rw [m2_ok (m2_ok rfl rfl |>.trans (ix_die0 h)) (show m2 dPow (mC (.int 10)) (mC (.int 18)) ms [some (.r j), some (.p (.int m)), x] st = .ok (.p (.int ((10 : Int) ^ (18 : Int).toNat))) st from rfl)]
      show R.ok (D.p (.bool (decide ((10 : Int) ^ (18 : Int).toNat ≤ a)))) st = _
      rw [hg]
    unfold mT mB
    rw [e1]
    rfl
  unfold runFn tRoll
  simp only [mSeq, List.map_cons, List.map_nil, List.length_cons, List.length_nil, List.cons_append, List.nil_append]
  have e0 : List.replicate (3 - (0 + 1 + 1)) (none : Option D) = [none] := rfl
  rw [e0]
  cases g with
  | true =>
    have s1 : m2 dMod (m2 dIx (mVar 0) (mC (.int 0))) (mVar 1) ms [some (.r j), some (.p (.int m)), none] st = .ok (.p (.int (a % m))) st := by
      rw [m2_ok (m2_ok rfl rfl |>.trans (ix_die0 h)) rfl, dMod_ok hm]
    have s2 : m2 dDiv (m2 dIx (mVar 0) (mC (.int 0))) (mVar 1) ms [some (.r j), some (.p (.int m)), some (.p (.int (a % m)))] st = .ok (.p (.int (a / m))) st := by
      rw [m2_ok (m2_ok rfl rfl |>.trans (ix_die0 h)) rfl, dDiv_ok hm hm2]
    refine ⟨a % m, a / m, b, ?_, Int.emod_nonneg _ (Int.ne_of_gt hm), Int.emod_lt_of_pos _ hm, ?_, hb0, by omega⟩
    · simp only [mIfS, sB, t1, R.toS, mSeq, mSet, s1, RS.then, List.set_cons_succ, List.set_cons_zero, mPut, s2, mRtn]
      have v0 : mVar 0 ms [some (D.r j), some (D.p (.int m)), some (D.p (.int (a % m)))] st = .ok (.r j) st := rfl
      have c0 : mC (.int 0) ms [some (D.r j), some (D.p (.int m)), some (D.p (.int (a % m)))] st = .ok (.p (.int 0)) st := rfl
      simp only [v0, c0, R.toS, put_die0 h, mNext, RS.then]
      rfl
    · have h1 : (a / m).natAbs ≤ a.natAbs := Int.natAbs_ediv_le_natAbs _ _
      omega
  | false =>
    have s1 : m2 (dAdd false) (m2 dIx (mVar 0) (mC (.int 1))) (mC (.int 1)) ms [some (.r j), some (.p (.int m)), none] st = .ok (.p (.int (b + 1))) st := by
      rw [m2_ok (m2_ok rfl rfl |>.trans (ix_die1 h)) rfl, dAdd_ok]
    have h' : (st.set j (die a (b + 1)))[j]? = some (die a (b + 1)) := List.getElem?_set_self hj
    obtain ⟨r, er, r0⟩ := drawn_ok hL ha (k := b + 1) (by rw [Int.add_assoc]; exact hb) ms (st.set j (die a (b + 1)))
    have s2 : m2 dMod (m2 dDiv (mCall (cl "_law_drawn") (mCons (m2 dIx (mVar 0) (mC (.int 0))) (mCons (m2 dIx (mVar 0) (mC (.int 1))) mNil))) (mC (.int 8))) (mVar 1) ms [some (.r j), some (.p (.int m)), none] (st.set j (die a (b + 1))) = .ok (.p (.int (r / 8 % m))) (st.set j (die a (b + 1))) := by
      have e1 : mCall (cl "_law_drawn") (mCons (m2 dIx (mVar 0) (mC (.int 0))) (mCons (m2 dIx (mVar 0) (mC (.int 1))) mNil)) ms [some (.r j), some (.p (.int m)), none] (st.set j (die a (b + 1))) = .ok (.p (.int r)) (st.set j (die a (b + 1))) := by
        have i0 : m2 dIx (mVar 0) (mC (.int 0)) ms [some (.r j), some (.p (.int m)), none] (st.set j (die a (b + 1))) = .ok (.p (.int a)) (st.set j (die a (b + 1))) := (m2_ok rfl rfl).trans (ix_die0 h')
        have i1 : m2 dIx (mVar 0) (mC (.int 1)) ms [some (.r j), some (.p (.int m)), none] (st.set j (die a (b + 1))) = .ok (.p (.int (b + 1))) (st.set j (die a (b + 1))) := (m2_ok rfl rfl).trans (ix_die1 h')
        unfold mCall mCons mB
        simp only [mB, i0, i1, R.bind, mNil, mRet]
        rw [hcl]
        exact er
      rw [m2_ok (m2_ok e1 rfl |>.trans (dDiv_ok (by decide) (by decide))) rfl, dMod_ok hm]
    refine ⟨r / 8 % m, a, b + 1, ?_, Int.emod_nonneg _ (Int.ne_of_gt hm), Int.emod_lt_of_pos _ hm, ha, by omega, by omega⟩
    simp only [mIfS, sB, t1, R.toS, mNext, RS.then, mPut, s1, mRtn]
    have v0 : mVar 0 ms [some (D.r j), some (D.p (.int m)), none] st = .ok (.r j) st := rfl
    have c0 : mC (.int 1) ms [some (D.r j), some (D.p (.int m)), none] st = .ok (.p (.int 1)) st := rfl
    simp only [v0, c0, R.toS, put_die1 h, mNext, RS.then, mSeq, s2]
end Fk

namespace Fk
open PySem PySem.Spec L2
set_option autoImplicit false
def tCell : MS := mSeq (mIfS (mT (m2 dEq' (mVar 0) (mLst false mNil))) (mSeq (mRtn (m2 (dMul false) (mVar 1) (mC (.int 7919)))) mNext) mNext)
  (mSeq (mRtn (m2 (dAdd false) (m2 dIx (mVar 0) (m2 dMod (mVar 1) (mN fLen (mCons (mVar 0) mNil)))) (m2 (dMul false) (m2 dDiv (mVar 1) (mN fLen (mCons (mVar 0) mNil))) (mC (.int 104729))))) mNext)
theorem shaped_ints (ns : List Int) : SeqAt.shaped (.list (ns.map .int)) = true := by
  unfold SeqAt.shaped
  rw [Bool.and_eq_true]
  constructor
  · have : ∀ l : List Int, PyData.canLayAll0 (l.map .int) = true := by
      intro l
      induction l with
      | nil => rfl
      | cons x r ih => simp only [List.map_cons, PyData.canLayAll0, PyData.canLay0, ih, Bool.and_self]
    simp only [PyData.canLay0, this]
  · have : ∀ l : List Int, PyData.depthAll (l.map .int) ≤ 1 := by
      intro l
      induction l with
      | nil => simp [PyData.depthAll]
      | cons x r ih =>
        simp only [List.map_cons, PyData.depthAll, PyData.depth]
        omega
    have h := this ns
    apply decide_eq_true
    simp only [PyData.depth]
    omega
theorem eqv_nil (ns : List Int) : PyData.eqv (.list (ns.map .int)) (.list []) = ns.isEmpty := by
  cases ns <;> rfl
theorem len_s {ns : List Int} {ms : List Nat} {env : En} {st : List O} (h : env[0]? = some (some (.s ns))) : mN fLen (mCons (mVar 0) mNil) ms env st = .ok (.p (.int ns.length)) st := by
  have v0 : mVar 0 ms env st = .ok (.s ns) st := by unfold mVar; simp only [h]
  unfold mN mCons mB
  simp only [mB, v0, R.bind, mNil, mRet]
  unfold fLen
  simp only [getSeq, List.length_map]
theorem add_bits {x y : Int} {L : Nat} (hL : 60 ≤ L) (hx : x.natAbs < 2 ^ L) (hy : y.natAbs < 2 ^ 60) : (x + y).natAbs < 2 ^ (L + 1) := by
  have h1 : (2 : Nat) ^ 60 ≤ 2 ^ L := Nat.pow_le_pow_right (by decide) hL
  have h2 : (2 : Nat) ^ (L + 1) = 2 ^ L + 2 ^ L := by rw [Nat.pow_succ]; omega
  rw [h2]
  omega
theorem cell_ok {ns : List Int} {L : Nat} (hn : ns.length ≤ 63) (hL : 60 ≤ L) (hz : ∀ z ∈ ns, z.natAbs < 2 ^ L) {k : Nat} (hk : k < 1000) (ms : List Nat) (st : List O) : ∃ c : Int, runFn 2 tCell [.s ns, .p (.int k)] ms st = .ok (.p (.int c)) st ∧ c.natAbs < 2 ^ (L + 1) := by
  unfold runFn tCell
  simp only [mSeq, List.map_cons, List.map_nil, List.length_cons, List.length_nil, List.cons_append, List.nil_append]
  have e0 : List.replicate (2 - (0 + 1 + 1)) (none : Option D) = [] := rfl
  rw [e0]
  have t1 : mT (m2 dEq' (mVar 0) (mLst false mNil)) ms [some (.s ns), some (.p (.int k))] st = .ok ns.isEmpty st := by
    have e1 : m2 dEq' (mVar 0) (mLst false mNil) ms [some (.s ns), some (.p (.int k))] st = .ok (.p (.bool ns.isEmpty)) st := by
      rw [m2_ok (show mVar 0 ms [some (D.s ns), some (.p (.int k))] st = .ok (.s ns) st from rfl) (show mLst false mNil ms [some (D.s ns), some (.p (.int k))] st = .ok (.p (.list [])) st from rfl)]
      unfold dEq'
      simp only [dEq, toPD]
      rw [if_pos ⟨shaped_ints ns, by decide +kernel⟩, eqv_nil]
    unfold mT mB
    rw [e1]
    rfl
  cases ns with
  | nil =>
    refine ⟨k * 7919, ?_, ?_⟩
    · have s1 : m2 (dMul false) (mVar 1) (mC (.int 7919)) ms [some (.s []), some (.p (.int k))] st = .ok (.p (.int (k * 7919))) st := by
        rw [m2_ok (show mVar 1 ms [some (D.s []), some (.p (.int k))] st = .ok (.p (.int k)) st from rfl) rfl, dMul_ok (mulOk_of (n := 10) (m := 13) (by omega) (by decide) (by decide))]
      simp only [mIfS, sB, t1, R.toS, List.isEmpty_nil, mSeq, mRtn, s1, RS.then]
    · have h1 : (2 : Nat) ^ 60 ≤ 2 ^ (L + 1) := Nat.pow_le_pow_right (by decide) (by omega)
      omega
  | cons n0 r =>
    have hlen : 0 < ((n0 :: r).length : Int) := by simp only [List.length_cons]; omega
    have hl0 : (k : Int) % ((n0 :: r).length : Int) = ((k % (n0 :: r).length : Nat) : Int) := by rw [Int.natCast_emod]
    have hlt : k % (n0 :: r).length < (n0 :: r).length := Nat.mod_lt _ (by simp)
    have hbig : (n0 :: r).length < 2 ^ 60 := Nat.lt_of_le_of_lt hn (by decide)
    · have hq : ((k : Int) / ((n0 :: r).length : Int)).natAbs ≤ k := by
        have := Int.natAbs_ediv_le_natAbs (k : Int) ((n0 :: r).length : Int)
        simpa using this
      refine ⟨(n0 :: r)[k % (n0 :: r).length] + (k : Int) / ((n0 :: r).length : Int) * 104729, ?_, ?_⟩
      · have le := len_s (ns := n0 :: r) (ms := ms) (env := [some (.s (n0 :: r)), some (.p (.int k))]) (st := st) rfl
        have v1 : mVar 1 ms [some (D.s (n0 :: r)), some (.p (.int k))] st = .ok (.p (.int k)) st := rfl
        have v0 : mVar 0 ms [some (D.s (n0 :: r)), some (.p (.int k))] st = .ok (.s (n0 :: r)) st := rfl
        have ix : dIx (.s (n0 :: r)) (.p (.int ((k : Int) % ((n0 :: r).length : Int)))) st = .ok (.p (.int (n0 :: r)[k % (n0 :: r).length])) st := by
          rw [hl0]
          unfold dIx
          simp only [getSeq]
          have a1 : atI ((n0 :: r).map fun n => D.p (.int n)) ((k % (n0 :: r).length : Nat) : Int) = some (.p (.int (n0 :: r)[k % (n0 :: r).length])) := by
            unfold atI ixN
            rw [List.length_map, if_pos (by omega), if_pos (by omega)]
            show ((n0 :: r).map fun n => D.p (.int n))[((k % (n0 :: r).length : Nat) : Int).toNat]? = _
            rw [Int.toNat_natCast, List.getElem?_map, List.getElem?_eq_getElem hlt]
            rfl
          rw [a1]
        have s1 : m2 (dAdd false) (m2 dIx (mVar 0) (m2 dMod (mVar 1) (mN fLen (mCons (mVar 0) mNil)))) (m2 (dMul false) (m2 dDiv (mVar 1) (mN fLen (mCons (mVar 0) mNil))) (mC (.int 104729))) ms [some (.s (n0 :: r)), some (.p (.int k))] st = .ok (.p (.int ((n0 :: r)[k % (n0 :: r).length] + (k : Int) / ((n0 :: r).length : Int) * 104729))) st := by
          rw [m2_ok (m2_ok v0 (m2_ok v1 le |>.trans (dMod_ok hlen)) |>.trans ix) (m2_ok (m2_ok v1 le |>.trans (dDiv_ok hlen (by
            have := log2_le hbig
            rw [Int.natAbs_natCast]
            omega))) rfl |>.trans (dMul_ok (mulOk_of (n := 10) (m := 17) (by omega) (by decide) (by decide)))), dAdd_ok]
        simp only [mIfS, sB, t1, R.toS, List.isEmpty_cons, mSeq, mNext, mRtn, s1, RS.then]
      · refine add_bits hL (hz _ (List.getElem_mem hlt)) ?_
        rw [Int.natAbs_mul]
        have : (104729 : Int).natAbs = 104729 := rfl
        rw [this]
        omega
end Fk

namespace Fk
open PySem PySem.Spec L2
set_option autoImplicit false
def tDie (cl : Str → Fn) : M D := mLst true (mCons (mCall (cl "_law_cell") (mCons (mVar 0) (mCons (mVar 2) mNil))) (mCons (mC (.int 0)) mNil))
def tMany : M (List D) := mR1 (mCons (mN fMax (mCons (mC (.int 1)) (mCons (mN fMin (mCons (mVar 1) (mCons (mN fLen (mCons (mVar 0) mNil)) mNil))) mNil))) mNil)
def tRounds (cl : Str → Fn) : MS := mSeq (mRtn (mComp true [2] tMany (.nm 2) mTrue (tDie cl))) mNext
/-- how many rounds -/
def rounds (most : Int) (ns : List Int) : Nat := (if (if (ns.length : Int) < most then (ns.length : Int) else most) > 1 then (if (ns.length : Int) < most then (ns.length : Int) else most) else 1).toNat
theorem die_ok {cl : Str → Fn} (hcl : cl "_law_cell" = runFn 2 tCell) {ns : List Int} {L : Nat} (hn : ns.length ≤ 63) (hL : 60 ≤ L) (hz : ∀ z ∈ ns, z.natAbs < 2 ^ L) {k : Nat} (hk : k < 1000) {most : D} (ms : List Nat) (st : List O) :
    ∃ c : Int, tDie cl ms [some (.s ns), some most, some (.p (.int k))] st = .ok (.r st.length) (st ++ [die c 0]) ∧ c.natAbs < 2 ^ (L + 1) := by
  obtain ⟨c, e, hc⟩ := cell_ok hn hL hz hk ms st
  refine ⟨c, ?_, hc⟩
  have v0 : mVar 0 ms [some (D.s ns), some most, some (.p (.int k))] st = .ok (.s ns) st := rfl
  have v2 : mVar 2 ms [some (D.s ns), some most, some (.p (.int k))] st = .ok (.p (.int k)) st := rfl
  unfold tDie mLst mCons mCall mB
  simp only [mB, v0, v2, R.bind, mNil, mRet, hcl]
  rw [e]
  rfl
theorem comp_dice {cl : Str → Fn} (hcl : cl "_law_cell" = runFn 2 tCell) {ns : List Int} {L : Nat} (hn : ns.length ≤ 63) (hL : 60 ≤ L) (hz : ∀ z ∈ ns, z.natAbs < 2 ^ L) {most : D} (ms : List Nat) :
    ∀ (m i : Nat) (acc : List D) (st : List O), i + m < 1000 → acc.length + m < 1000 → ∃ cs : List Int, cs.length = m ∧ (∀ c ∈ cs, c.natAbs < 2 ^ (L + 1)) ∧
      mCompL (.nm 2) mTrue (tDie cl) ms [some (.s ns), some most, none] ((List.range' i m).map fun (j : Nat) => .p (.int (0 + (j : Int) * 1))) acc st = .ok (acc ++ (List.range' st.length m).map .r) (st ++ cs.map (die · 0))
  | 0, i, acc, st, _, _ => ⟨[], rfl, by simp, by simp [mCompL]⟩
  | m + 1, i, acc, st, h1, h2 => by
    obtain ⟨c, ec, hc⟩ := die_ok hcl hn hL hz (k := i) (by omega) (most := most) ms st
    obtain ⟨cs, l1, l2, e⟩ := comp_dice hcl hn hL hz (most := most) ms m (i + 1) (acc ++ [.r st.length]) (st ++ [die c 0]) (by omega) (by rw [List.length_append, List.length_singleton]; omega)
    refine ⟨c :: cs, by rw [List.length_cons, l1], ?_, ?_⟩
    · intro x hx
      rcases List.mem_cons.mp hx with rfl | hx
      · exact hc
      · exact l2 x hx
    · rw [List.range'_succ, List.map_cons, mCompL]
      have ea : asg (.nm 2) (.p (.int (0 + (i : Int) * 1))) [some (.s ns), some most, none] = some [some (.s ns), some most, some (.p (.int i))] := by
        rw [Int.zero_add, Int.mul_one]; rfl
      rw [ea]
      show ((mTrue ms [some (.s ns), some most, some (.p (.int i))] st).strict.bind _) = _
      have et : mTrue ms [some (D.s ns), some most, some (.p (.int i))] st = .ok true st := rfl
      rw [et]
      show ((tDie cl ms [some (.s ns), some most, some (.p (.int i))] st).strict.bind _) = _
      rw [ec]
      show (if acc.length < sizeLine then mCompL (.nm 2) mTrue (tDie cl) ms [some (.s ns), some most, none] ((List.range' (i + 1) m).map fun (j : Nat) => .p (.int (0 + (j : Int) * 1))) (acc ++ [.r st.length]) (st ++ [die c 0]) else .bad) = _
      rw [if_pos (by rw [sizeLine_eq]; omega), e]
      rw [List.length_append, List.length_singleton, List.range'_succ, List.map_cons, List.map_cons, List.append_assoc, List.append_assoc]
      rfl
theorem rounds_pos (most : Int) (ns : List Int) : 1 ≤ rounds most ns := by
  unfold rounds
  split <;> split <;> omega
theorem rounds_le (most : Nat) (hm : 1 ≤ most) (ns : List Int) : rounds most ns ≤ most := by
  unfold rounds
  split <;> split <;> omega
theorem rounds_ok {cl : Str → Fn} (hcl : cl "_law_cell" = runFn 2 tCell) {ns : List Int} {L : Nat} (hn : ns.length ≤ 63) (hL : 60 ≤ L) (hz : ∀ z ∈ ns, z.natAbs < 2 ^ L) {most : Nat} (h1 : 1 ≤ most) (h2 : most ≤ 63) (ms : List Nat) :
    ∃ cs : List Int, cs.length = rounds most ns ∧ (∀ c ∈ cs, c.natAbs < 2 ^ (L + 1)) ∧ runFn 3 (tRounds cl) [.s ns, .p (.int most)] ms [] = .ok (.r (rounds most ns)) (cs.map (die · 0) ++ [.lst ((List.range' 0 (rounds most ns)).map .r)]) := by
  have hr := rounds_le most h1 ns
  have hp := rounds_pos most ns
  obtain ⟨cs, l1, l2, e⟩ := comp_dice hcl hn hL hz (most := .p (.int most)) ms (rounds most ns) 0 [] [] (by omega) (by simp only [List.length_nil]; omega)
  refine ⟨cs, l1, l2, ?_⟩
  have em : tMany ms [some (.s ns), some (.p (.int most)), none] [] = .ok ((List.range' 0 (rounds most ns)).map fun (j : Nat) => .p (.int (0 + (j : Int) * 1))) [] := by
    have el := len_s (ns := ns) (ms := ms) (env := [some (.s ns), some (.p (.int most)), none]) (st := []) rfl
    have v1 : mVar 1 ms [some (D.s ns), some (.p (.int most)), none] [] = .ok (.p (.int most)) [] := rfl
    have e2 : mN fMin (mCons (mVar 1) (mCons (mN fLen (mCons (mVar 0) mNil)) mNil)) ms [some (.s ns), some (.p (.int most)), none] [] = .ok (.p (.int (if (ns.length : Int) < most then (ns.length : Int) else most))) [] := by
      generalize hX : mN fLen (mCons (mVar 0) mNil) = Xm at el
      unfold mN mCons mB
      simp only [mB, v1, R.bind, el, mNil, mRet, fMin]
    have e3 : mN fMax (mCons (mC (.int 1)) (mCons (mN fMin (mCons (mVar 1) (mCons (mN fLen (mCons (mVar 0) mNil)) mNil))) mNil)) ms [some (.s ns), some (.p (.int most)), none] [] = .ok (.p (.int (if (if (ns.length : Int) < most then (ns.length : Int) else most) > 1 then (if (ns.length : Int) < most then (ns.length : Int) else most) else 1))) [] := by
      generalize hX : mN fMin (mCons (mVar 1) (mCons (mN fLen (mCons (mVar 0) mNil)) mNil)) = Xm at e2
      unfold mN mCons mB
      simp only [mB, mC, R.bind, e2, mNil, mRet, fMax]
    unfold tMany
    generalize hX : mN fMax (mCons (mC (.int 1)) (mCons (mN fMin (mCons (mVar 1) (mCons (mN fLen (mCons (mVar 0) mNil)) mNil))) mNil)) = Xm at e3
    unfold mR1 mCons mB
    simp only [mB, e3, R.bind, mNil, mRet, itRange1]
    have ok : okL (if (if (ns.length : Int) < most then (ns.length : Int) else most) > 1 then (if (ns.length : Int) < most then (ns.length : Int) else most) else 1) = true := by
      unfold okL
      rw [Bool.and_eq_true]
      constructor
      · apply decide_eq_true; split <;> split <;> omega
      · apply decide_eq_true; split <;> split <;> omega
    rw [if_pos ok]
    unfold rangeD
    rw [List.range_eq_range']
    rfl
  unfold runFn tRounds
  simp only [mSeq, List.map_cons, List.map_nil, List.length_cons, List.length_nil, List.cons_append, List.nil_append, mRtn, sB]
  have e0 : List.replicate (3 - (0 + 1 + 1)) (none : Option D) = [none] := rfl
  rw [e0]
  have ec : mComp true [2] tMany (.nm 2) mTrue (tDie cl) ms [some (.s ns), some (.p (.int most)), none] [] = .ok (.r (rounds most ns)) (cs.map (die · 0) ++ [.lst ((List.range' 0 (rounds most ns)).map .r)]) := by
    unfold mComp mB
    rw [em]
    show ((mCompL (.nm 2) mTrue (tDie cl) ms (wipeE [some (.s ns), some (.p (.int most)), none] [2]) _ [] []).bind _) = _
    have ew : wipeE [some (D.s ns), some (.p (.int most)), none] [2] = [some (.s ns), some (.p (.int most)), none] := rfl
    rw [ew, e]
    show R.ok (D.r ([] ++ cs.map (die · 0)).length) ([] ++ cs.map (die · 0) ++ [.lst ([] ++ (List.range' 0 (rounds most ns)).map .r)]) = _
    rw [List.nil_append, List.nil_append, List.length_map, l1]
  rw [ec]
  rfl

/-! ### a law: so many rounds, then True -/
def tLaw (most : Int) (cl : Str → Fn) (B : MS) : MS := mSeq (mFor (mIt (mCall (cl "_law_rounds") (mCons (mVar 0) (mCons (mC (.int most)) mNil)))) (.nm 1) B) (mSeq (mRtn (mC (.bool true))) mNext)
/-- one round goes on -/
def RoundOk (B : MS) (N : Nat) (ns : List Int) (L n i : Nat) : Prop := ∀ (env : En) (st : List O) (c : Int), env.length = N → env[0]? = some (some (.s ns)) → env[1]? = some (some (.r i)) → st.length = n + 1 → st[i]? = some (die c 0) → c.natAbs < 2 ^ L →
  ∃ env' st', (B [] env st = .nx env' st' ∨ B [] env st = .ct env' st') ∧ env'.length = N ∧ env'[0]? = some (some (.s ns)) ∧ st'.length = n + 1 ∧ ∀ j, j ≠ i → j < n → st'[j]? = st[j]?
theorem rounds_go {B : MS} {N : Nat} {ns : List Int} {L n : Nat} (hN : 2 ≤ N) (hB : ∀ i, i < n → RoundOk B N ns L n i) :
    ∀ (m i : Nat) (env : En) (st : List O), i + m = n → env.length = N → env[0]? = some (some (.s ns)) → st.length = n + 1 → (∀ j, i ≤ j → j < n → ∃ c : Int, st[j]? = some (die c 0) ∧ c.natAbs < 2 ^ L) →
      ∃ env' st', mForL (.nm 1) B ((List.range' i m).map .r) [] env st = .nx env' st'
  | 0, i, env, st, _, _, _, _, _ => ⟨env, st, rfl⟩
  | m + 1, i, env, st, h1, h2, h3, h4, h5 => by
    obtain ⟨c, e1, e2⟩ := h5 i (Nat.le_refl _) (by omega)
    have hl : (env.set 1 (some (.r i))).length = N := by rw [List.length_set]; exact h2
    obtain ⟨env', st', hb, b1, b2, b3, b4⟩ := hB i (by omega) (env.set 1 (some (.r i))) st c hl (by rw [List.getElem?_set_ne (by decide)]; exact h3) (List.getElem?_set_self (by omega)) h4 e1 e2
    obtain ⟨env2, st2, e⟩ := rounds_go hN hB m (i + 1) env' st' (by omega) b1 b2 b3 fun j j1 j2 => by
      rw [b4 j (by omega) j2]
      exact h5 j (by omega) j2
    refine ⟨env2, st2, ?_⟩
    rw [List.range'_succ, List.map_cons]
    show (match asg (.nm 1) (.r i) env with
      | none => RS.bad
      | some env1 => match B [] env1 st with
        | .nx env' st' => mForL (.nm 1) B ((List.range' (i + 1) m).map .r) [] env' st'
        | .ct env' st' => mForL (.nm 1) B ((List.range' (i + 1) m).map .r) [] env' st'
        | .bk env' st' => .nx env' st'
        | r => r) = _
    have ea : asg (.nm 1) (.r i) env = some (env.set 1 (some (.r i))) := rfl
    rw [ea]
    rcases hb with hb | hb
    · simp only [hb]; exact e
    · simp only [hb]; exact e

theorem bits_of {z : Int} (h : Builtin.Int.intBits z ≤ 1048576) : z.natAbs < 2 ^ 1048576 := by
  unfold Builtin.Int.intBits at h
  split at h
  · rename_i e
    have e : z = 0 := eq_of_beq e
    rw [e]
    exact Nat.pow_pos (by decide)
  · rename_i e
    have ne : z.natAbs ≠ 0 := fun q => e (by rw [Int.natAbs_eq_zero.mp q]; rfl)
    exact (Nat.log2_lt ne).mp (by omega)
theorem law_true {tab : List Df} {k N most : Nat} {B : MS} (hlaw : fnK tab (k + 3) "law" = runFn N (tLaw most (fnK tab (k + 2)) B)) (hrd : fnK tab (k + 2) "_law_rounds" = runFn 3 (tRounds (fnK tab (k + 1)))) (hcell : fnK tab (k + 1) "_law_cell" = runFn 2 tCell)
    (hm1 : 1 ≤ most) (hm2 : most ≤ 63) (hN : 2 ≤ N) (hB : ∀ (ns : List Int) (L n i : Nat), ns.length ≤ 63 → 60 ≤ L → L ≤ 2000000 → 1 ≤ n → n ≤ most → i < n → RoundOk B N ns L n i) : LawTrue tab (k + 3) := by
  intro ns hn hbits
  obtain ⟨cs, l1, l2, e⟩ := rounds_ok hcell hn (L := 1048576) (by decide) (fun z hz => bits_of (hbits z hz)) hm1 hm2 []
  have hr := rounds_le most hm1 ns
  have hp := rounds_pos most ns
  generalize hnn : rounds most ns = n at l1 e hr hp
  rw [hlaw]
  have env0 : ∃ env : En, [some (D.s ns)] ++ List.replicate (N - 1) none = env ∧ env.length = N ∧ env[0]? = some (some (.s ns)) := ⟨_, rfl, by simp; omega, rfl⟩
  obtain ⟨env, e0, en1, en2⟩ := env0
  have hst : ((cs.map (die · 0) ++ [O.lst ((List.range' 0 n).map .r)]).set n .dead).length = n + 1 := by
    rw [List.length_set, List.length_append, List.length_map, l1]; rfl
  obtain ⟨env', st', eg⟩ := rounds_go (B := B) (N := N) (ns := ns) (L := 1048577) (n := n) hN (fun i hi => hB ns 1048577 n i hn (by decide) (by decide) hp hr hi) n 0 env ((cs.map (die · 0) ++ [O.lst ((List.range' 0 n).map .r)]).set n .dead) (by omega) en1 en2 hst fun j _ hj => by
    have hjc : j < cs.length := by omega
    refine ⟨cs[j], ?_, l2 _ (List.getElem_mem hjc)⟩
    rw [List.getElem?_set_ne (by omega), List.getElem?_append_left (by rw [List.length_map]; exact hjc), List.getElem?_map, List.getElem?_eq_getElem hjc]
    rfl
  have eit : mIt (mCall (fnK tab (k + 2) "_law_rounds") (mCons (mVar 0) (mCons (mC (.int most)) mNil))) [] env [] = .ok ((List.range' 0 n).map .r) ((cs.map (die · 0) ++ [O.lst ((List.range' 0 n).map .r)]).set n .dead) := by
    have v0 : mVar 0 [] env [] = .ok (.s ns) [] := by unfold mVar; simp only [en2]
    have c1 : mCall (fnK tab (k + 2) "_law_rounds") (mCons (mVar 0) (mCons (mC (.int most)) mNil)) [] env [] = .ok (.r n) (cs.map (die · 0) ++ [O.lst ((List.range' 0 n).map .r)]) := by
      unfold mCall mCons mB
      simp only [mB, v0, R.bind, mC, mNil, mRet]
      rw [hrd]
      exact e
    unfold mIt mB
    rw [c1]
    show itSeq (.r n) _ = _
    unfold itSeq
    have g : (cs.map (die · 0) ++ [O.lst ((List.range' 0 n).map .r)])[n]? = some (.lst ((List.range' 0 n).map .r)) := by
      rw [List.getElem?_append_right (by rw [List.length_map, l1]; exact Nat.le_refl _), List.length_map, l1, Nat.sub_self]
      rfl
    simp only [g]
  refine ⟨st', ?_⟩
  unfold runFn tLaw
  simp only [List.map_cons, List.map_nil, List.length_cons, List.length_nil, Nat.zero_add]
  rw [e0]
  simp only [mSeq, mFor, sB, eit, R.toS, eg, RS.then, mRtn, mC]
end Fk


/-! Steps of the evaluator, as rules to rewrite with. -/
namespace Fk
open PySem PySem.Spec L2
set_option autoImplicit false
section
variable {ms : List Nat} {env : En} {st st' : List O} {d : D} {ds : List D} {x y : D} {c : Str}
theorem x_seq {m n : MS} : mSeq m n ms env st = (m ms env st).then fun e s => n ms e s := rfl
theorem x_then_nx {e : En} {f : En → List O → RS} : RS.then (.nx e st) f = f e st := rfl
theorem x_then_rt {f : En → List O → RS} : RS.then (.rt d st) f = .rt d st := rfl
theorem x_then_ex {f : En → List O → RS} : RS.then (.ex c st) f = .ex c st := rfl
theorem x_then_bk {e : En} {f : En → List O → RS} : RS.then (.bk e st) f = .bk e st := rfl
theorem x_then_ct {e : En} {f : En → List O → RS} : RS.then (.ct e st) f = .ct e st := rfl
theorem x_next : mNext ms env st = .nx env st := rfl
theorem x_brk : mBrk ms env st = .bk env st := rfl
theorem x_cnt : mCnt ms env st = .ct env st := rfl
theorem x_toS_ok {α : Type} {a : α} {f : α → List O → RS} : R.toS (.ok a st) f = f a st := rfl
theorem x_toS_ex {α : Type} {f : α → List O → RS} : R.toS (.ex c st) f = .ex c st := rfl
theorem x_bind_ok {α β : Type} {a : α} {f : α → List O → R β} : R.bind (.ok a st) f = f a st := rfl
theorem x_bind_ex {α β : Type} {f : α → List O → R β} : R.bind (.ex c st : R α) f = .ex c st := rfl
theorem x_set {i : Nat} {m : M D} : mSet i m ms env st = (m ms env st).toS fun d s => .nx (env.set i (some d)) s := rfl
theorem x_rtn {m : M D} : mRtn m ms env st = (m ms env st).toS fun d s => .rt d s := rfl
theorem x_rtnN : mRtnN ms env st = .rt (.p .none) st := rfl
theorem x_expr {m : M D} : mExpr m ms env st = (m ms env st).toS fun _ s => .nx env s := rfl
theorem x_raise : mRaise c ms env st = .ex c st := rfl
theorem x_ifS {k : M Bool} {m n : MS} : mIfS k m n ms env st = (k ms env st).toS fun b s => cond b (m ms env s) (n ms env s) := by
  unfold mIfS sB
  congr 1
  funext b s
  cases b <;> rfl
theorem x_par {i j : Nat} {m : M (List D)} : mPar i j m ms env st = (m ms env st).toS fun ds s => match ds with
  | [a, b] => .nx ((env.set i (some a)).set j (some b)) s
  | _ => .bad := rfl
theorem x_m2 {f : Op2} {a b : M D} : m2 f a b ms env st = (a ms env st).bind fun x s => (b ms env s).bind fun y s2 => f x y s2 := rfl
theorem x_call {g : Fn} {m : M (List D)} : mCall g m ms env st = (m ms env st).bind fun ds s => g ds ms s := rfl
theorem x_cons {m : M D} {n : M (List D)} : mCons m n ms env st = (m ms env st).bind fun d s => (n ms env s).bind fun ds s2 => .ok (d :: ds) s2 := rfl
theorem x_nil : mNil ms env st = .ok [] st := rfl
theorem x_C {p : PyData} : mC p ms env st = .ok (.p p) st := rfl
theorem x_D : mD d ms env st = .ok d st := rfl
theorem x_var0 {e : En} : mVar 0 ms (some d :: e) st = .ok d st := rfl
theorem x_varS {i : Nat} {o : Option D} {e : En} : mVar (i + 1) ms (o :: e) st = mVar i ms e st := rfl
theorem x_T {m : M D} : mT m ms env st = (m ms env st).bind fun d s => toB d s := rfl
theorem x_toB {b : Bool} : toB (.p (.bool b)) st = .ok b st := rfl
theorem x_andT {m n : M Bool} : mAndT m n ms env st = (m ms env st).bind fun b s => cond b (n ms env s) (.ok false s) := by
  unfold mAndT mB
  congr 1
  funext b s
  cases b <;> rfl
theorem x_orT {m n : M Bool} : mOrT m n ms env st = (m ms env st).bind fun b s => cond b (.ok true s) (n ms env s) := by
  unfold mOrT mB
  congr 1
  funext b s
  cases b <;> rfl
theorem x_notT {m : M Bool} : mNotT m ms env st = (m ms env st).bind fun b s => .ok (!b) s := rfl
theorem x_andV {m n : M D} : mAndV m n ms env st = (m ms env st).bind fun d s => (toB d s).bind fun b s => cond b (n ms env s) (.ok (.p (.bool false)) s) := by
  unfold mAndV mB mT mB
  cases m ms env st with
  | ok d s =>
    show (toB d s).bind _ = (toB d s).bind _
    cases toB d s with
    | ok b s => cases b <;> rfl
    | _ => rfl
  | _ => rfl
theorem x_orV {m n : M D} : mOrV m n ms env st = (m ms env st).bind fun d s => (toB d s).bind fun b s => cond b (.ok (.p (.bool true)) s) (n ms env s) := by
  unfold mOrV mB mT mB
  cases m ms env st with
  | ok d s =>
    show (toB d s).bind _ = (toB d s).bind _
    cases toB d s with
    | ok b s => cases b <;> rfl
    | _ => rfl
  | _ => rfl
theorem x_notV {m : M D} : mNotV m ms env st = (m ms env st).bind fun d s => (toB d s).bind fun b s => .ok (.p (.bool (!b))) s := by
  unfold mNotV mB mT mB
  cases m ms env st with
  | ok d s => rfl
  | _ => rfl
theorem x_if {k : M Bool} {m n : M D} : mIf k m n ms env st = (k ms env st).bind fun b s => cond b (m ms env s) (n ms env s) := by
  unfold mIf mB
  congr 1
  funext b s
  cases b <;> rfl
theorem x_chain {f f' : Op2} {a b e : M D} : mChain f f' a b e ms env st = (a ms env st).bind fun x s => (b ms env s).bind fun y s => ((f x y s).bind toB).bind fun k s => cond k ((e ms env s).bind fun z s => f' y z s) (.ok (.p (.bool false)) s) := by
  unfold mChain mB
  cases a ms env st with
  | ok x s =>
    show (b ms env s).bind _ = (b ms env s).bind _
    cases b ms env s with
    | ok y s =>
      show ((f x y s).bind toB).bind _ = ((f x y s).bind toB).bind _
      cases (f x y s).bind toB with
      | ok k s => cases k <;> rfl
      | _ => rfl
    | _ => rfl
  | _ => rfl
theorem x_neg {m : M D} : mNeg m ms env st = (m ms env st).bind fun d s => dNeg d s := rfl
theorem x_dneg {i : Int} : dNeg (.p (.int i)) st = .ok (.p (.int (-i))) st := rfl
theorem x_add {fl : Bool} {i j : Int} : dAdd fl (.p (.int i)) (.p (.int j)) st = .ok (.p (.int (i + j))) st := rfl
theorem x_sub {i j : Int} : dSub (.p (.int i)) (.p (.int j)) st = .ok (.p (.int (i - j))) st := rfl
theorem x_lt {i j : Int} : dLt (.p (.int i)) (.p (.int j)) st = .ok (.p (.bool (decide (i < j)))) st := rfl
theorem x_le {i j : Int} : dLe (.p (.int i)) (.p (.int j)) st = .ok (.p (.bool (decide (i ≤ j)))) st := rfl
theorem x_gt {i j : Int} : dGt (.p (.int i)) (.p (.int j)) st = .ok (.p (.bool (decide (j < i)))) st := rfl
theorem x_ge {i j : Int} : dGe (.p (.int i)) (.p (.int j)) st = .ok (.p (.bool (decide (j ≤ i)))) st := rfl
theorem x_eq {i j : Int} : dEq' (.p (.int i)) (.p (.int j)) st = .ok (.p (.bool (decide (i = j)))) st := rfl
theorem x_ne {i j : Int} : dNe' (.p (.int i)) (.p (.int j)) st = .ok (.p (.bool (!decide (i = j)))) st := rfl
theorem x_isN {p : PyData} {neg : Bool} : dIs neg (.p p) (.p .none) st = .ok (.p (.bool (match p with | .none => !neg | _ => neg))) st := rfl
theorem x_tup {m : M (List D)} : mTup m ms env st = (m ms env st).bind fun ds s => if ds.length ≤ sizeLine then mkT ds s else .bad := rfl
theorem x_lst {fl : Bool} {m : M (List D)} : mLst fl m ms env st = (m ms env st).bind fun ds s => if ds.length ≤ sizeLine then mkL fl ds s else .bad := rfl
theorem x_N {f : OpN} {m : M (List D)} : mN f m ms env st = (m ms env st).bind fun ds s => f ds s := rfl
theorem x_isi {T : String} {m : M D} : mIsi T m ms env st = (m ms env st).bind fun d s => fIsi T d s := rfl
theorem x_told {m : M D} : mTold m ms env st = (m ms env st).told := rfl
theorem x_told_ok : R.told (.ok d st) = .ok d st := rfl
theorem x_told_ex (h : c ∈ kinds18) : R.told (.ex c st) = .ok (.p (errT c)) st := if_pos h
theorem x_cut {b : MS} {e : En} {s : List O} (h : b (st.length :: ms) env st = .nx e s) : mCut b ms env st = .nx (e.map (fgt st.length)) (s.take st.length) := by
  unfold mCut
  rw [h]
theorem x_cutr {b : MS} {s : List O} (h : b (st.length :: ms) env st = .rt d s) (hu : d.under st.length = true) : mCut b ms env st = .rt d (s.take st.length) := by
  unfold mCut
  rw [h]
  exact if_pos hu
theorem x_isi_int_int {i : Int} : fIsi "int" (.p (.int i)) st = .ok (.p (.bool true)) st := rfl
theorem x_isi_int_bool {i : Bool} : fIsi "int" (.p (.bool i)) st = .ok (.p (.bool true)) st := rfl
theorem x_isi_int_str {i : Str} : fIsi "int" (.p (.str i)) st = .ok (.p (.bool false)) st := rfl
theorem x_isi_int_NoneType  : fIsi "int" (.p .none) st = .ok (.p (.bool false)) st := rfl
theorem x_isi_int_list {i : List PyData} : fIsi "int" (.p (.list i)) st = .ok (.p (.bool false)) st := rfl
theorem x_isi_int_tuple {i : List PyData} : fIsi "int" (.p (.tuple i)) st = .ok (.p (.bool false)) st := rfl
theorem x_isi_bool_int {i : Int} : fIsi "bool" (.p (.int i)) st = .ok (.p (.bool false)) st := rfl
theorem x_isi_bool_bool {i : Bool} : fIsi "bool" (.p (.bool i)) st = .ok (.p (.bool true)) st := rfl
theorem x_isi_bool_str {i : Str} : fIsi "bool" (.p (.str i)) st = .ok (.p (.bool false)) st := rfl
theorem x_isi_bool_NoneType  : fIsi "bool" (.p .none) st = .ok (.p (.bool false)) st := rfl
theorem x_isi_bool_list {i : List PyData} : fIsi "bool" (.p (.list i)) st = .ok (.p (.bool false)) st := rfl
theorem x_isi_bool_tuple {i : List PyData} : fIsi "bool" (.p (.tuple i)) st = .ok (.p (.bool false)) st := rfl
theorem x_isi_str_int {i : Int} : fIsi "str" (.p (.int i)) st = .ok (.p (.bool false)) st := rfl
theorem x_isi_str_bool {i : Bool} : fIsi "str" (.p (.bool i)) st = .ok (.p (.bool false)) st := rfl
theorem x_isi_str_str {i : Str} : fIsi "str" (.p (.str i)) st = .ok (.p (.bool true)) st := rfl
theorem x_isi_str_NoneType  : fIsi "str" (.p .none) st = .ok (.p (.bool false)) st := rfl
theorem x_isi_str_list {i : List PyData} : fIsi "str" (.p (.list i)) st = .ok (.p (.bool false)) st := rfl
theorem x_isi_str_tuple {i : List PyData} : fIsi "str" (.p (.tuple i)) st = .ok (.p (.bool false)) st := rfl
theorem x_isi_tuple_int {i : Int} : fIsi "tuple" (.p (.int i)) st = .ok (.p (.bool false)) st := rfl
theorem x_isi_tuple_bool {i : Bool} : fIsi "tuple" (.p (.bool i)) st = .ok (.p (.bool false)) st := rfl
theorem x_isi_tuple_str {i : Str} : fIsi "tuple" (.p (.str i)) st = .ok (.p (.bool false)) st := rfl
theorem x_isi_tuple_NoneType  : fIsi "tuple" (.p .none) st = .ok (.p (.bool false)) st := rfl
theorem x_isi_tuple_list {i : List PyData} : fIsi "tuple" (.p (.list i)) st = .ok (.p (.bool false)) st := rfl
theorem x_isi_tuple_tuple {i : List PyData} : fIsi "tuple" (.p (.tuple i)) st = .ok (.p (.bool true)) st := rfl
theorem x_isi_list_int {i : Int} : fIsi "list" (.p (.int i)) st = .ok (.p (.bool false)) st := rfl
theorem x_isi_list_bool {i : Bool} : fIsi "list" (.p (.bool i)) st = .ok (.p (.bool false)) st := rfl
theorem x_isi_list_str {i : Str} : fIsi "list" (.p (.str i)) st = .ok (.p (.bool false)) st := rfl
theorem x_isi_list_NoneType  : fIsi "list" (.p .none) st = .ok (.p (.bool false)) st := rfl
theorem x_isi_list_list {i : List PyData} : fIsi "list" (.p (.list i)) st = .ok (.p (.bool true)) st := rfl
theorem x_isi_list_tuple {i : List PyData} : fIsi "list" (.p (.tuple i)) st = .ok (.p (.bool false)) st := rfl
def RS.fin (r : RS) : R D := match r with
  | .nx _ st' => .ok (.p .none) st'
  | .rt d st' => .ok d st'
  | .ex c st' => .ex c st'
  | _ => .bad
theorem x_run {n : Nat} {m : MS} : runFn n m ds ms st = (m ms (ds.map some ++ List.replicate (n - ds.length) none) st).fin := by
  unfold runFn RS.fin
  cases m ms (ds.map some ++ List.replicate (n - ds.length) none) st <;> rfl
theorem x_fin_nx {e : En} : RS.fin (.nx e st) = .ok (.p .none) st := rfl
theorem x_fin_rt : RS.fin (.rt d st) = .ok d st := rfl
theorem x_fin_ex : RS.fin (.ex c st) = .ex c st := rfl
theorem x_mod {i j : Int} (h : 0 < j) : dMod (.p (.int i)) (.p (.int j)) st = .ok (.p (.int (i % j))) st := dMod_ok h
theorem x_div {i j : Int} (h : 0 < j) (h2 : j.natAbs.log2 < 9000) : dDiv (.p (.int i)) (.p (.int j)) st = .ok (.p (.int (i / j))) st := dDiv_ok h h2
theorem x_div2 {i : Int} : dDiv (.p (.int i)) (.p (.int 2)) st = .ok (.p (.int (i / 2))) st := dDiv_ok (by decide) (by decide)
theorem x_mul {fl : Bool} {i j : Int} (h : mulOk i j = true) : dMul fl (.p (.int i)) (.p (.int j)) st = .ok (.p (.int (i * j))) st := dMul_ok h
end
end Fk

set_option maxRecDepth 1000000
set_option maxHeartbeats 1000000
namespace Fk
open PySem PySem.Spec L2
set_option autoImplicit false
/-! ### words.py -/
def t_is_whole (cl : Str → Fn) : MS := (mSeq (mRtn (mAndV (mIsi "int" (mVar 0)) (mAndV (mNotV (mIsi "bool" (mVar 0))) (mChain dLe dLe (mVar 1) (mVar 0) (mVar 2))))) mNext)
def isW (d : PyData) (lo hi : Int) : Bool := match d with
  | .int v => decide (lo ≤ v) && decide (v ≤ hi)
  | _ => false
theorem isW_yes {v lo hi : Int} (h : lo ≤ v) (h2 : v ≤ hi) : isW (.int v) lo hi = true := by
  show (decide (lo ≤ v) && decide (v ≤ hi)) = true
  rw [decide_eq_true h, decide_eq_true h2]
  rfl
def noDict : PyData → Bool
  | .dict _ => false
  | _ => true
def IsWhole (f : Fn) : Prop := ∀ (d : PyData) (lo hi : Int) (ms : List Nat) (st : List O), noDict d = true → f [.p d, .p (.int lo), .p (.int hi)] ms st = .ok (.p (.bool (isW d lo hi))) st
theorem is_whole_ok {cl : Str → Fn} : IsWhole (runFn 3 (t_is_whole cl)) := by
  intro d lo hi ms st hd
  rw [x_run]
  unfold t_is_whole
  simp only [List.map_cons, List.map_nil, List.length_cons, List.length_nil, List.cons_append, List.nil_append]
  cases d with
  | int v =>
    simp only [x_seq, x_then_nx, x_then_rt, x_then_ex, x_then_bk, x_then_ct, x_next, x_brk, x_cnt, x_toS_ok, x_toS_ex, x_bind_ok, x_bind_ex, x_set, x_rtn, x_rtnN, x_expr, x_raise, x_ifS, x_par, x_m2, x_call, x_cons, x_nil, x_C, x_D, x_var0, x_varS, x_T, x_toB, x_andT, x_orT, x_notT, x_andV, x_orV, x_notV, x_if, x_chain, x_neg, x_dneg, x_add, x_sub, x_lt, x_le, x_gt, x_ge, x_eq, x_ne, x_isN, x_tup, x_lst, x_N, x_isi, x_told, x_told_ok, x_isi_int_int, x_isi_int_bool, x_isi_int_str, x_isi_int_NoneType, x_isi_int_list, x_isi_int_tuple, x_isi_bool_int, x_isi_bool_bool, x_isi_bool_str, x_isi_bool_NoneType, x_isi_bool_list, x_isi_bool_tuple, x_isi_str_int, x_isi_str_bool, x_isi_str_str, x_isi_str_NoneType, x_isi_str_list, x_isi_str_tuple, x_isi_tuple_int, x_isi_tuple_bool, x_isi_tuple_str, x_isi_tuple_NoneType, x_isi_tuple_list, x_isi_tuple_tuple, x_isi_list_int, x_isi_list_bool, x_isi_list_str, x_isi_list_NoneType, x_isi_list_list, x_isi_list_tuple, x_run, x_fin_nx, x_fin_rt, x_fin_ex, x_div2]
    unfold isW
    by_cases h : lo ≤ v <;> simp only [x_seq, x_then_nx, x_then_rt, x_then_ex, x_then_bk, x_then_ct, x_next, x_brk, x_cnt, x_toS_ok, x_toS_ex, x_bind_ok, x_bind_ex, x_set, x_rtn, x_rtnN, x_expr, x_raise, x_ifS, x_par, x_m2, x_call, x_cons, x_nil, x_C, x_D, x_var0, x_varS, x_T, x_toB, x_andT, x_orT, x_notT, x_andV, x_orV, x_notV, x_if, x_chain, x_neg, x_dneg, x_add, x_sub, x_lt, x_le, x_gt, x_ge, x_eq, x_ne, x_isN, x_tup, x_lst, x_N, x_isi, x_told, x_told_ok, x_isi_int_int, x_isi_int_bool, x_isi_int_str, x_isi_int_NoneType, x_isi_int_list, x_isi_int_tuple, x_isi_bool_int, x_isi_bool_bool, x_isi_bool_str, x_isi_bool_NoneType, x_isi_bool_list, x_isi_bool_tuple, x_isi_str_int, x_isi_str_bool, x_isi_str_str, x_isi_str_NoneType, x_isi_str_list, x_isi_str_tuple, x_isi_tuple_int, x_isi_tuple_bool, x_isi_tuple_str, x_isi_tuple_NoneType, x_isi_tuple_list, x_isi_tuple_tuple, x_isi_list_int, x_isi_list_bool, x_isi_list_str, x_isi_list_NoneType, x_isi_list_list, x_isi_list_tuple, x_run, x_fin_nx, x_fin_rt, x_fin_ex, x_div2, h, decide_true, decide_false, cond_true, cond_false, Bool.true_and, Bool.false_and, Bool.not_false]
  | dict l => cases hd
  | bool b => simp only [x_seq, x_then_nx, x_then_rt, x_then_ex, x_then_bk, x_then_ct, x_next, x_brk, x_cnt, x_toS_ok, x_toS_ex, x_bind_ok, x_bind_ex, x_set, x_rtn, x_rtnN, x_expr, x_raise, x_ifS, x_par, x_m2, x_call, x_cons, x_nil, x_C, x_D, x_var0, x_varS, x_T, x_toB, x_andT, x_orT, x_notT, x_andV, x_orV, x_notV, x_if, x_chain, x_neg, x_dneg, x_add, x_sub, x_lt, x_le, x_gt, x_ge, x_eq, x_ne, x_isN, x_tup, x_lst, x_N, x_isi, x_told, x_told_ok, x_isi_int_int, x_isi_int_bool, x_isi_int_str, x_isi_int_NoneType, x_isi_int_list, x_isi_int_tuple, x_isi_bool_int, x_isi_bool_bool, x_isi_bool_str, x_isi_bool_NoneType, x_isi_bool_list, x_isi_bool_tuple, x_isi_str_int, x_isi_str_bool, x_isi_str_str, x_isi_str_NoneType, x_isi_str_list, x_isi_str_tuple, x_isi_tuple_int, x_isi_tuple_bool, x_isi_tuple_str, x_isi_tuple_NoneType, x_isi_tuple_list, x_isi_tuple_tuple, x_isi_list_int, x_isi_list_bool, x_isi_list_str, x_isi_list_NoneType, x_isi_list_list, x_isi_list_tuple, x_run, x_fin_nx, x_fin_rt, x_fin_ex, x_div2, cond_true, cond_false, Bool.not_true]; rfl
  | none => simp only [x_seq, x_then_nx, x_then_rt, x_then_ex, x_then_bk, x_then_ct, x_next, x_brk, x_cnt, x_toS_ok, x_toS_ex, x_bind_ok, x_bind_ex, x_set, x_rtn, x_rtnN, x_expr, x_raise, x_ifS, x_par, x_m2, x_call, x_cons, x_nil, x_C, x_D, x_var0, x_varS, x_T, x_toB, x_andT, x_orT, x_notT, x_andV, x_orV, x_notV, x_if, x_chain, x_neg, x_dneg, x_add, x_sub, x_lt, x_le, x_gt, x_ge, x_eq, x_ne, x_isN, x_tup, x_lst, x_N, x_isi, x_told, x_told_ok, x_isi_int_int, x_isi_int_bool, x_isi_int_str, x_isi_int_NoneType, x_isi_int_list, x_isi_int_tuple, x_isi_bool_int, x_isi_bool_bool, x_isi_bool_str, x_isi_bool_NoneType, x_isi_bool_list, x_isi_bool_tuple, x_isi_str_int, x_isi_str_bool, x_isi_str_str, x_isi_str_NoneType, x_isi_str_list, x_isi_str_tuple, x_isi_tuple_int, x_isi_tuple_bool, x_isi_tuple_str, x_isi_tuple_NoneType, x_isi_tuple_list, x_isi_tuple_tuple, x_isi_list_int, x_isi_list_bool, x_isi_list_str, x_isi_list_NoneType, x_isi_list_list, x_isi_list_tuple, x_run, x_fin_nx, x_fin_rt, x_fin_ex, x_div2, cond_true, cond_false]; rfl
  | str b => simp only [x_seq, x_then_nx, x_then_rt, x_then_ex, x_then_bk, x_then_ct, x_next, x_brk, x_cnt, x_toS_ok, x_toS_ex, x_bind_ok, x_bind_ex, x_set, x_rtn, x_rtnN, x_expr, x_raise, x_ifS, x_par, x_m2, x_call, x_cons, x_nil, x_C, x_D, x_var0, x_varS, x_T, x_toB, x_andT, x_orT, x_notT, x_andV, x_orV, x_notV, x_if, x_chain, x_neg, x_dneg, x_add, x_sub, x_lt, x_le, x_gt, x_ge, x_eq, x_ne, x_isN, x_tup, x_lst, x_N, x_isi, x_told, x_told_ok, x_isi_int_int, x_isi_int_bool, x_isi_int_str, x_isi_int_NoneType, x_isi_int_list, x_isi_int_tuple, x_isi_bool_int, x_isi_bool_bool, x_isi_bool_str, x_isi_bool_NoneType, x_isi_bool_list, x_isi_bool_tuple, x_isi_str_int, x_isi_str_bool, x_isi_str_str, x_isi_str_NoneType, x_isi_str_list, x_isi_str_tuple, x_isi_tuple_int, x_isi_tuple_bool, x_isi_tuple_str, x_isi_tuple_NoneType, x_isi_tuple_list, x_isi_tuple_tuple, x_isi_list_int, x_isi_list_bool, x_isi_list_str, x_isi_list_NoneType, x_isi_list_list, x_isi_list_tuple, x_run, x_fin_nx, x_fin_rt, x_fin_ex, x_div2, cond_true, cond_false]; rfl
  | list b => simp only [x_seq, x_then_nx, x_then_rt, x_then_ex, x_then_bk, x_then_ct, x_next, x_brk, x_cnt, x_toS_ok, x_toS_ex, x_bind_ok, x_bind_ex, x_set, x_rtn, x_rtnN, x_expr, x_raise, x_ifS, x_par, x_m2, x_call, x_cons, x_nil, x_C, x_D, x_var0, x_varS, x_T, x_toB, x_andT, x_orT, x_notT, x_andV, x_orV, x_notV, x_if, x_chain, x_neg, x_dneg, x_add, x_sub, x_lt, x_le, x_gt, x_ge, x_eq, x_ne, x_isN, x_tup, x_lst, x_N, x_isi, x_told, x_told_ok, x_isi_int_int, x_isi_int_bool, x_isi_int_str, x_isi_int_NoneType, x_isi_int_list, x_isi_int_tuple, x_isi_bool_int, x_isi_bool_bool, x_isi_bool_str, x_isi_bool_NoneType, x_isi_bool_list, x_isi_bool_tuple, x_isi_str_int, x_isi_str_bool, x_isi_str_str, x_isi_str_NoneType, x_isi_str_list, x_isi_str_tuple, x_isi_tuple_int, x_isi_tuple_bool, x_isi_tuple_str, x_isi_tuple_NoneType, x_isi_tuple_list, x_isi_tuple_tuple, x_isi_list_int, x_isi_list_bool, x_isi_list_str, x_isi_list_NoneType, x_isi_list_list, x_isi_list_tuple, x_run, x_fin_nx, x_fin_rt, x_fin_ex, x_div2, cond_true, cond_false]; rfl
  | tuple b => simp only [x_seq, x_then_nx, x_then_rt, x_then_ex, x_then_bk, x_then_ct, x_next, x_brk, x_cnt, x_toS_ok, x_toS_ex, x_bind_ok, x_bind_ex, x_set, x_rtn, x_rtnN, x_expr, x_raise, x_ifS, x_par, x_m2, x_call, x_cons, x_nil, x_C, x_D, x_var0, x_varS, x_T, x_toB, x_andT, x_orT, x_notT, x_andV, x_orV, x_notV, x_if, x_chain, x_neg, x_dneg, x_add, x_sub, x_lt, x_le, x_gt, x_ge, x_eq, x_ne, x_isN, x_tup, x_lst, x_N, x_isi, x_told, x_told_ok, x_isi_int_int, x_isi_int_bool, x_isi_int_str, x_isi_int_NoneType, x_isi_int_list, x_isi_int_tuple, x_isi_bool_int, x_isi_bool_bool, x_isi_bool_str, x_isi_bool_NoneType, x_isi_bool_list, x_isi_bool_tuple, x_isi_str_int, x_isi_str_bool, x_isi_str_str, x_isi_str_NoneType, x_isi_str_list, x_isi_str_tuple, x_isi_tuple_int, x_isi_tuple_bool, x_isi_tuple_str, x_isi_tuple_NoneType, x_isi_tuple_list, x_isi_tuple_tuple, x_isi_list_int, x_isi_list_bool, x_isi_list_str, x_isi_list_NoneType, x_isi_list_list, x_isi_list_tuple, x_run, x_fin_nx, x_fin_rt, x_fin_ex, x_div2, cond_true, cond_false]; rfl
def t_is_word (cl : Str → Fn) : MS := (mSeq (mRtn (mCall (cl "is_whole") (mCons (mVar 0) (mCons (mC (.int 0)) (mCons (m2 dSub (mD (.p (.int 65536))) (mC (.int 1))) mNil))))) mNext)
def isWd (d : PyData) : Bool := isW d 0 65535
def IsWord (f : Fn) : Prop := ∀ (d : PyData) (ms : List Nat) (st : List O), noDict d = true → f [.p d] ms st = .ok (.p (.bool (isWd d))) st
theorem is_word_ok {cl : Str → Fn} (h1 : IsWhole (cl "is_whole")) : IsWord (runFn 1 (t_is_word cl)) := by
  intro d ms st hd
  rw [x_run]
  unfold t_is_word
  simp only [List.map_cons, List.map_nil, List.length_cons, List.length_nil, List.cons_append, List.nil_append, x_seq, x_then_nx, x_then_rt, x_then_ex, x_then_bk, x_then_ct, x_next, x_brk, x_cnt, x_toS_ok, x_toS_ex, x_bind_ok, x_bind_ex, x_set, x_rtn, x_rtnN, x_expr, x_raise, x_ifS, x_par, x_m2, x_call, x_cons, x_nil, x_C, x_D, x_var0, x_varS, x_T, x_toB, x_andT, x_orT, x_notT, x_andV, x_orV, x_notV, x_if, x_chain, x_neg, x_dneg, x_add, x_sub, x_lt, x_le, x_gt, x_ge, x_eq, x_ne, x_isN, x_tup, x_lst, x_N, x_isi, x_told, x_told_ok, x_isi_int_int, x_isi_int_bool, x_isi_int_str, x_isi_int_NoneType, x_isi_int_list, x_isi_int_tuple, x_isi_bool_int, x_isi_bool_bool, x_isi_bool_str, x_isi_bool_NoneType, x_isi_bool_list, x_isi_bool_tuple, x_isi_str_int, x_isi_str_bool, x_isi_str_str, x_isi_str_NoneType, x_isi_str_list, x_isi_str_tuple, x_isi_tuple_int, x_isi_tuple_bool, x_isi_tuple_str, x_isi_tuple_NoneType, x_isi_tuple_list, x_isi_tuple_tuple, x_isi_list_int, x_isi_list_bool, x_isi_list_str, x_isi_list_NoneType, x_isi_list_list, x_isi_list_tuple, x_run, x_fin_nx, x_fin_rt, x_fin_ex, x_div2, h1 d _ _ _ _ hd]
  rfl
def t_need_word (cl : Str → Fn) : MS := (mSeq (mIfS (mNotT (mT (mCall (cl "is_word") (mCons (mVar 0) mNil)))) (mSeq (mRaise "InvalidNumber") mNext) mNext) mNext)
def NeedWord (f : Fn) : Prop := ∀ (d : PyData) (ms : List Nat) (st : List O), noDict d = true → f [.p d] ms st = if isWd d = true then .ok (.p .none) st else .ex "InvalidNumber" st
theorem need_word_ok {cl : Str → Fn} (h1 : IsWord (cl "is_word")) : NeedWord (runFn 1 (t_need_word cl)) := by
  intro d ms st hd
  rw [x_run]
  unfold t_need_word
  simp only [List.map_cons, List.map_nil, List.length_cons, List.length_nil, List.cons_append, List.nil_append, x_seq, x_then_nx, x_then_rt, x_then_ex, x_then_bk, x_then_ct, x_next, x_brk, x_cnt, x_toS_ok, x_toS_ex, x_bind_ok, x_bind_ex, x_set, x_rtn, x_rtnN, x_expr, x_raise, x_ifS, x_par, x_m2, x_call, x_cons, x_nil, x_C, x_D, x_var0, x_varS, x_T, x_toB, x_andT, x_orT, x_notT, x_andV, x_orV, x_notV, x_if, x_chain, x_neg, x_dneg, x_add, x_sub, x_lt, x_le, x_gt, x_ge, x_eq, x_ne, x_isN, x_tup, x_lst, x_N, x_isi, x_told, x_told_ok, x_isi_int_int, x_isi_int_bool, x_isi_int_str, x_isi_int_NoneType, x_isi_int_list, x_isi_int_tuple, x_isi_bool_int, x_isi_bool_bool, x_isi_bool_str, x_isi_bool_NoneType, x_isi_bool_list, x_isi_bool_tuple, x_isi_str_int, x_isi_str_bool, x_isi_str_str, x_isi_str_NoneType, x_isi_str_list, x_isi_str_tuple, x_isi_tuple_int, x_isi_tuple_bool, x_isi_tuple_str, x_isi_tuple_NoneType, x_isi_tuple_list, x_isi_tuple_tuple, x_isi_list_int, x_isi_list_bool, x_isi_list_str, x_isi_list_NoneType, x_isi_list_list, x_isi_list_tuple, x_run, x_fin_nx, x_fin_rt, x_fin_ex, x_div2, h1 d _ _ hd]
  cases isWd d <;> simp only [x_seq, x_then_nx, x_then_rt, x_then_ex, x_then_bk, x_then_ct, x_next, x_brk, x_cnt, x_toS_ok, x_toS_ex, x_bind_ok, x_bind_ex, x_set, x_rtn, x_rtnN, x_expr, x_raise, x_ifS, x_par, x_m2, x_call, x_cons, x_nil, x_C, x_D, x_var0, x_varS, x_T, x_toB, x_andT, x_orT, x_notT, x_andV, x_orV, x_notV, x_if, x_chain, x_neg, x_dneg, x_add, x_sub, x_lt, x_le, x_gt, x_ge, x_eq, x_ne, x_isN, x_tup, x_lst, x_N, x_isi, x_told, x_told_ok, x_isi_int_int, x_isi_int_bool, x_isi_int_str, x_isi_int_NoneType, x_isi_int_list, x_isi_int_tuple, x_isi_bool_int, x_isi_bool_bool, x_isi_bool_str, x_isi_bool_NoneType, x_isi_bool_list, x_isi_bool_tuple, x_isi_str_int, x_isi_str_bool, x_isi_str_str, x_isi_str_NoneType, x_isi_str_list, x_isi_str_tuple, x_isi_tuple_int, x_isi_tuple_bool, x_isi_tuple_str, x_isi_tuple_NoneType, x_isi_tuple_list, x_isi_tuple_tuple, x_isi_list_int, x_isi_list_bool, x_isi_list_str, x_isi_list_NoneType, x_isi_list_list, x_isi_list_tuple, x_run, x_fin_nx, x_fin_rt, x_fin_ex, x_div2, Bool.not_true, Bool.not_false, cond_true, cond_false, if_true, Bool.false_eq_true, if_false]
def t_wrapped (cl : Str → Fn) : MS := (mSeq (mIfS (mNotT (mT (mCall (cl "is_whole") (mCons (mVar 0) (mCons (mNeg (m2 dPow (mC (.int 10)) (mC (.int 12)))) (mCons (m2 dPow (mC (.int 10)) (mC (.int 12))) mNil)))))) (mSeq (mRaise "InvalidNumber") mNext) mNext) (mSeq (mRtn (m2 dMod (mVar 0) (mD (.p (.int 65536))))) mNext))
def Wrapped (f : Fn) : Prop := (∀ (v : Int) (ms : List Nat) (st : List O), -10 ^ 12 ≤ v → v ≤ 10 ^ 12 → f [.p (.int v)] ms st = .ok (.p (.int (v % 65536))) st) ∧ ∀ (d : PyData) (ms : List Nat) (st : List O), noDict d = true → isW d (-10 ^ 12) (10 ^ 12) = false → f [.p d] ms st = .ex "InvalidNumber" st
theorem x_pow12 {st : List O} : dPow (.p (.int 10)) (.p (.int 12)) st = .ok (.p (.int (10 ^ 12))) st := rfl
theorem wrapped_ok {cl : Str → Fn} (h1 : IsWhole (cl "is_whole")) : Wrapped (runFn 1 (t_wrapped cl)) := by
  refine ⟨fun v ms st l h => ?_, fun d ms st hd hw => ?_⟩
  · rw [x_run]
    unfold t_wrapped
    have e : isW (.int v) (-10 ^ 12) (10 ^ 12) = true := isW_yes l h
    simp only [List.map_cons, List.map_nil, List.length_cons, List.length_nil, List.cons_append, List.nil_append, x_seq, x_then_nx, x_then_rt, x_then_ex, x_then_bk, x_then_ct, x_next, x_brk, x_cnt, x_toS_ok, x_toS_ex, x_bind_ok, x_bind_ex, x_set, x_rtn, x_rtnN, x_expr, x_raise, x_ifS, x_par, x_m2, x_call, x_cons, x_nil, x_C, x_D, x_var0, x_varS, x_T, x_toB, x_andT, x_orT, x_notT, x_andV, x_orV, x_notV, x_if, x_chain, x_neg, x_dneg, x_add, x_sub, x_lt, x_le, x_gt, x_ge, x_eq, x_ne, x_isN, x_tup, x_lst, x_N, x_isi, x_told, x_told_ok, x_isi_int_int, x_isi_int_bool, x_isi_int_str, x_isi_int_NoneType, x_isi_int_list, x_isi_int_tuple, x_isi_bool_int, x_isi_bool_bool, x_isi_bool_str, x_isi_bool_NoneType, x_isi_bool_list, x_isi_bool_tuple, x_isi_str_int, x_isi_str_bool, x_isi_str_str, x_isi_str_NoneType, x_isi_str_list, x_isi_str_tuple, x_isi_tuple_int, x_isi_tuple_bool, x_isi_tuple_str, x_isi_tuple_NoneType, x_isi_tuple_list, x_isi_tuple_tuple, x_isi_list_int, x_isi_list_bool, x_isi_list_str, x_isi_list_NoneType, x_isi_list_list, x_isi_list_tuple, x_run, x_fin_nx, x_fin_rt, x_fin_ex, x_div2, x_pow12, h1 _ _ _ _ _ (show noDict (.int v) = true from rfl), e, Bool.not_true, cond_false]
    rw [x_mod (by decide)]
    rfl
  · rw [x_run]
    unfold t_wrapped
    simp only [List.map_cons, List.map_nil, List.length_cons, List.length_nil, List.cons_append, List.nil_append, x_seq, x_then_nx, x_then_rt, x_then_ex, x_then_bk, x_then_ct, x_next, x_brk, x_cnt, x_toS_ok, x_toS_ex, x_bind_ok, x_bind_ex, x_set, x_rtn, x_rtnN, x_expr, x_raise, x_ifS, x_par, x_m2, x_call, x_cons, x_nil, x_C, x_D, x_var0, x_varS, x_T, x_toB, x_andT, x_orT, x_notT, x_andV, x_orV, x_notV, x_if, x_chain, x_neg, x_dneg, x_add, x_sub, x_lt, x_le, x_gt, x_ge, x_eq, x_ne, x_isN, x_tup, x_lst, x_N, x_isi, x_told, x_told_ok, x_isi_int_int, x_isi_int_bool, x_isi_int_str, x_isi_int_NoneType, x_isi_int_list, x_isi_int_tuple, x_isi_bool_int, x_isi_bool_bool, x_isi_bool_str, x_isi_bool_NoneType, x_isi_bool_list, x_isi_bool_tuple, x_isi_str_int, x_isi_str_bool, x_isi_str_str, x_isi_str_NoneType, x_isi_str_list, x_isi_str_tuple, x_isi_tuple_int, x_isi_tuple_bool, x_isi_tuple_str, x_isi_tuple_NoneType, x_isi_tuple_list, x_isi_tuple_tuple, x_isi_list_int, x_isi_list_bool, x_isi_list_str, x_isi_list_NoneType, x_isi_list_list, x_isi_list_tuple, x_run, x_fin_nx, x_fin_rt, x_fin_ex, x_div2, x_pow12, h1 _ _ _ _ _ hd, hw, Bool.not_false, cond_true]
def t_twos_in_b0 (cl : Str → Fn) : MS := (mSeq (mPar 0 1 (mCons (m2 dDiv (mVar 0) (mC (.int 2))) (mCons (m2 (dAdd false) (mVar 1) (mC (.int 1))) mNil))) mNext)
def t_twos_in (cl : Str → Fn) : MS := (mSeq (mSet 1 (mC (.int 0))) (mSeq (mWh (mAndT (mT (m2 dLt (mVar 1) (mD (.p (.int 16))))) (mT (m2 dEq' (m2 dMod (mVar 0) (mC (.int 2))) (mC (.int 0))))) (t_twos_in_b0 cl) 1000) (mSeq (mRtn (mVar 1)) mNext)))
/-- how often 2 divides, at most so often -/
def twosN : Nat → Int → Nat
  | 0, _ => 0
  | n + 1, v => if v % 2 = 0 then twosN n (v / 2) + 1 else 0
theorem twosN_pos {n : Nat} {v : Int} (h : v % 2 = 0) : twosN (n + 1) v = twosN n (v / 2) + 1 := if_pos h
theorem twosN_neg {n : Nat} {v : Int} (h : ¬ v % 2 = 0) : twosN (n + 1) v = 0 := if_neg h
def twosI (v : Int) : Int := twosN 16 v
theorem x_while {c : M Bool} {b : MS} {n : Nat} {ms : List Nat} {env : En} {st : List O} : mWh c b (n + 1) ms env st = (c ms env st).toS fun k s => cond k (match b ms env s with
      | .nx env' st' => mWh c b n ms env' st'
      | .ct env' st' => mWh c b n ms env' st'
      | .bk env' st' => .nx env' st'
      | r => r) (.nx env s) := by
  show R.toS _ _ = R.toS _ _
  congr 1
  funext k s
  cases k <;> rfl
theorem twos_loop {cl : Str → Fn} {ms : List Nat} {st : List O} : ∀ (m j n : Nat) (v : Int), j + m = 16 → m < n → ∃ v' : Int, mWh (mAndT (mT (m2 dLt (mVar 1) (mD (.p (.int 16))))) (mT (m2 dEq' (m2 dMod (mVar 0) (mC (.int 2))) (mC (.int 0))))) (t_twos_in_b0 cl) n ms [some (.p (.int v)), some (.p (.int (j : Nat)))] st = .nx [some (.p (.int v')), some (.p (.int ((j + twosN m v : Nat) : Int)))] st
  | m, j, 0, v, _, h => by omega
  | 0, j, n + 1, v, h, _ => by
    refine ⟨v, ?_⟩
    have hj : ¬ ((j : Int) < 16) := by omega
    rw [x_while]
    simp only [x_seq, x_then_nx, x_then_rt, x_then_ex, x_then_bk, x_then_ct, x_next, x_brk, x_cnt, x_toS_ok, x_toS_ex, x_bind_ok, x_bind_ex, x_set, x_rtn, x_rtnN, x_expr, x_raise, x_ifS, x_par, x_m2, x_call, x_cons, x_nil, x_C, x_D, x_var0, x_varS, x_T, x_toB, x_andT, x_orT, x_notT, x_andV, x_orV, x_notV, x_if, x_chain, x_neg, x_dneg, x_add, x_sub, x_lt, x_le, x_gt, x_ge, x_eq, x_ne, x_isN, x_tup, x_lst, x_N, x_isi, x_told, x_told_ok, x_isi_int_int, x_isi_int_bool, x_isi_int_str, x_isi_int_NoneType, x_isi_int_list, x_isi_int_tuple, x_isi_bool_int, x_isi_bool_bool, x_isi_bool_str, x_isi_bool_NoneType, x_isi_bool_list, x_isi_bool_tuple, x_isi_str_int, x_isi_str_bool, x_isi_str_str, x_isi_str_NoneType, x_isi_str_list, x_isi_str_tuple, x_isi_tuple_int, x_isi_tuple_bool, x_isi_tuple_str, x_isi_tuple_NoneType, x_isi_tuple_list, x_isi_tuple_tuple, x_isi_list_int, x_isi_list_bool, x_isi_list_str, x_isi_list_NoneType, x_isi_list_list, x_isi_list_tuple, x_run, x_fin_nx, x_fin_rt, x_fin_ex, x_div2, hj, decide_false, cond_false]
    rfl
  | m + 1, j, n + 1, v, h, hn => by
    have hj : (j : Int) < 16 := by omega
    rw [x_while]
    simp only [x_seq, x_then_nx, x_then_rt, x_then_ex, x_then_bk, x_then_ct, x_next, x_brk, x_cnt, x_toS_ok, x_toS_ex, x_bind_ok, x_bind_ex, x_set, x_rtn, x_rtnN, x_expr, x_raise, x_ifS, x_par, x_m2, x_call, x_cons, x_nil, x_C, x_D, x_var0, x_varS, x_T, x_toB, x_andT, x_orT, x_notT, x_andV, x_orV, x_notV, x_if, x_chain, x_neg, x_dneg, x_add, x_sub, x_lt, x_le, x_gt, x_ge, x_eq, x_ne, x_isN, x_tup, x_lst, x_N, x_isi, x_told, x_told_ok, x_isi_int_int, x_isi_int_bool, x_isi_int_str, x_isi_int_NoneType, x_isi_int_list, x_isi_int_tuple, x_isi_bool_int, x_isi_bool_bool, x_isi_bool_str, x_isi_bool_NoneType, x_isi_bool_list, x_isi_bool_tuple, x_isi_str_int, x_isi_str_bool, x_isi_str_str, x_isi_str_NoneType, x_isi_str_list, x_isi_str_tuple, x_isi_tuple_int, x_isi_tuple_bool, x_isi_tuple_str, x_isi_tuple_NoneType, x_isi_tuple_list, x_isi_tuple_tuple, x_isi_list_int, x_isi_list_bool, x_isi_list_str, x_isi_list_NoneType, x_isi_list_list, x_isi_list_tuple, x_run, x_fin_nx, x_fin_rt, x_fin_ex, x_div2, hj, decide_true, cond_true]
    rw [x_mod (by decide)]
    simp only [x_seq, x_then_nx, x_then_rt, x_then_ex, x_then_bk, x_then_ct, x_next, x_brk, x_cnt, x_toS_ok, x_toS_ex, x_bind_ok, x_bind_ex, x_set, x_rtn, x_rtnN, x_expr, x_raise, x_ifS, x_par, x_m2, x_call, x_cons, x_nil, x_C, x_D, x_var0, x_varS, x_T, x_toB, x_andT, x_orT, x_notT, x_andV, x_orV, x_notV, x_if, x_chain, x_neg, x_dneg, x_add, x_sub, x_lt, x_le, x_gt, x_ge, x_eq, x_ne, x_isN, x_tup, x_lst, x_N, x_isi, x_told, x_told_ok, x_isi_int_int, x_isi_int_bool, x_isi_int_str, x_isi_int_NoneType, x_isi_int_list, x_isi_int_tuple, x_isi_bool_int, x_isi_bool_bool, x_isi_bool_str, x_isi_bool_NoneType, x_isi_bool_list, x_isi_bool_tuple, x_isi_str_int, x_isi_str_bool, x_isi_str_str, x_isi_str_NoneType, x_isi_str_list, x_isi_str_tuple, x_isi_tuple_int, x_isi_tuple_bool, x_isi_tuple_str, x_isi_tuple_NoneType, x_isi_tuple_list, x_isi_tuple_tuple, x_isi_list_int, x_isi_list_bool, x_isi_list_str, x_isi_list_NoneType, x_isi_list_list, x_isi_list_tuple, x_run, x_fin_nx, x_fin_rt, x_fin_ex, x_div2]
    by_cases hv : v % 2 = 0
    · obtain ⟨v', e⟩ := twos_loop (cl := cl) (ms := ms) (st := st) m (j + 1) n (v / 2) (by omega) (by omega)
      refine ⟨v', ?_⟩
      unfold t_twos_in_b0 at e ⊢
      simp only [x_seq, x_then_nx, x_then_rt, x_then_ex, x_then_bk, x_then_ct, x_next, x_brk, x_cnt, x_toS_ok, x_toS_ex, x_bind_ok, x_bind_ex, x_set, x_rtn, x_rtnN, x_expr, x_raise, x_ifS, x_par, x_m2, x_call, x_cons, x_nil, x_C, x_D, x_var0, x_varS, x_T, x_toB, x_andT, x_orT, x_notT, x_andV, x_orV, x_notV, x_if, x_chain, x_neg, x_dneg, x_add, x_sub, x_lt, x_le, x_gt, x_ge, x_eq, x_ne, x_isN, x_tup, x_lst, x_N, x_isi, x_told, x_told_ok, x_isi_int_int, x_isi_int_bool, x_isi_int_str, x_isi_int_NoneType, x_isi_int_list, x_isi_int_tuple, x_isi_bool_int, x_isi_bool_bool, x_isi_bool_str, x_isi_bool_NoneType, x_isi_bool_list, x_isi_bool_tuple, x_isi_str_int, x_isi_str_bool, x_isi_str_str, x_isi_str_NoneType, x_isi_str_list, x_isi_str_tuple, x_isi_tuple_int, x_isi_tuple_bool, x_isi_tuple_str, x_isi_tuple_NoneType, x_isi_tuple_list, x_isi_tuple_tuple, x_isi_list_int, x_isi_list_bool, x_isi_list_str, x_isi_list_NoneType, x_isi_list_list, x_isi_list_tuple, x_run, x_fin_nx, x_fin_rt, x_fin_ex, x_div2, hv, decide_true, cond_true, List.set_cons_zero, List.set_cons_succ]
      have e1 : (j : Int) + 1 = ((j + 1 : Nat) : Int) := by omega
      rw [e1, e, twosN_pos hv]
      have e2 : j + 1 + twosN m (v / 2) = j + (twosN m (v / 2) + 1) := by omega
      rw [e2]
    · refine ⟨v, ?_⟩
      simp only [x_seq, x_then_nx, x_then_rt, x_then_ex, x_then_bk, x_then_ct, x_next, x_brk, x_cnt, x_toS_ok, x_toS_ex, x_bind_ok, x_bind_ex, x_set, x_rtn, x_rtnN, x_expr, x_raise, x_ifS, x_par, x_m2, x_call, x_cons, x_nil, x_C, x_D, x_var0, x_varS, x_T, x_toB, x_andT, x_orT, x_notT, x_andV, x_orV, x_notV, x_if, x_chain, x_neg, x_dneg, x_add, x_sub, x_lt, x_le, x_gt, x_ge, x_eq, x_ne, x_isN, x_tup, x_lst, x_N, x_isi, x_told, x_told_ok, x_isi_int_int, x_isi_int_bool, x_isi_int_str, x_isi_int_NoneType, x_isi_int_list, x_isi_int_tuple, x_isi_bool_int, x_isi_bool_bool, x_isi_bool_str, x_isi_bool_NoneType, x_isi_bool_list, x_isi_bool_tuple, x_isi_str_int, x_isi_str_bool, x_isi_str_str, x_isi_str_NoneType, x_isi_str_list, x_isi_str_tuple, x_isi_tuple_int, x_isi_tuple_bool, x_isi_tuple_str, x_isi_tuple_NoneType, x_isi_tuple_list, x_isi_tuple_tuple, x_isi_list_int, x_isi_list_bool, x_isi_list_str, x_isi_list_NoneType, x_isi_list_list, x_isi_list_tuple, x_run, x_fin_nx, x_fin_rt, x_fin_ex, x_div2, hv, decide_false, cond_false]
      rw [twosN_neg hv]
      rfl
def TwosIn (f : Fn) : Prop := ∀ (v : Int) (ms : List Nat) (st : List O), f [.p (.int v)] ms st = .ok (.p (.int (twosI v))) st
theorem twos_in_ok {cl : Str → Fn} : TwosIn (runFn 2 (t_twos_in cl)) := by
  intro v ms st
  rw [x_run]
  unfold t_twos_in
  obtain ⟨v', e⟩ := twos_loop (cl := cl) (ms := ms) (st := st) 16 0 1000 v rfl (by decide)
  simp only [List.map_cons, List.map_nil, List.length_cons, List.length_nil, List.cons_append, List.nil_append, x_seq, x_then_nx, x_then_rt, x_then_ex, x_then_bk, x_then_ct, x_next, x_brk, x_cnt, x_toS_ok, x_toS_ex, x_bind_ok, x_bind_ex, x_set, x_rtn, x_rtnN, x_expr, x_raise, x_ifS, x_par, x_m2, x_call, x_cons, x_nil, x_C, x_D, x_var0, x_varS, x_T, x_toB, x_andT, x_orT, x_notT, x_andV, x_orV, x_notV, x_if, x_chain, x_neg, x_dneg, x_add, x_sub, x_lt, x_le, x_gt, x_ge, x_eq, x_ne, x_isN, x_tup, x_lst, x_N, x_isi, x_told, x_told_ok, x_isi_int_int, x_isi_int_bool, x_isi_int_str, x_isi_int_NoneType, x_isi_int_list, x_isi_int_tuple, x_isi_bool_int, x_isi_bool_bool, x_isi_bool_str, x_isi_bool_NoneType, x_isi_bool_list, x_isi_bool_tuple, x_isi_str_int, x_isi_str_bool, x_isi_str_str, x_isi_str_NoneType, x_isi_str_list, x_isi_str_tuple, x_isi_tuple_int, x_isi_tuple_bool, x_isi_tuple_str, x_isi_tuple_NoneType, x_isi_tuple_list, x_isi_tuple_tuple, x_isi_list_int, x_isi_list_bool, x_isi_list_str, x_isi_list_NoneType, x_isi_list_list, x_isi_list_tuple, x_run, x_fin_nx, x_fin_rt, x_fin_ex, x_div2]
  have e0 : List.replicate (2 - (0 + 1)) (none : Option D) = [none] := rfl
  rw [e0]
  simp only [List.set_cons_zero, List.set_cons_succ]
  have e2 : ((0 : Nat) : Int) = 0 := rfl
  rw [e2] at e
  rw [e]
  simp only [x_seq, x_then_nx, x_then_rt, x_then_ex, x_then_bk, x_then_ct, x_next, x_brk, x_cnt, x_toS_ok, x_toS_ex, x_bind_ok, x_bind_ex, x_set, x_rtn, x_rtnN, x_expr, x_raise, x_ifS, x_par, x_m2, x_call, x_cons, x_nil, x_C, x_D, x_var0, x_varS, x_T, x_toB, x_andT, x_orT, x_notT, x_andV, x_orV, x_notV, x_if, x_chain, x_neg, x_dneg, x_add, x_sub, x_lt, x_le, x_gt, x_ge, x_eq, x_ne, x_isN, x_tup, x_lst, x_N, x_isi, x_told, x_told_ok, x_isi_int_int, x_isi_int_bool, x_isi_int_str, x_isi_int_NoneType, x_isi_int_list, x_isi_int_tuple, x_isi_bool_int, x_isi_bool_bool, x_isi_bool_str, x_isi_bool_NoneType, x_isi_bool_list, x_isi_bool_tuple, x_isi_str_int, x_isi_str_bool, x_isi_str_str, x_isi_str_NoneType, x_isi_str_list, x_isi_str_tuple, x_isi_tuple_int, x_isi_tuple_bool, x_isi_tuple_str, x_isi_tuple_NoneType, x_isi_tuple_list, x_isi_tuple_tuple, x_isi_list_int, x_isi_list_bool, x_isi_list_str, x_isi_list_NoneType, x_isi_list_list, x_isi_list_tuple, x_run, x_fin_nx, x_fin_rt, x_fin_ex, x_div2, Nat.zero_add]
  rfl
def t_twos (cl : Str → Fn) : MS := (mSeq (mExpr (mCall (cl "need_word") (mCons (mVar 0) mNil))) (mSeq (mRtn (mCall (cl "twos_in") (mCons (mVar 0) mNil))) mNext))
def Twos (f : Fn) : Prop := (∀ (v : Int) (ms : List Nat) (st : List O), 0 ≤ v → v ≤ 65535 → f [.p (.int v)] ms st = .ok (.p (.int (twosI v))) st) ∧ ∀ (d : PyData) (ms : List Nat) (st : List O), noDict d = true → isWd d = false → f [.p d] ms st = .ex "InvalidNumber" st
theorem need_yes {f : Fn} (h : NeedWord f) {v : Int} {ms : List Nat} {st : List O} (h0 : 0 ≤ v) (h1 : v ≤ 65535) : f [.p (.int v)] ms st = .ok (.p .none) st := by
  rw [h _ _ _ rfl, if_pos (show isWd (.int v) = true from isW_yes h0 h1)]
theorem need_no {f : Fn} (h : NeedWord f) {d : PyData} {ms : List Nat} {st : List O} (h0 : noDict d = true) (h1 : isWd d = false) : f [.p d] ms st = .ex "InvalidNumber" st := by
  rw [h _ _ _ h0, if_neg (by rw [h1]; decide)]
theorem twos_ok {cl : Str → Fn} (h1 : NeedWord (cl "need_word")) (h2 : TwosIn (cl "twos_in")) : Twos (runFn 1 (t_twos cl)) := by
  refine ⟨fun v ms st l h => ?_, fun d ms st hd hw => ?_⟩
  · rw [x_run]
    unfold t_twos
    simp only [List.map_cons, List.map_nil, List.length_cons, List.length_nil, List.cons_append, List.nil_append, x_seq, x_then_nx, x_then_rt, x_then_ex, x_then_bk, x_then_ct, x_next, x_brk, x_cnt, x_toS_ok, x_toS_ex, x_bind_ok, x_bind_ex, x_set, x_rtn, x_rtnN, x_expr, x_raise, x_ifS, x_par, x_m2, x_call, x_cons, x_nil, x_C, x_D, x_var0, x_varS, x_T, x_toB, x_andT, x_orT, x_notT, x_andV, x_orV, x_notV, x_if, x_chain, x_neg, x_dneg, x_add, x_sub, x_lt, x_le, x_gt, x_ge, x_eq, x_ne, x_isN, x_tup, x_lst, x_N, x_isi, x_told, x_told_ok, x_isi_int_int, x_isi_int_bool, x_isi_int_str, x_isi_int_NoneType, x_isi_int_list, x_isi_int_tuple, x_isi_bool_int, x_isi_bool_bool, x_isi_bool_str, x_isi_bool_NoneType, x_isi_bool_list, x_isi_bool_tuple, x_isi_str_int, x_isi_str_bool, x_isi_str_str, x_isi_str_NoneType, x_isi_str_list, x_isi_str_tuple, x_isi_tuple_int, x_isi_tuple_bool, x_isi_tuple_str, x_isi_tuple_NoneType, x_isi_tuple_list, x_isi_tuple_tuple, x_isi_list_int, x_isi_list_bool, x_isi_list_str, x_isi_list_NoneType, x_isi_list_list, x_isi_list_tuple, x_run, x_fin_nx, x_fin_rt, x_fin_ex, x_div2, need_yes h1 l h, h2 v]
  · rw [x_run]
    unfold t_twos
    simp only [List.map_cons, List.map_nil, List.length_cons, List.length_nil, List.cons_append, List.nil_append, x_seq, x_then_nx, x_then_rt, x_then_ex, x_then_bk, x_then_ct, x_next, x_brk, x_cnt, x_toS_ok, x_toS_ex, x_bind_ok, x_bind_ex, x_set, x_rtn, x_rtnN, x_expr, x_raise, x_ifS, x_par, x_m2, x_call, x_cons, x_nil, x_C, x_D, x_var0, x_varS, x_T, x_toB, x_andT, x_orT, x_notT, x_andV, x_orV, x_notV, x_if, x_chain, x_neg, x_dneg, x_add, x_sub, x_lt, x_le, x_gt, x_ge, x_eq, x_ne, x_isN, x_tup, x_lst, x_N, x_isi, x_told, x_told_ok, x_isi_int_int, x_isi_int_bool, x_isi_int_str, x_isi_int_NoneType, x_isi_int_list, x_isi_int_tuple, x_isi_bool_int, x_isi_bool_bool, x_isi_bool_str, x_isi_bool_NoneType, x_isi_bool_list, x_isi_bool_tuple, x_isi_str_int, x_isi_str_bool, x_isi_str_str, x_isi_str_NoneType, x_isi_str_list, x_isi_str_tuple, x_isi_tuple_int, x_isi_tuple_bool, x_isi_tuple_str, x_isi_tuple_NoneType, x_isi_tuple_list, x_isi_tuple_tuple, x_isi_list_int, x_isi_list_bool, x_isi_list_str, x_isi_list_NoneType, x_isi_list_list, x_isi_list_tuple, x_run, x_fin_nx, x_fin_rt, x_fin_ex, x_div2, need_no h1 hd hw]
def t_inverse_of_b0 (cl : Str → Fn) : MS := (mSeq (mSet 1 (m2 dMod (m2 (dMul false) (mVar 1) (m2 dSub (mC (.int 2)) (m2 (dMul false) (mVar 0) (mVar 1)))) (mD (.p (.int 65536))))) mNext)
def t_inverse_of (cl : Str → Fn) : MS := (mSeq (mSet 1 (mVar 0)) (mSeq (mFor (mR1 (mCons (mC (.int 4)) mNil)) (.nm 2) (t_inverse_of_b0 cl)) (mSeq (mRtn (mVar 1)) mNext)))
def invStep (a f : Int) : Int := f * (2 - a * f) % 65536
def invI (a : Int) : Int := invStep a (invStep a (invStep a (invStep a a)))
theorem mulOk_small {i j : Int} (hi : i.natAbs < 2 ^ 1000000) (hj : j.natAbs < 2 ^ 1000000) : mulOk i j = true := mulOk_of hi hj (by decide)
theorem inv_bound {a f : Int} : 0 ≤ invStep a f ∧ invStep a f < 65536 := ⟨Int.emod_nonneg _ (by decide), Int.emod_lt_of_pos _ (by decide)⟩
theorem inv_step {cl : Str → Fn} {a f : Int} {x : Option D} {ms : List Nat} {st : List O} (ha : 0 ≤ a) (ha2 : a < 65536) (hf : 0 ≤ f) (hf2 : f < 65536) : t_inverse_of_b0 cl ms [some (.p (.int a)), some (.p (.int f)), x] st = .nx [some (.p (.int a)), some (.p (.int (invStep a f))), x] st := by
  have m1 : mulOk a f = true := mulOk_of (n := 17) (m := 17) (by omega) (by omega) (by decide)
  have hp : a * f < 65536 * 65536 := by
    calc a * f ≤ 65536 * f := Int.mul_le_mul_of_nonneg_right (by omega) hf
      _ < 65536 * 65536 := by omega
  have hp0 : 0 ≤ a * f := Int.mul_nonneg ha hf
  have m2' : mulOk f (2 - a * f) = true := mulOk_of (n := 17) (m := 40) (by omega) (by omega) (by decide)
  unfold t_inverse_of_b0
  simp only [x_seq, x_then_nx, x_then_rt, x_then_ex, x_then_bk, x_then_ct, x_next, x_brk, x_cnt, x_toS_ok, x_toS_ex, x_bind_ok, x_bind_ex, x_set, x_rtn, x_rtnN, x_expr, x_raise, x_ifS, x_par, x_m2, x_call, x_cons, x_nil, x_C, x_D, x_var0, x_varS, x_T, x_toB, x_andT, x_orT, x_notT, x_andV, x_orV, x_notV, x_if, x_chain, x_neg, x_dneg, x_add, x_sub, x_lt, x_le, x_gt, x_ge, x_eq, x_ne, x_isN, x_tup, x_lst, x_N, x_isi, x_told, x_told_ok, x_isi_int_int, x_isi_int_bool, x_isi_int_str, x_isi_int_NoneType, x_isi_int_list, x_isi_int_tuple, x_isi_bool_int, x_isi_bool_bool, x_isi_bool_str, x_isi_bool_NoneType, x_isi_bool_list, x_isi_bool_tuple, x_isi_str_int, x_isi_str_bool, x_isi_str_str, x_isi_str_NoneType, x_isi_str_list, x_isi_str_tuple, x_isi_tuple_int, x_isi_tuple_bool, x_isi_tuple_str, x_isi_tuple_NoneType, x_isi_tuple_list, x_isi_tuple_tuple, x_isi_list_int, x_isi_list_bool, x_isi_list_str, x_isi_list_NoneType, x_isi_list_list, x_isi_list_tuple, x_run, x_fin_nx, x_fin_rt, x_fin_ex, x_div2, x_mul m1, x_mul m2', List.set_cons_zero, List.set_cons_succ]
  rw [x_mod (by decide)]
  simp only [x_seq, x_then_nx, x_then_rt, x_then_ex, x_then_bk, x_then_ct, x_next, x_brk, x_cnt, x_toS_ok, x_toS_ex, x_bind_ok, x_bind_ex, x_set, x_rtn, x_rtnN, x_expr, x_raise, x_ifS, x_par, x_m2, x_call, x_cons, x_nil, x_C, x_D, x_var0, x_varS, x_T, x_toB, x_andT, x_orT, x_notT, x_andV, x_orV, x_notV, x_if, x_chain, x_neg, x_dneg, x_add, x_sub, x_lt, x_le, x_gt, x_ge, x_eq, x_ne, x_isN, x_tup, x_lst, x_N, x_isi, x_told, x_told_ok, x_isi_int_int, x_isi_int_bool, x_isi_int_str, x_isi_int_NoneType, x_isi_int_list, x_isi_int_tuple, x_isi_bool_int, x_isi_bool_bool, x_isi_bool_str, x_isi_bool_NoneType, x_isi_bool_list, x_isi_bool_tuple, x_isi_str_int, x_isi_str_bool, x_isi_str_str, x_isi_str_NoneType, x_isi_str_list, x_isi_str_tuple, x_isi_tuple_int, x_isi_tuple_bool, x_isi_tuple_str, x_isi_tuple_NoneType, x_isi_tuple_list, x_isi_tuple_tuple, x_isi_list_int, x_isi_list_bool, x_isi_list_str, x_isi_list_NoneType, x_isi_list_list, x_isi_list_tuple, x_run, x_fin_nx, x_fin_rt, x_fin_ex, x_div2, List.set_cons_zero, List.set_cons_succ]
  rfl
def InverseOf (f : Fn) : Prop := ∀ (v : Int) (ms : List Nat) (st : List O), 0 ≤ v → v < 65536 → f [.p (.int v)] ms st = .ok (.p (.int (invI v))) st
theorem inverse_of_ok {cl : Str → Fn} : InverseOf (runFn 3 (t_inverse_of cl)) := by
  intro v ms st h0 h1
  rw [x_run]
  unfold t_inverse_of
  have e0 : List.replicate (3 - (0 + 1)) (none : Option D) = [none, none] := rfl
  have er : mR1 (mCons (mC (.int 4)) mNil) ms [some (.p (.int v)), some (.p (.int v)), none] st = .ok [.p (.int 0), .p (.int 1), .p (.int 2), .p (.int 3)] st := rfl
  simp only [List.map_cons, List.map_nil, List.length_cons, List.length_nil, List.cons_append, List.nil_append, x_seq, x_then_nx, x_then_rt, x_then_ex, x_then_bk, x_then_ct, x_next, x_brk, x_cnt, x_toS_ok, x_toS_ex, x_bind_ok, x_bind_ex, x_set, x_rtn, x_rtnN, x_expr, x_raise, x_ifS, x_par, x_m2, x_call, x_cons, x_nil, x_C, x_D, x_var0, x_varS, x_T, x_toB, x_andT, x_orT, x_notT, x_andV, x_orV, x_notV, x_if, x_chain, x_neg, x_dneg, x_add, x_sub, x_lt, x_le, x_gt, x_ge, x_eq, x_ne, x_isN, x_tup, x_lst, x_N, x_isi, x_told, x_told_ok, x_isi_int_int, x_isi_int_bool, x_isi_int_str, x_isi_int_NoneType, x_isi_int_list, x_isi_int_tuple, x_isi_bool_int, x_isi_bool_bool, x_isi_bool_str, x_isi_bool_NoneType, x_isi_bool_list, x_isi_bool_tuple, x_isi_str_int, x_isi_str_bool, x_isi_str_str, x_isi_str_NoneType, x_isi_str_list, x_isi_str_tuple, x_isi_tuple_int, x_isi_tuple_bool, x_isi_tuple_str, x_isi_tuple_NoneType, x_isi_tuple_list, x_isi_tuple_tuple, x_isi_list_int, x_isi_list_bool, x_isi_list_str, x_isi_list_NoneType, x_isi_list_list, x_isi_list_tuple, x_run, x_fin_nx, x_fin_rt, x_fin_ex, x_div2, e0, List.set_cons_zero, List.set_cons_succ, mFor, sB, er, mForL, asg]
  rw [inv_step h0 h1 h0 h1]
  simp only [List.set_cons_zero, List.set_cons_succ]
  rw [inv_step h0 h1 inv_bound.1 inv_bound.2]
  simp only [List.set_cons_zero, List.set_cons_succ]
  rw [inv_step h0 h1 inv_bound.1 inv_bound.2]
  simp only [List.set_cons_zero, List.set_cons_succ]
  rw [inv_step h0 h1 inv_bound.1 inv_bound.2]
  simp only [x_seq, x_then_nx, x_then_rt, x_then_ex, x_then_bk, x_then_ct, x_next, x_brk, x_cnt, x_toS_ok, x_toS_ex, x_bind_ok, x_bind_ex, x_set, x_rtn, x_rtnN, x_expr, x_raise, x_ifS, x_par, x_m2, x_call, x_cons, x_nil, x_C, x_D, x_var0, x_varS, x_T, x_toB, x_andT, x_orT, x_notT, x_andV, x_orV, x_notV, x_if, x_chain, x_neg, x_dneg, x_add, x_sub, x_lt, x_le, x_gt, x_ge, x_eq, x_ne, x_isN, x_tup, x_lst, x_N, x_isi, x_told, x_told_ok, x_isi_int_int, x_isi_int_bool, x_isi_int_str, x_isi_int_NoneType, x_isi_int_list, x_isi_int_tuple, x_isi_bool_int, x_isi_bool_bool, x_isi_bool_str, x_isi_bool_NoneType, x_isi_bool_list, x_isi_bool_tuple, x_isi_str_int, x_isi_str_bool, x_isi_str_str, x_isi_str_NoneType, x_isi_str_list, x_isi_str_tuple, x_isi_tuple_int, x_isi_tuple_bool, x_isi_tuple_str, x_isi_tuple_NoneType, x_isi_tuple_list, x_isi_tuple_tuple, x_isi_list_int, x_isi_list_bool, x_isi_list_str, x_isi_list_NoneType, x_isi_list_list, x_isi_list_tuple, x_run, x_fin_nx, x_fin_rt, x_fin_ex, x_div2]
  rfl
def t_inverse (cl : Str → Fn) : MS := (mSeq (mExpr (mCall (cl "need_word") (mCons (mVar 0) mNil))) (mSeq (mIfS (mT (m2 dEq' (m2 dMod (mVar 0) (mC (.int 2))) (mC (.int 0)))) (mSeq (mRaise "NotOdd") mNext) mNext) (mSeq (mRtn (mCall (cl "inverse_of") (mCons (mVar 0) mNil))) mNext)))
structure Inverse (f : Fn) : Prop where
  odd : ∀ (v : Int) (ms : List Nat) (st : List O), 0 ≤ v → v ≤ 65535 → v % 2 = 1 → f [.p (.int v)] ms st = .ok (.p (.int (invI v))) st
  even : ∀ (v : Int) (ms : List Nat) (st : List O), 0 ≤ v → v ≤ 65535 → v % 2 = 0 → f [.p (.int v)] ms st = .ex "NotOdd" st
  bad : ∀ (d : PyData) (ms : List Nat) (st : List O), noDict d = true → isWd d = false → f [.p d] ms st = .ex "InvalidNumber" st
theorem inverse_ok {cl : Str → Fn} (h1 : NeedWord (cl "need_word")) (h2 : InverseOf (cl "inverse_of")) : Inverse (runFn 1 (t_inverse cl)) := by
  refine ⟨fun v ms st l h o => ?_, fun v ms st l h o => ?_, fun d ms st hd hw => ?_⟩
  · rw [x_run]
    unfold t_inverse
    simp only [List.map_cons, List.map_nil, List.length_cons, List.length_nil, List.cons_append, List.nil_append, x_seq, x_then_nx, x_then_rt, x_then_ex, x_then_bk, x_then_ct, x_next, x_brk, x_cnt, x_toS_ok, x_toS_ex, x_bind_ok, x_bind_ex, x_set, x_rtn, x_rtnN, x_expr, x_raise, x_ifS, x_par, x_m2, x_call, x_cons, x_nil, x_C, x_D, x_var0, x_varS, x_T, x_toB, x_andT, x_orT, x_notT, x_andV, x_orV, x_notV, x_if, x_chain, x_neg, x_dneg, x_add, x_sub, x_lt, x_le, x_gt, x_ge, x_eq, x_ne, x_isN, x_tup, x_lst, x_N, x_isi, x_told, x_told_ok, x_isi_int_int, x_isi_int_bool, x_isi_int_str, x_isi_int_NoneType, x_isi_int_list, x_isi_int_tuple, x_isi_bool_int, x_isi_bool_bool, x_isi_bool_str, x_isi_bool_NoneType, x_isi_bool_list, x_isi_bool_tuple, x_isi_str_int, x_isi_str_bool, x_isi_str_str, x_isi_str_NoneType, x_isi_str_list, x_isi_str_tuple, x_isi_tuple_int, x_isi_tuple_bool, x_isi_tuple_str, x_isi_tuple_NoneType, x_isi_tuple_list, x_isi_tuple_tuple, x_isi_list_int, x_isi_list_bool, x_isi_list_str, x_isi_list_NoneType, x_isi_list_list, x_isi_list_tuple, x_run, x_fin_nx, x_fin_rt, x_fin_ex, x_div2, need_yes h1 l h, h2 v _ _ l (by omega)]
    rw [x_mod (by decide)]
    have o' : ¬ (v % 2 = 0) := by omega
    simp only [x_seq, x_then_nx, x_then_rt, x_then_ex, x_then_bk, x_then_ct, x_next, x_brk, x_cnt, x_toS_ok, x_toS_ex, x_bind_ok, x_bind_ex, x_set, x_rtn, x_rtnN, x_expr, x_raise, x_ifS, x_par, x_m2, x_call, x_cons, x_nil, x_C, x_D, x_var0, x_varS, x_T, x_toB, x_andT, x_orT, x_notT, x_andV, x_orV, x_notV, x_if, x_chain, x_neg, x_dneg, x_add, x_sub, x_lt, x_le, x_gt, x_ge, x_eq, x_ne, x_isN, x_tup, x_lst, x_N, x_isi, x_told, x_told_ok, x_isi_int_int, x_isi_int_bool, x_isi_int_str, x_isi_int_NoneType, x_isi_int_list, x_isi_int_tuple, x_isi_bool_int, x_isi_bool_bool, x_isi_bool_str, x_isi_bool_NoneType, x_isi_bool_list, x_isi_bool_tuple, x_isi_str_int, x_isi_str_bool, x_isi_str_str, x_isi_str_NoneType, x_isi_str_list, x_isi_str_tuple, x_isi_tuple_int, x_isi_tuple_bool, x_isi_tuple_str, x_isi_tuple_NoneType, x_isi_tuple_list, x_isi_tuple_tuple, x_isi_list_int, x_isi_list_bool, x_isi_list_str, x_isi_list_NoneType, x_isi_list_list, x_isi_list_tuple, x_run, x_fin_nx, x_fin_rt, x_fin_ex, x_div2, o', decide_false, cond_false, h2 v _ _ l (by omega)]
  · rw [x_run]
    unfold t_inverse
    simp only [List.map_cons, List.map_nil, List.length_cons, List.length_nil, List.cons_append, List.nil_append, x_seq, x_then_nx, x_then_rt, x_then_ex, x_then_bk, x_then_ct, x_next, x_brk, x_cnt, x_toS_ok, x_toS_ex, x_bind_ok, x_bind_ex, x_set, x_rtn, x_rtnN, x_expr, x_raise, x_ifS, x_par, x_m2, x_call, x_cons, x_nil, x_C, x_D, x_var0, x_varS, x_T, x_toB, x_andT, x_orT, x_notT, x_andV, x_orV, x_notV, x_if, x_chain, x_neg, x_dneg, x_add, x_sub, x_lt, x_le, x_gt, x_ge, x_eq, x_ne, x_isN, x_tup, x_lst, x_N, x_isi, x_told, x_told_ok, x_isi_int_int, x_isi_int_bool, x_isi_int_str, x_isi_int_NoneType, x_isi_int_list, x_isi_int_tuple, x_isi_bool_int, x_isi_bool_bool, x_isi_bool_str, x_isi_bool_NoneType, x_isi_bool_list, x_isi_bool_tuple, x_isi_str_int, x_isi_str_bool, x_isi_str_str, x_isi_str_NoneType, x_isi_str_list, x_isi_str_tuple, x_isi_tuple_int, x_isi_tuple_bool, x_isi_tuple_str, x_isi_tuple_NoneType, x_isi_tuple_list, x_isi_tuple_tuple, x_isi_list_int, x_isi_list_bool, x_isi_list_str, x_isi_list_NoneType, x_isi_list_list, x_isi_list_tuple, x_run, x_fin_nx, x_fin_rt, x_fin_ex, x_div2, need_yes h1 l h]
    rw [x_mod (by decide)]
    simp only [x_seq, x_then_nx, x_then_rt, x_then_ex, x_then_bk, x_then_ct, x_next, x_brk, x_cnt, x_toS_ok, x_toS_ex, x_bind_ok, x_bind_ex, x_set, x_rtn, x_rtnN, x_expr, x_raise, x_ifS, x_par, x_m2, x_call, x_cons, x_nil, x_C, x_D, x_var0, x_varS, x_T, x_toB, x_andT, x_orT, x_notT, x_andV, x_orV, x_notV, x_if, x_chain, x_neg, x_dneg, x_add, x_sub, x_lt, x_le, x_gt, x_ge, x_eq, x_ne, x_isN, x_tup, x_lst, x_N, x_isi, x_told, x_told_ok, x_isi_int_int, x_isi_int_bool, x_isi_int_str, x_isi_int_NoneType, x_isi_int_list, x_isi_int_tuple, x_isi_bool_int, x_isi_bool_bool, x_isi_bool_str, x_isi_bool_NoneType, x_isi_bool_list, x_isi_bool_tuple, x_isi_str_int, x_isi_str_bool, x_isi_str_str, x_isi_str_NoneType, x_isi_str_list, x_isi_str_tuple, x_isi_tuple_int, x_isi_tuple_bool, x_isi_tuple_str, x_isi_tuple_NoneType, x_isi_tuple_list, x_isi_tuple_tuple, x_isi_list_int, x_isi_list_bool, x_isi_list_str, x_isi_list_NoneType, x_isi_list_list, x_isi_list_tuple, x_run, x_fin_nx, x_fin_rt, x_fin_ex, x_div2, o, decide_true, cond_true]
  · rw [x_run]
    unfold t_inverse
    simp only [List.map_cons, List.map_nil, List.length_cons, List.length_nil, List.cons_append, List.nil_append, x_seq, x_then_nx, x_then_rt, x_then_ex, x_then_bk, x_then_ct, x_next, x_brk, x_cnt, x_toS_ok, x_toS_ex, x_bind_ok, x_bind_ex, x_set, x_rtn, x_rtnN, x_expr, x_raise, x_ifS, x_par, x_m2, x_call, x_cons, x_nil, x_C, x_D, x_var0, x_varS, x_T, x_toB, x_andT, x_orT, x_notT, x_andV, x_orV, x_notV, x_if, x_chain, x_neg, x_dneg, x_add, x_sub, x_lt, x_le, x_gt, x_ge, x_eq, x_ne, x_isN, x_tup, x_lst, x_N, x_isi, x_told, x_told_ok, x_isi_int_int, x_isi_int_bool, x_isi_int_str, x_isi_int_NoneType, x_isi_int_list, x_isi_int_tuple, x_isi_bool_int, x_isi_bool_bool, x_isi_bool_str, x_isi_bool_NoneType, x_isi_bool_list, x_isi_bool_tuple, x_isi_str_int, x_isi_str_bool, x_isi_str_str, x_isi_str_NoneType, x_isi_str_list, x_isi_str_tuple, x_isi_tuple_int, x_isi_tuple_bool, x_isi_tuple_str, x_isi_tuple_NoneType, x_isi_tuple_list, x_isi_tuple_tuple, x_isi_list_int, x_isi_list_bool, x_isi_list_str, x_isi_list_NoneType, x_isi_list_list, x_isi_list_tuple, x_run, x_fin_nx, x_fin_rt, x_fin_ex, x_div2, need_no h1 hd hw]
end Fk

set_option maxRecDepth 1000000
set_option maxHeartbeats 1000000
namespace Fk
open PySem PySem.Spec L2
set_option autoImplicit false
/-! ### the dice of a law's round -/
/-- a die at place i of the store, rolled at most n times; its number has at most L bits -/
def Die (L i n : Nat) (st : List O) : Prop := ∃ a b : Int, st[i]? = some (die a b) ∧ a.natAbs < 2 ^ L ∧ 0 ≤ b ∧ b ≤ n
/-- two stores that part at place i alone -/
structure But (i : Nat) (st st' : List O) : Prop where
  len : st'.length = st.length
  get : ∀ j, j ≠ i → st'[j]? = st[j]?
theorem But.refl {i : Nat} {st : List O} : But i st st := ⟨rfl, fun _ _ => rfl⟩
theorem But.trans {i : Nat} {a b c : List O} (h : But i a b) (h' : But i b c) : But i a c := ⟨h'.len.trans h.len, fun j hj => (h'.get j hj).trans (h.get j hj)⟩
theorem Die.more {L i n m : Nat} {st : List O} (h : Die L i n st) (hm : n ≤ m) : Die L i m st := by
  obtain ⟨a, b, h1, h2, h3, h4⟩ := h
  exact ⟨a, b, h1, h2, h3, by omega⟩
def Roll (f : Fn) : Prop := ∀ (L i n : Nat) (m : Int) (ms : List Nat) (st : List O), 60 ≤ L → L ≤ 2000000 → n ≤ 1000000000 → 0 < m → m < 2 ^ 60 → Die L i n st →
  ∃ (v : Int) (st' : List O), f [.r i, .p (.int m)] ms st = .ok (.p (.int v)) st' ∧ 0 ≤ v ∧ v < m ∧ Die L i (n + 1) st' ∧ But i st st'
theorem roll_is {cl : Str → Fn} (hcl : cl "_law_drawn" = runFn 3 tDrawn) : Roll (runFn 3 (tRoll cl)) := by
  intro L i n m ms st h1 h2 h3 h4 h5 h6
  obtain ⟨a, b, e, ha, hb, hb2⟩ := h6
  have hi : i < st.length := (List.getElem?_eq_some_iff.mp e).1
  have hL : (b + 2).natAbs < 2 ^ L := Nat.lt_of_lt_of_le (by omega : (b + 2).natAbs < 2 ^ 60) (Nat.pow_le_pow_right (by decide) h1)
  have hm : m.natAbs.log2 < 9000 := Nat.lt_of_le_of_lt (log2_le (L := 60) (by omega)) (by decide)
  obtain ⟨v, a', b', q, v0, v1, q1, q2, q3⟩ := roll_ok hcl (L := L) (by omega) e ha hb hL h4 hm ms
  exact ⟨v, _, q, v0, v1, ⟨a', b', List.getElem?_set_self hi, q1, q2, by omega⟩, ⟨List.length_set, fun j hj => List.getElem?_set_ne (Ne.symm hj)⟩⟩
def t__law_word (cl : Str → Fn) : MS := (mSeq (mSet 1 (mCall (cl "_law_roll") (mCons (mVar 0) (mCons (mC (.int 12)) mNil)))) (mSeq (mIfS (mT (m2 dEq' (mVar 1) (mC (.int 11)))) (mSeq (mRtn (mCall (cl "_law_roll") (mCons (mVar 0) (mCons (mC (.int 65536)) mNil)))) mNext) mNext) (mSeq (mRtn (m2 dIx (mLst false (mCons (mC (.int 0)) (mCons (mC (.int 1)) (mCons (mC (.int 2)) (mCons (mC (.int 3)) (mCons (mC (.int 4)) (mCons (mC (.int 6)) (mCons (mC (.int 65535)) (mCons (mC (.int 32768)) (mCons (mC (.int 256)) (mCons (mC (.int 65534)) (mCons (mC (.int 5)) mNil)))))))))))) (mVar 1))) mNext)))
def LawWord (f : Fn) : Prop := ∀ (L i n : Nat) (ms : List Nat) (st : List O), 60 ≤ L → L ≤ 2000000 → n ≤ 999999999 → Die L i n st →
  ∃ (v : Int) (st' : List O), f [.r i] ms st = .ok (.p (.int v)) st' ∧ 0 ≤ v ∧ v ≤ 65535 ∧ Die L i (n + 2) st' ∧ But i st st'
theorem law_word_ok {cl : Str → Fn} (h : Roll (cl "_law_roll")) : LawWord (runFn 2 (t__law_word cl)) := by
  intro L i n ms st h1 h2 h3 h6
  obtain ⟨v, st1, e1, v0, v1, d1, s1⟩ := h L i n 12 ms st h1 h2 (by omega) (by decide) (by decide) h6
  rw [x_run]
  unfold t__law_word
  have e0 : List.replicate (2 - (0 + 1)) (none : Option D) = [none] := rfl
  simp only [List.map_cons, List.map_nil, List.length_cons, List.length_nil, List.cons_append, List.nil_append, x_seq, x_then_nx, x_then_rt, x_then_ex, x_then_bk, x_then_ct, x_next, x_brk, x_cnt, x_toS_ok, x_toS_ex, x_bind_ok, x_bind_ex, x_set, x_rtn, x_rtnN, x_expr, x_raise, x_ifS, x_par, x_m2, x_call, x_cons, x_nil, x_C, x_D, x_var0, x_varS, x_T, x_toB, x_andT, x_orT, x_notT, x_andV, x_orV, x_notV, x_if, x_chain, x_neg, x_dneg, x_add, x_sub, x_lt, x_le, x_gt, x_ge, x_eq, x_ne, x_isN, x_tup, x_lst, x_N, x_isi, x_told, x_told_ok, x_isi_int_int, x_isi_int_bool, x_isi_int_str, x_isi_int_NoneType, x_isi_int_list, x_isi_int_tuple, x_isi_bool_int, x_isi_bool_bool, x_isi_bool_str, x_isi_bool_NoneType, x_isi_bool_list, x_isi_bool_tuple, x_isi_str_int, x_isi_str_bool, x_isi_str_str, x_isi_str_NoneType, x_isi_str_list, x_isi_str_tuple, x_isi_tuple_int, x_isi_tuple_bool, x_isi_tuple_str, x_isi_tuple_NoneType, x_isi_tuple_list, x_isi_tuple_tuple, x_isi_list_int, x_isi_list_bool, x_isi_list_str, x_isi_list_NoneType, x_isi_list_list, x_isi_list_tuple, x_run, x_fin_nx, x_fin_rt, x_fin_ex, x_div2, e0, e1, List.set_cons_zero, List.set_cons_succ]
  by_cases hv : v = 11
  · obtain ⟨u, st2, e2, u0, u1, d2, s2⟩ := h L i (n + 1) 65536 ms st1 h1 h2 (by omega) (by decide) (by decide) d1
    refine ⟨u, st2, ?_, u0, by omega, d2, s1.trans s2⟩
    simp only [x_seq, x_then_nx, x_then_rt, x_then_ex, x_then_bk, x_then_ct, x_next, x_brk, x_cnt, x_toS_ok, x_toS_ex, x_bind_ok, x_bind_ex, x_set, x_rtn, x_rtnN, x_expr, x_raise, x_ifS, x_par, x_m2, x_call, x_cons, x_nil, x_C, x_D, x_var0, x_varS, x_T, x_toB, x_andT, x_orT, x_notT, x_andV, x_orV, x_notV, x_if, x_chain, x_neg, x_dneg, x_add, x_sub, x_lt, x_le, x_gt, x_ge, x_eq, x_ne, x_isN, x_tup, x_lst, x_N, x_isi, x_told, x_told_ok, x_isi_int_int, x_isi_int_bool, x_isi_int_str, x_isi_int_NoneType, x_isi_int_list, x_isi_int_tuple, x_isi_bool_int, x_isi_bool_bool, x_isi_bool_str, x_isi_bool_NoneType, x_isi_bool_list, x_isi_bool_tuple, x_isi_str_int, x_isi_str_bool, x_isi_str_str, x_isi_str_NoneType, x_isi_str_list, x_isi_str_tuple, x_isi_tuple_int, x_isi_tuple_bool, x_isi_tuple_str, x_isi_tuple_NoneType, x_isi_tuple_list, x_isi_tuple_tuple, x_isi_list_int, x_isi_list_bool, x_isi_list_str, x_isi_list_NoneType, x_isi_list_list, x_isi_list_tuple, x_run, x_fin_nx, x_fin_rt, x_fin_ex, x_div2, hv, decide_true, cond_true, e2]
  · simp only [x_seq, x_then_nx, x_then_rt, x_then_ex, x_then_bk, x_then_ct, x_next, x_brk, x_cnt, x_toS_ok, x_toS_ex, x_bind_ok, x_bind_ex, x_set, x_rtn, x_rtnN, x_expr, x_raise, x_ifS, x_par, x_m2, x_call, x_cons, x_nil, x_C, x_D, x_var0, x_varS, x_T, x_toB, x_andT, x_orT, x_notT, x_andV, x_orV, x_notV, x_if, x_chain, x_neg, x_dneg, x_add, x_sub, x_lt, x_le, x_gt, x_ge, x_eq, x_ne, x_isN, x_tup, x_lst, x_N, x_isi, x_told, x_told_ok, x_isi_int_int, x_isi_int_bool, x_isi_int_str, x_isi_int_NoneType, x_isi_int_list, x_isi_int_tuple, x_isi_bool_int, x_isi_bool_bool, x_isi_bool_str, x_isi_bool_NoneType, x_isi_bool_list, x_isi_bool_tuple, x_isi_str_int, x_isi_str_bool, x_isi_str_str, x_isi_str_NoneType, x_isi_str_list, x_isi_str_tuple, x_isi_tuple_int, x_isi_tuple_bool, x_isi_tuple_str, x_isi_tuple_NoneType, x_isi_tuple_list, x_isi_tuple_tuple, x_isi_list_int, x_isi_list_bool, x_isi_list_str, x_isi_list_NoneType, x_isi_list_list, x_isi_list_tuple, x_run, x_fin_nx, x_fin_rt, x_fin_ex, x_div2, hv, decide_false, cond_false]
    have key : ∀ w : Int, 0 ≤ w → w < 11 → ∃ u : Int, dIx (.p (.list [.int 0, .int 1, .int 2, .int 3, .int 4, .int 6, .int 65535, .int 32768, .int 256, .int 65534, .int 5])) (.p (.int w)) st1 = .ok (.p (.int u)) st1 ∧ 0 ≤ u ∧ u ≤ 65535 := by
      intro w w0 w1
      have hw : w = 0 ∨ w = 1 ∨ w = 2 ∨ w = 3 ∨ w = 4 ∨ w = 5 ∨ w = 6 ∨ w = 7 ∨ w = 8 ∨ w = 9 ∨ w = 10 := by omega
      rcases hw with rfl | rfl | rfl | rfl | rfl | rfl | rfl | rfl | rfl | rfl | rfl
      all_goals exact ⟨_, rfl, by decide, by decide⟩
    obtain ⟨u, eu, u0, u1⟩ := key v v0 (by omega)
    refine ⟨u, st1, ?_, u0, u1, d1.more (by omega), s1⟩
    show RS.fin (RS.then (R.toS ((dIx (.p (.list [.int 0, .int 1, .int 2, .int 3, .int 4, .int 6, .int 65535, .int 32768, .int 256, .int 65534, .int 5])) (.p (.int v)) st1)) fun d s => .rt d s) _) = _
    rw [eu]
    rfl
end Fk

set_option maxRecDepth 1000000
set_option maxHeartbeats 1000000
namespace Fk
open PySem PySem.Spec L2
set_option autoImplicit false
/-! ### data: lengths, items, comparisons, comprehensions over what never changes -/
section
variable {ms : List Nat} {env : En} {st st' : List O} {d : D} {a b c : PyData} {l : List PyData}
theorem x_len_tup : fLen [.p (.tuple l)] st = .ok (.p (.int l.length)) st := by
  show R.ok (D.p (.int ((asP l).length : Nat))) st = _
  unfold asP
  rw [List.length_map]
theorem x_len_list : fLen [.p (.list l)] st = .ok (.p (.int l.length)) st := by
  show R.ok (D.p (.int ((asP l).length : Nat))) st = _
  unfold asP
  rw [List.length_map]
theorem atI_map {α β : Type} (f : α → β) (xs : List α) (i : Int) : atI (xs.map f) i = (atI xs i).map f := by
  unfold atI
  rw [List.length_map]
  cases ixN xs.length i with
  | none => rfl
  | some j => simp
theorem x_ix_tup {i : Int} : dIx (.p (.tuple l)) (.p (.int i)) st = match atI l i with
    | some x => .ok (.p x) st
    | none => .bad := by
  show (match atI (asP l) i with
    | some d => R.ok d st
    | none => .bad) = _
  unfold asP
  rw [atI_map]
  cases atI l i <;> rfl
theorem x_ix_list {i : Int} : dIx (.p (.list l)) (.p (.int i)) st = match atI l i with
    | some x => .ok (.p x) st
    | none => .bad := by
  show (match atI (asP l) i with
    | some d => R.ok d st
    | none => .bad) = _
  unfold asP
  rw [atI_map]
  cases atI l i <;> rfl
theorem atI_lt {α : Type} {xs : List α} {j : Nat} {x : α} (h : xs[j]? = some x) : atI xs (j : Int) = some x := atI_nat h
theorem x_ixt0 : dIx (.p (.tuple (a :: l))) (.p (.int 0)) st = .ok (.p a) st := by
  rw [x_ix_tup, show (0 : Int) = ((0 : Nat) : Int) from rfl, atI_lt (j := 0) (x := a) rfl]
theorem x_ixt1 : dIx (.p (.tuple (a :: b :: l))) (.p (.int 1)) st = .ok (.p b) st := by
  rw [x_ix_tup, show (1 : Int) = ((1 : Nat) : Int) from rfl, atI_lt (j := 1) (x := b) rfl]
theorem x_ixt2 : dIx (.p (.tuple (a :: b :: c :: l))) (.p (.int 2)) st = .ok (.p c) st := by
  rw [x_ix_tup, show (2 : Int) = ((2 : Nat) : Int) from rfl, atI_lt (j := 2) (x := c) rfl]
theorem x_ixt3 {e : PyData} : dIx (.p (.tuple (a :: b :: c :: e :: l))) (.p (.int 3)) st = .ok (.p e) st := by
  rw [x_ix_tup, show (3 : Int) = ((3 : Nat) : Int) from rfl, atI_lt (j := 3) (x := e) rfl]
/-! ### what may be compared -/
theorem depth_mem {x : PyData} : ∀ {l : List PyData}, x ∈ l → x.depth ≤ PyData.depthAll l
  | y :: l, h => by
    rw [PyData.depthAll]
    rcases List.mem_cons.mp h with rfl | h
    · exact Nat.le_max_left _ _
    · exact Nat.le_trans (depth_mem h) (Nat.le_max_right _ _)
theorem shaped_tup {x : PyData} (h : SeqAt.shaped (.tuple l) = true) (hx : x ∈ l) : SeqAt.shaped x = true := by
  unfold SeqAt.shaped at h ⊢
  rw [Bool.and_eq_true, decide_eq_true_eq] at h
  rw [Bool.and_eq_true, decide_eq_true_eq]
  obtain ⟨h1, h2⟩ := h
  rw [PyData.canLay0] at h1
  rw [PyData.depth] at h2
  have h3 := depth_mem hx
  refine ⟨?_, by omega⟩
  clear h2 h3
  induction l with
  | nil => cases hx
  | cons y l ih =>
    rw [PyData.canLayAll0, Bool.and_eq_true] at h1
    rcases List.mem_cons.mp hx with rfl | hx
    · exact h1.1
    · exact ih hx h1.2
theorem shaped_tup_of (h : ∀ x ∈ l, SeqAt.shaped x = true) (hd : ∀ x ∈ l, x.depth ≤ 63) : SeqAt.shaped (.tuple l) = true := by
  unfold SeqAt.shaped
  rw [Bool.and_eq_true, decide_eq_true_eq, PyData.canLay0, PyData.depth]
  constructor
  · clear hd
    induction l with
    | nil => rfl
    | cons y l ih =>
      rw [PyData.canLayAll0, Bool.and_eq_true]
      exact ⟨SeqAt.canLay_of_shaped (h y List.mem_cons_self), ih fun x hx => h x (List.mem_cons_of_mem _ hx)⟩
  · clear h
    have : PyData.depthAll l ≤ 63 := by
      induction l with
      | nil => exact Nat.zero_le _
      | cons y l ih =>
        rw [PyData.depthAll]
        exact Nat.max_le.mpr ⟨hd y List.mem_cons_self, ih fun x hx => hd x (List.mem_cons_of_mem _ hx)⟩
    omega
theorem shaped_int {i : Int} : SeqAt.shaped (.int i) = true := rfl
theorem shaped_bool {i : Bool} : SeqAt.shaped (.bool i) = true := rfl
theorem shaped_none : SeqAt.shaped .none = true := rfl
def eqS (x : PyData) (s : Str) : Bool := match x with
  | .str t => t == s
  | _ => false
theorem x_eq_str {s : Str} (h : SeqAt.shaped a = true) (hs : SeqAt.shaped (.str s) = true) : dEq' (.p a) (.p (.str s)) st = .ok (.p (.bool (eqS a s))) st := by
  show (if SeqAt.shaped a = true ∧ SeqAt.shaped (.str s) = true then R.ok (D.p (.bool (PyData.eqv a (.str s)))) st else .bad) = _
  rw [if_pos ⟨h, hs⟩]
  cases a <;> rfl
theorem x_dEq (h : SeqAt.shaped a = true) (hb : SeqAt.shaped b = true) : dEq' (.p a) (.p b) st = .ok (.p (.bool (PyData.eqv a b))) st := by
  have e : ∀ z : D, (∀ q, z ≠ .p (.dict q)) → dEq' (.p a) z st = dEq (.p a) z st := fun z hz => by
    unfold dEq'
    split
    · exact absurd rfl (hz _)
    · rfl
  rw [e _ fun q z => by cases z; cases hb]
  show (if SeqAt.shaped a = true ∧ SeqAt.shaped b = true then R.ok (D.p (.bool (PyData.eqv a b))) st else .bad) = _
  rw [if_pos ⟨h, hb⟩]
theorem x_dNe (h : SeqAt.shaped a = true) (hb : SeqAt.shaped b = true) : dNe' (.p a) (.p b) st = .ok (.p (.bool (!PyData.eqv a b))) st := by
  have e : ∀ z : D, (∀ q, z ≠ .p (.dict q)) → dNe' (.p a) z st = dNe (.p a) z st := fun z hz => by
    unfold dNe'
    split
    · exact absurd rfl (hz _)
    · rfl
  rw [e _ fun q z => by cases z; cases hb]
  show (if SeqAt.shaped a = true ∧ SeqAt.shaped b = true then R.ok (D.p (.bool (!PyData.eqv a b))) st else .bad) = _
  rw [if_pos ⟨h, hb⟩]
theorem x_dNe_self (h : SeqAt.shaped a = true) : dNe' (.p a) (.p a) st = .ok (.p (.bool false)) st := by
  rw [x_dNe h h, SeqAt.eqv_refl a (SeqAt.canLay_of_shaped h)]
  rfl
theorem comp_map {t : Tg} {el : M D} {g : PyData → PyData} : ∀ (xs : List PyData) (acc : List D), acc.length + xs.length ≤ sizeLine → (∀ x ∈ xs, ∃ env1, asg t (.p x) env = some env1 ∧ el ms env1 st = .ok (.p (g x)) st) → mCompL t mTrue el ms env (xs.map .p) acc st = .ok (acc ++ xs.map (fun x => .p (g x))) st
  | [], acc, _, _ => by simp [mCompL]
  | x :: xs, acc, hl, h => by
    obtain ⟨env1, e1, e2⟩ := h x List.mem_cons_self
    have hl' : acc.length + xs.length + 1 ≤ sizeLine := by rw [List.length_cons] at hl; omega
    have ih := comp_map (t := t) (el := el) (g := g) xs (acc ++ [.p (g x)]) (by rw [List.length_append, List.length_singleton]; omega) fun y hy => h y (List.mem_cons_of_mem _ hy)
    rw [List.map_cons, mCompL, e1]
    show ((el ms env1 st).strict.bind fun y st2 => if acc.length < sizeLine then mCompL t mTrue el ms env (xs.map .p) (acc ++ [y]) st2 else .bad) = _
    rw [e2]
    show (if acc.length < sizeLine then mCompL t mTrue el ms env (xs.map .p) (acc ++ [.p (g x)]) st else .bad) = _
    rw [if_pos (by omega), ih]
    simp
theorem unP_map {α : Type} (g : α → PyData) : ∀ xs : List α, unP (xs.map fun x => .p (g x)) = some (xs.map g)
  | [] => rfl
  | x :: xs => by
    show (unP (xs.map fun x => .p (g x))).map (g x :: ·) = _
    rw [unP_map g xs]
    rfl
theorem x_comp {t : Tg} {el : M D} {g : PyData → PyData} {own : List Nat} {it : M (List D)} {xs : List PyData} (hi : it ms env st = .ok (xs.map .p) st) (hl : xs.length ≤ sizeLine)
    (h : ∀ x ∈ xs, ∃ env1, asg t (.p x) (wipeE env own) = some env1 ∧ el ms env1 st = .ok (.p (g x)) st) : mComp false own it t mTrue el ms env st = .ok (.p (.list (xs.map g))) st := by
  unfold mComp mB
  rw [hi]
  show (mCompL t mTrue el ms (wipeE env own) (xs.map .p) [] st).bind _ = _
  rw [comp_map xs [] (by simpa using hl) h]
  show (match unP (xs.map fun x => .p (g x)) with
    | some ps => R.ok (D.p (.list ps)) st
    | none => .bad) = _
  rw [unP_map]
theorem x_all {bs : List Bool} : fAny true [.p (.list (bs.map .bool))] st = .ok (.p (.bool (bs.all id))) st := by
  have e : bls (bs.map .bool) = some bs := by
    induction bs with
    | nil => rfl
    | cons b bs ih =>
      show (bls (bs.map .bool)).map (b :: ·) = _
      rw [ih]
      rfl
  have e2 : getP (.p (.list (bs.map .bool))) st = some (bs.map .bool) := by
    unfold getP getL
    show unP (asP (bs.map .bool)) = _
    unfold asP
    rw [List.map_map]
    exact unP_map _ bs
  unfold fAny
  simp only [e2, e]
  rfl
theorem x_any {bs : List Bool} : fAny false [.p (.list (bs.map .bool))] st = .ok (.p (.bool (bs.any id))) st := by
  have e : bls (bs.map .bool) = some bs := by
    induction bs with
    | nil => rfl
    | cons b bs ih =>
      show (bls (bs.map .bool)).map (b :: ·) = _
      rw [ih]
      rfl
  have e2 : getP (.p (.list (bs.map .bool))) st = some (bs.map .bool) := by
    unfold getP getL
    show unP (asP (bs.map .bool)) = _
    unfold asP
    rw [List.map_map]
    exact unP_map _ bs
  unfold fAny
  simp only [e2, e]
  rfl
theorem x_it_tup {m : M D} (h : m ms env st = .ok (.p (.tuple l)) st') : mIt m ms env st = .ok (l.map .p) st' := by
  unfold mIt mB
  rw [h]
  rfl
theorem x_it_list {m : M D} (h : m ms env st = .ok (.p (.list l)) st') : mIt m ms env st = .ok (l.map .p) st' := by
  unfold mIt mB
  rw [h]
  rfl
theorem x_compV {fl : Bool} {own : List Nat} {i : Nat} {t : Tg} {k : M Bool} {el : M D} {p : PyData} (h : env[i]? = some (some (.p p))) (hd : noDict p = true) : mCompV fl own i t k el ms env st = mComp fl own (mIt (mVar i)) t k el ms env st := by
  unfold mCompV isDv
  rw [h]
  cases p <;> first | rfl | cases hd
theorem x_forV {i : Nat} {t : Tg} {b : MS} {p : PyData} (h : env[i]? = some (some (.p p))) (hd : noDict p = true) : mForV i t b ms env st = mFor (mIt (mVar i)) t b ms env st := by
  unfold mForV isDv
  rw [h]
  cases p <;> first | rfl | cases hd
theorem x_for {it : M (List D)} {t : Tg} {b : MS} {ds : List D} (h : it ms env st = .ok ds st') : mFor it t b ms env st = mForL t b ds ms env st' := by
  unfold mFor sB
  rw [h]
  rfl
theorem x_sl1 {m : M D} (h : m ms env st = .ok (.p (.tuple (a :: l))) st') : mSl false m (some (mC (.int 1))) none ms env st = .ok (.p (.tuple l)) st' := by
  unfold mSl mB
  rw [h]
  show dSl false (.p (.tuple (a :: l))) (some 1) none st' = _
  show R.ok (D.p (.tuple (cutP (a :: l) (some 1) none))) st' = _
  unfold cutP
  have e1 : HT.sIx (a :: l).length 0 (some 1) = 1 := by
    unfold HT.sIx
    simp
  have e2 : HT.sIx (a :: l).length (a :: l).length none = (a :: l).length := rfl
  rw [e1, e2]
  simp
end
end Fk

set_option maxRecDepth 1000000
set_option maxHeartbeats 1000000
namespace Fk
open PySem PySem.Spec L2
set_option autoImplicit false
/-! ### powers.py: formulas and their values -/
def t_is_formula_within_s0 (cl : Str → Fn) : MS := (mIfS (mOrT (mNotT (mT (mIsi "tuple" (mVar 0)))) (mOrT (mNotT (mT (mChain dLe dLe (mC (.int 2)) (mN fLen (mCons (mVar 0) mNil)) (mC (.int 3))))) (mT (m2 dEq' (mVar 2) (mC (.int 0)))))) (mSeq (mRtn (mC (.bool false))) mNext) mNext)
def t_is_formula_within_s1 (cl : Str → Fn) : MS := (mIfS (mT (m2 dEq' (m2 dIx (mVar 0) (mC (.int 0))) (mC (.str "in")))) (mSeq (mRtn (mAndV (m2 dEq' (mN fLen (mCons (mVar 0) mNil)) (mC (.int 2))) (mCall (cl "is_whole") (mCons (m2 dIx (mVar 0) (mC (.int 1))) (mCons (mC (.int 0)) (mCons (m2 dSub (mVar 1) (mC (.int 1))) mNil)))))) mNext) mNext)
def t_is_formula_within_s2 (cl : Str → Fn) : MS := (mIfS (mT (m2 dEq' (m2 dIx (mVar 0) (mC (.int 0))) (mC (.str "num")))) (mSeq (mRtn (mAndV (m2 dEq' (mN fLen (mCons (mVar 0) mNil)) (mC (.int 2))) (mCall (cl "is_word") (mCons (m2 dIx (mVar 0) (mC (.int 1))) mNil)))) mNext) mNext)
def t_is_formula_within_s3 (cl : Str → Fn) : MS := (mIfS (mOrT (mNotT (mT (mIsi "str" (m2 dIx (mVar 0) (mC (.int 0)))))) (mOrT (mT (m2 (dIn true) (m2 dIx (mVar 0) (mC (.int 0))) (mTup (mCons (mC (.str "add")) (mCons (mC (.str "sub")) (mCons (mC (.str "mul")) mNil)))))) (mT (m2 dNe' (mN fLen (mCons (mVar 0) mNil)) (mC (.int 3)))))) (mSeq (mRtn (mC (.bool false))) mNext) mNext)
def t_is_formula_within_s4 (cl : Str → Fn) : MS := (mRtn (mN (fAny true) (mCons (mComp false [3] (mIt (mSl false (mVar 0) (some (mC (.int 1))) none)) (.nm 3) mTrue (mCall (cl "is_formula_within") (mCons (mVar 3) (mCons (mVar 1) (mCons (m2 dSub (mVar 2) (mC (.int 1))) mNil))))) mNil)))
def t_is_formula_within (cl : Str → Fn) : MS := (mSeq (t_is_formula_within_s0 cl) (mSeq (t_is_formula_within_s1 cl) (mSeq (t_is_formula_within_s2 cl) (mSeq (t_is_formula_within_s3 cl) (mSeq (t_is_formula_within_s4 cl) mNext)))))
def t_need_formula (cl : Str → Fn) : MS := (mSeq (mIfS (mNotT (mT (mCall (cl "is_whole") (mCons (mVar 1) (mCons (mC (.int 0)) (mCons (mC (.int 2)) mNil)))))) (mSeq (mRaise "InvalidValues") mNext) mNext) (mSeq (mIfS (mNotT (mT (mCall (cl "is_formula_within") (mCons (mVar 0) (mCons (mVar 1) (mCons (mC (.int 8)) mNil)))))) (mSeq (mRaise "InvalidFormula") mNext) mNext) mNext))
def t_is_formula (cl : Str → Fn) : MS := (mSeq (mIfS (mNotT (mT (mCall (cl "is_whole") (mCons (mVar 0) (mCons (mC (.int 0)) (mCons (mC (.int 2)) mNil)))))) (mSeq (mRaise "InvalidValues") mNext) mNext) (mSeq (mRtn (mCall (cl "is_formula_within") (mCons (mVar 1) (mCons (mVar 0) (mCons (mC (.int 8)) mNil))))) mNext))
def t_combined (cl : Str → Fn) : MS := (mSeq (mIfS (mT (m2 dEq' (mVar 0) (mC (.str "add")))) (mSeq (mRtn (m2 dMod (m2 (dAdd false) (mVar 1) (mVar 2)) (mD (.p (.int 65536))))) mNext) mNext) (mSeq (mRtn (mIf (mT (m2 dEq' (mVar 0) (mC (.str "sub")))) (m2 dMod (m2 dSub (mVar 1) (mVar 2)) (mD (.p (.int 65536)))) (m2 dMod (m2 (dMul false) (mVar 1) (mVar 2)) (mD (.p (.int 65536)))))) mNext))
def t_value_of_s0 (cl : Str → Fn) : MS := (mIfS (mT (m2 dEq' (m2 dIx (mVar 0) (mC (.int 0))) (mC (.str "in")))) (mSeq (mRtn (m2 dIx (mVar 1) (m2 dIx (mVar 0) (mC (.int 1))))) mNext) mNext)
def t_value_of_s1 (cl : Str → Fn) : MS := (mIfS (mT (m2 dEq' (m2 dIx (mVar 0) (mC (.int 0))) (mC (.str "num")))) (mSeq (mRtn (m2 dIx (mVar 0) (mC (.int 1)))) mNext) mNext)
def t_value_of_s2 (cl : Str → Fn) : MS := (mRtn (mCall (cl "combined") (mCons (m2 dIx (mVar 0) (mC (.int 0))) (mCons (mCall (cl "value_of") (mCons (m2 dIx (mVar 0) (mC (.int 1))) (mCons (mVar 1) mNil))) (mCons (mCall (cl "value_of") (mCons (m2 dIx (mVar 0) (mC (.int 2))) (mCons (mVar 1) mNil))) mNil)))))
def t_value_of (cl : Str → Fn) : MS := (mSeq (t_value_of_s0 cl) (mSeq (t_value_of_s1 cl) (mSeq (t_value_of_s2 cl) mNext)))
def t_value_s0 (cl : Str → Fn) : MS := (mIfS (mOrT (mNotT (mT (mIsi "tuple" (mVar 1)))) (mOrT (mT (m2 dGt (mN fLen (mCons (mVar 1) mNil)) (mC (.int 2)))) (mNotT (mT (mN (fAny true) (mCons (mCompV false [2] 1 (.nm 2) mTrue (mCall (cl "is_word") (mCons (mVar 2) mNil))) mNil)))))) (mSeq (mRaise "InvalidValues") mNext) mNext)
def t_value_s1 (cl : Str → Fn) : MS := (mExpr (mCall (cl "need_formula") (mCons (mVar 0) (mCons (mN fLen (mCons (mVar 1) mNil)) mNil))))
def t_value_s2 (cl : Str → Fn) : MS := (mRtn (mCall (cl "value_of") (mCons (mVar 0) (mCons (mVar 1) mNil))))
def t_value (cl : Str → Fn) : MS := (mSeq (t_value_s0 cl) (mSeq (t_value_s1 cl) (mSeq (t_value_s2 cl) mNext)))
def t__law_worth_s0 (cl : Str → Fn) : MS := (mIfS (mT (m2 dEq' (m2 dIx (mVar 0) (mC (.int 0))) (mC (.str "in")))) (mSeq (mRtn (m2 dIx (mVar 1) (m2 dIx (mVar 0) (mC (.int 1))))) mNext) mNext)
def t__law_worth_s1 (cl : Str → Fn) : MS := (mIfS (mT (m2 dEq' (m2 dIx (mVar 0) (mC (.int 0))) (mC (.str "num")))) (mSeq (mRtn (m2 dIx (mVar 0) (mC (.int 1)))) mNext) mNext)
def t__law_worth_s2 (cl : Str → Fn) : MS := (mPar 2 3 (mCons (mCall (cl "_law_worth") (mCons (m2 dIx (mVar 0) (mC (.int 1))) (mCons (mVar 1) mNil))) (mCons (mCall (cl "_law_worth") (mCons (m2 dIx (mVar 0) (mC (.int 2))) (mCons (mVar 1) mNil))) mNil)))
def t__law_worth_s3 (cl : Str → Fn) : MS := (mIfS (mT (m2 dEq' (m2 dIx (mVar 0) (mC (.int 0))) (mC (.str "add")))) (mSeq (mRtn (m2 dMod (m2 (dAdd false) (mVar 2) (mVar 3)) (mC (.int 65536)))) mNext) mNext)
def t__law_worth_s4 (cl : Str → Fn) : MS := (mRtn (mIf (mT (m2 dEq' (m2 dIx (mVar 0) (mC (.int 0))) (mC (.str "sub")))) (m2 dMod (m2 dSub (mVar 2) (mVar 3)) (mC (.int 65536))) (m2 dMod (m2 (dMul false) (mVar 2) (mVar 3)) (mC (.int 65536)))))
def t__law_worth (cl : Str → Fn) : MS := (mSeq (t__law_worth_s0 cl) (mSeq (t__law_worth_s1 cl) (mSeq (t__law_worth_s2 cl) (mSeq (t__law_worth_s3 cl) (mSeq (t__law_worth_s4 cl) mNext)))))
/-- whether a value is a formula, at most so deep -/
def isF : Nat → Int → PyData → Bool
  | 0, _, _ => false
  | n + 1, inputs, .tuple [x, y] => match x with
    | .str s => if s = "in" then isW y 0 (inputs - 1) else if s = "num" then isWd y else false
    | _ => false
  | n + 1, inputs, .tuple [x, y, z] => match x with
    | .str s => if s = "add" ∨ s = "sub" ∨ s = "mul" then isF n inputs y && isF n inputs z else false
    | _ => false
  | _ + 1, _, _ => false
abbrev str0 (s : String) : Str := Str.ofString s
theorem sh_in : SeqAt.shaped (.str "in") = true := by decide +kernel
theorem sh_num : SeqAt.shaped (.str "num") = true := by decide +kernel
theorem x_notin3 {s : Str} {st : List O} : dIn true (.p (.str s)) (.p (.tuple [.str "add", .str "sub", .str "mul"])) st = .ok (.p (.bool (!decide (s = "add" ∨ s = "sub" ∨ s = "mul")))) st := by
  have e : dIn true (.p (.str s)) (.p (.tuple [.str "add", .str "sub", .str "mul"])) st = .ok (.p (.bool (!(((Str.ofString "add" == s) || ((Str.ofString "sub" == s) || ((Str.ofString "mul" == s) || false))))))) st := rfl
  rw [e]
  congr 4
  rw [Bool.eq_iff_iff]
  simp only [Bool.or_eq_true, beq_iff_eq, Bool.false_eq_true, or_false, decide_eq_true_eq]
  constructor
  · rintro (h | h | h)
    · exact .inl h.symm
    · exact .inr (.inl h.symm)
    · exact .inr (.inr h.symm)
  · rintro (h | h | h)
    · exact .inl h.symm
    · exact .inr (.inl h.symm)
    · exact .inr (.inr h.symm)
def IsFw (f : Fn) (n : Nat) : Prop := ∀ (d : PyData) (inputs : Int) (ms : List Nat) (st : List O), SeqAt.shaped d = true → f [.p d, .p (.int inputs), .p (.int n)] ms st = .ok (.p (.bool (isF n inputs d))) st
theorem noDict_of {d : PyData} (h : SeqAt.shaped d = true) : noDict d = true := by
  cases d <;> first | rfl | cases h
def fwB (d : PyData) (n : Nat) : Bool := match d with
  | .tuple l => decide (2 ≤ l.length ∧ l.length ≤ 3 ∧ n ≠ 0)
  | _ => false
theorem fw_s0 {cl : Str → Fn} {d : PyData} {inputs : Int} {n : Nat} {x : Option D} {ms : List Nat} {st : List O} : t_is_formula_within_s0 cl ms [some (.p d), some (.p (.int inputs)), some (.p (.int n)), x] st =
    if fwB d n = true then .nx [some (.p d), some (.p (.int inputs)), some (.p (.int n)), x] st else if noDict d = true then .rt (.p (.bool false)) st else .bad := by
  unfold t_is_formula_within_s0
  cases d with
  | tuple l =>
    simp only [x_seq, x_then_nx, x_then_rt, x_then_ex, x_then_bk, x_then_ct, x_next, x_brk, x_cnt, x_toS_ok, x_toS_ex, x_bind_ok, x_bind_ex, x_set, x_rtn, x_rtnN, x_expr, x_raise, x_ifS, x_par, x_m2, x_call, x_cons, x_nil, x_C, x_D, x_var0, x_varS, x_T, x_toB, x_andT, x_orT, x_notT, x_andV, x_orV, x_notV, x_if, x_chain, x_neg, x_dneg, x_add, x_sub, x_lt, x_le, x_gt, x_ge, x_eq, x_ne, x_isN, x_tup, x_lst, x_N, x_isi, x_told, x_told_ok, x_isi_int_int, x_isi_int_bool, x_isi_int_str, x_isi_int_NoneType, x_isi_int_list, x_isi_int_tuple, x_isi_bool_int, x_isi_bool_bool, x_isi_bool_str, x_isi_bool_NoneType, x_isi_bool_list, x_isi_bool_tuple, x_isi_str_int, x_isi_str_bool, x_isi_str_str, x_isi_str_NoneType, x_isi_str_list, x_isi_str_tuple, x_isi_tuple_int, x_isi_tuple_bool, x_isi_tuple_str, x_isi_tuple_NoneType, x_isi_tuple_list, x_isi_tuple_tuple, x_isi_list_int, x_isi_list_bool, x_isi_list_str, x_isi_list_NoneType, x_isi_list_list, x_isi_list_tuple, x_run, x_fin_nx, x_fin_rt, x_fin_ex, x_div2, x_len_tup, Bool.not_true, cond_false]
    by_cases h1 : 2 ≤ l.length
    · have h1' : (2 : Int) ≤ (l.length : Int) := by omega
      by_cases h2 : l.length ≤ 3
      · have h2' : (l.length : Int) ≤ 3 := by omega
        by_cases h3 : n = 0
        · have h3' : (n : Int) = 0 := by omega
          simp only [x_seq, x_then_nx, x_then_rt, x_then_ex, x_then_bk, x_then_ct, x_next, x_brk, x_cnt, x_toS_ok, x_toS_ex, x_bind_ok, x_bind_ex, x_set, x_rtn, x_rtnN, x_expr, x_raise, x_ifS, x_par, x_m2, x_call, x_cons, x_nil, x_C, x_D, x_var0, x_varS, x_T, x_toB, x_andT, x_orT, x_notT, x_andV, x_orV, x_notV, x_if, x_chain, x_neg, x_dneg, x_add, x_sub, x_lt, x_le, x_gt, x_ge, x_eq, x_ne, x_isN, x_tup, x_lst, x_N, x_isi, x_told, x_told_ok, x_isi_int_int, x_isi_int_bool, x_isi_int_str, x_isi_int_NoneType, x_isi_int_list, x_isi_int_tuple, x_isi_bool_int, x_isi_bool_bool, x_isi_bool_str, x_isi_bool_NoneType, x_isi_bool_list, x_isi_bool_tuple, x_isi_str_int, x_isi_str_bool, x_isi_str_str, x_isi_str_NoneType, x_isi_str_list, x_isi_str_tuple, x_isi_tuple_int, x_isi_tuple_bool, x_isi_tuple_str, x_isi_tuple_NoneType, x_isi_tuple_list, x_isi_tuple_tuple, x_isi_list_int, x_isi_list_bool, x_isi_list_str, x_isi_list_NoneType, x_isi_list_list, x_isi_list_tuple, x_run, x_fin_nx, x_fin_rt, x_fin_ex, x_div2, h1', h2', h3', decide_true, cond_true, Bool.not_true, cond_false]
          rw [if_neg (by unfold fwB; simp [h3])]
          rfl
        · have h3' : ¬ ((n : Int) = 0) := by omega
          simp only [x_seq, x_then_nx, x_then_rt, x_then_ex, x_then_bk, x_then_ct, x_next, x_brk, x_cnt, x_toS_ok, x_toS_ex, x_bind_ok, x_bind_ex, x_set, x_rtn, x_rtnN, x_expr, x_raise, x_ifS, x_par, x_m2, x_call, x_cons, x_nil, x_C, x_D, x_var0, x_varS, x_T, x_toB, x_andT, x_orT, x_notT, x_andV, x_orV, x_notV, x_if, x_chain, x_neg, x_dneg, x_add, x_sub, x_lt, x_le, x_gt, x_ge, x_eq, x_ne, x_isN, x_tup, x_lst, x_N, x_isi, x_told, x_told_ok, x_isi_int_int, x_isi_int_bool, x_isi_int_str, x_isi_int_NoneType, x_isi_int_list, x_isi_int_tuple, x_isi_bool_int, x_isi_bool_bool, x_isi_bool_str, x_isi_bool_NoneType, x_isi_bool_list, x_isi_bool_tuple, x_isi_str_int, x_isi_str_bool, x_isi_str_str, x_isi_str_NoneType, x_isi_str_list, x_isi_str_tuple, x_isi_tuple_int, x_isi_tuple_bool, x_isi_tuple_str, x_isi_tuple_NoneType, x_isi_tuple_list, x_isi_tuple_tuple, x_isi_list_int, x_isi_list_bool, x_isi_list_str, x_isi_list_NoneType, x_isi_list_list, x_isi_list_tuple, x_run, x_fin_nx, x_fin_rt, x_fin_ex, x_div2, h1', h2', h3', decide_true, cond_true, Bool.not_true, cond_false, decide_false]
          rw [if_pos (by unfold fwB; simp [h1, h2, h3])]
      · have h2' : ¬ ((l.length : Int) ≤ 3) := by omega
        simp only [x_seq, x_then_nx, x_then_rt, x_then_ex, x_then_bk, x_then_ct, x_next, x_brk, x_cnt, x_toS_ok, x_toS_ex, x_bind_ok, x_bind_ex, x_set, x_rtn, x_rtnN, x_expr, x_raise, x_ifS, x_par, x_m2, x_call, x_cons, x_nil, x_C, x_D, x_var0, x_varS, x_T, x_toB, x_andT, x_orT, x_notT, x_andV, x_orV, x_notV, x_if, x_chain, x_neg, x_dneg, x_add, x_sub, x_lt, x_le, x_gt, x_ge, x_eq, x_ne, x_isN, x_tup, x_lst, x_N, x_isi, x_told, x_told_ok, x_isi_int_int, x_isi_int_bool, x_isi_int_str, x_isi_int_NoneType, x_isi_int_list, x_isi_int_tuple, x_isi_bool_int, x_isi_bool_bool, x_isi_bool_str, x_isi_bool_NoneType, x_isi_bool_list, x_isi_bool_tuple, x_isi_str_int, x_isi_str_bool, x_isi_str_str, x_isi_str_NoneType, x_isi_str_list, x_isi_str_tuple, x_isi_tuple_int, x_isi_tuple_bool, x_isi_tuple_str, x_isi_tuple_NoneType, x_isi_tuple_list, x_isi_tuple_tuple, x_isi_list_int, x_isi_list_bool, x_isi_list_str, x_isi_list_NoneType, x_isi_list_list, x_isi_list_tuple, x_run, x_fin_nx, x_fin_rt, x_fin_ex, x_div2, h1', h2', decide_true, cond_true, decide_false, Bool.not_false]
        rw [if_neg (by unfold fwB; simp [h2])]
        rfl
    · have h1' : ¬ ((2 : Int) ≤ (l.length : Int)) := by omega
      simp only [x_seq, x_then_nx, x_then_rt, x_then_ex, x_then_bk, x_then_ct, x_next, x_brk, x_cnt, x_toS_ok, x_toS_ex, x_bind_ok, x_bind_ex, x_set, x_rtn, x_rtnN, x_expr, x_raise, x_ifS, x_par, x_m2, x_call, x_cons, x_nil, x_C, x_D, x_var0, x_varS, x_T, x_toB, x_andT, x_orT, x_notT, x_andV, x_orV, x_notV, x_if, x_chain, x_neg, x_dneg, x_add, x_sub, x_lt, x_le, x_gt, x_ge, x_eq, x_ne, x_isN, x_tup, x_lst, x_N, x_isi, x_told, x_told_ok, x_isi_int_int, x_isi_int_bool, x_isi_int_str, x_isi_int_NoneType, x_isi_int_list, x_isi_int_tuple, x_isi_bool_int, x_isi_bool_bool, x_isi_bool_str, x_isi_bool_NoneType, x_isi_bool_list, x_isi_bool_tuple, x_isi_str_int, x_isi_str_bool, x_isi_str_str, x_isi_str_NoneType, x_isi_str_list, x_isi_str_tuple, x_isi_tuple_int, x_isi_tuple_bool, x_isi_tuple_str, x_isi_tuple_NoneType, x_isi_tuple_list, x_isi_tuple_tuple, x_isi_list_int, x_isi_list_bool, x_isi_list_str, x_isi_list_NoneType, x_isi_list_list, x_isi_list_tuple, x_run, x_fin_nx, x_fin_rt, x_fin_ex, x_div2, h1', decide_false, cond_false, Bool.not_false, cond_true]
      rw [if_neg (by unfold fwB; simp [h1])]
      rfl
  | dict l => rfl
  | int i => simp only [x_seq, x_then_nx, x_then_rt, x_then_ex, x_then_bk, x_then_ct, x_next, x_brk, x_cnt, x_toS_ok, x_toS_ex, x_bind_ok, x_bind_ex, x_set, x_rtn, x_rtnN, x_expr, x_raise, x_ifS, x_par, x_m2, x_call, x_cons, x_nil, x_C, x_D, x_var0, x_varS, x_T, x_toB, x_andT, x_orT, x_notT, x_andV, x_orV, x_notV, x_if, x_chain, x_neg, x_dneg, x_add, x_sub, x_lt, x_le, x_gt, x_ge, x_eq, x_ne, x_isN, x_tup, x_lst, x_N, x_isi, x_told, x_told_ok, x_isi_int_int, x_isi_int_bool, x_isi_int_str, x_isi_int_NoneType, x_isi_int_list, x_isi_int_tuple, x_isi_bool_int, x_isi_bool_bool, x_isi_bool_str, x_isi_bool_NoneType, x_isi_bool_list, x_isi_bool_tuple, x_isi_str_int, x_isi_str_bool, x_isi_str_str, x_isi_str_NoneType, x_isi_str_list, x_isi_str_tuple, x_isi_tuple_int, x_isi_tuple_bool, x_isi_tuple_str, x_isi_tuple_NoneType, x_isi_tuple_list, x_isi_tuple_tuple, x_isi_list_int, x_isi_list_bool, x_isi_list_str, x_isi_list_NoneType, x_isi_list_list, x_isi_list_tuple, x_run, x_fin_nx, x_fin_rt, x_fin_ex, x_div2, Bool.not_false, cond_true]; rfl
  | bool i => simp only [x_seq, x_then_nx, x_then_rt, x_then_ex, x_then_bk, x_then_ct, x_next, x_brk, x_cnt, x_toS_ok, x_toS_ex, x_bind_ok, x_bind_ex, x_set, x_rtn, x_rtnN, x_expr, x_raise, x_ifS, x_par, x_m2, x_call, x_cons, x_nil, x_C, x_D, x_var0, x_varS, x_T, x_toB, x_andT, x_orT, x_notT, x_andV, x_orV, x_notV, x_if, x_chain, x_neg, x_dneg, x_add, x_sub, x_lt, x_le, x_gt, x_ge, x_eq, x_ne, x_isN, x_tup, x_lst, x_N, x_isi, x_told, x_told_ok, x_isi_int_int, x_isi_int_bool, x_isi_int_str, x_isi_int_NoneType, x_isi_int_list, x_isi_int_tuple, x_isi_bool_int, x_isi_bool_bool, x_isi_bool_str, x_isi_bool_NoneType, x_isi_bool_list, x_isi_bool_tuple, x_isi_str_int, x_isi_str_bool, x_isi_str_str, x_isi_str_NoneType, x_isi_str_list, x_isi_str_tuple, x_isi_tuple_int, x_isi_tuple_bool, x_isi_tuple_str, x_isi_tuple_NoneType, x_isi_tuple_list, x_isi_tuple_tuple, x_isi_list_int, x_isi_list_bool, x_isi_list_str, x_isi_list_NoneType, x_isi_list_list, x_isi_list_tuple, x_run, x_fin_nx, x_fin_rt, x_fin_ex, x_div2, Bool.not_false, cond_true]; rfl
  | none => simp only [x_seq, x_then_nx, x_then_rt, x_then_ex, x_then_bk, x_then_ct, x_next, x_brk, x_cnt, x_toS_ok, x_toS_ex, x_bind_ok, x_bind_ex, x_set, x_rtn, x_rtnN, x_expr, x_raise, x_ifS, x_par, x_m2, x_call, x_cons, x_nil, x_C, x_D, x_var0, x_varS, x_T, x_toB, x_andT, x_orT, x_notT, x_andV, x_orV, x_notV, x_if, x_chain, x_neg, x_dneg, x_add, x_sub, x_lt, x_le, x_gt, x_ge, x_eq, x_ne, x_isN, x_tup, x_lst, x_N, x_isi, x_told, x_told_ok, x_isi_int_int, x_isi_int_bool, x_isi_int_str, x_isi_int_NoneType, x_isi_int_list, x_isi_int_tuple, x_isi_bool_int, x_isi_bool_bool, x_isi_bool_str, x_isi_bool_NoneType, x_isi_bool_list, x_isi_bool_tuple, x_isi_str_int, x_isi_str_bool, x_isi_str_str, x_isi_str_NoneType, x_isi_str_list, x_isi_str_tuple, x_isi_tuple_int, x_isi_tuple_bool, x_isi_tuple_str, x_isi_tuple_NoneType, x_isi_tuple_list, x_isi_tuple_tuple, x_isi_list_int, x_isi_list_bool, x_isi_list_str, x_isi_list_NoneType, x_isi_list_list, x_isi_list_tuple, x_run, x_fin_nx, x_fin_rt, x_fin_ex, x_div2, Bool.not_false, cond_true]; rfl
  | str i => simp only [x_seq, x_then_nx, x_then_rt, x_then_ex, x_then_bk, x_then_ct, x_next, x_brk, x_cnt, x_toS_ok, x_toS_ex, x_bind_ok, x_bind_ex, x_set, x_rtn, x_rtnN, x_expr, x_raise, x_ifS, x_par, x_m2, x_call, x_cons, x_nil, x_C, x_D, x_var0, x_varS, x_T, x_toB, x_andT, x_orT, x_notT, x_andV, x_orV, x_notV, x_if, x_chain, x_neg, x_dneg, x_add, x_sub, x_lt, x_le, x_gt, x_ge, x_eq, x_ne, x_isN, x_tup, x_lst, x_N, x_isi, x_told, x_told_ok, x_isi_int_int, x_isi_int_bool, x_isi_int_str, x_isi_int_NoneType, x_isi_int_list, x_isi_int_tuple, x_isi_bool_int, x_isi_bool_bool, x_isi_bool_str, x_isi_bool_NoneType, x_isi_bool_list, x_isi_bool_tuple, x_isi_str_int, x_isi_str_bool, x_isi_str_str, x_isi_str_NoneType, x_isi_str_list, x_isi_str_tuple, x_isi_tuple_int, x_isi_tuple_bool, x_isi_tuple_str, x_isi_tuple_NoneType, x_isi_tuple_list, x_isi_tuple_tuple, x_isi_list_int, x_isi_list_bool, x_isi_list_str, x_isi_list_NoneType, x_isi_list_list, x_isi_list_tuple, x_run, x_fin_nx, x_fin_rt, x_fin_ex, x_div2, Bool.not_false, cond_true]; rfl
  | list i => simp only [x_seq, x_then_nx, x_then_rt, x_then_ex, x_then_bk, x_then_ct, x_next, x_brk, x_cnt, x_toS_ok, x_toS_ex, x_bind_ok, x_bind_ex, x_set, x_rtn, x_rtnN, x_expr, x_raise, x_ifS, x_par, x_m2, x_call, x_cons, x_nil, x_C, x_D, x_var0, x_varS, x_T, x_toB, x_andT, x_orT, x_notT, x_andV, x_orV, x_notV, x_if, x_chain, x_neg, x_dneg, x_add, x_sub, x_lt, x_le, x_gt, x_ge, x_eq, x_ne, x_isN, x_tup, x_lst, x_N, x_isi, x_told, x_told_ok, x_isi_int_int, x_isi_int_bool, x_isi_int_str, x_isi_int_NoneType, x_isi_int_list, x_isi_int_tuple, x_isi_bool_int, x_isi_bool_bool, x_isi_bool_str, x_isi_bool_NoneType, x_isi_bool_list, x_isi_bool_tuple, x_isi_str_int, x_isi_str_bool, x_isi_str_str, x_isi_str_NoneType, x_isi_str_list, x_isi_str_tuple, x_isi_tuple_int, x_isi_tuple_bool, x_isi_tuple_str, x_isi_tuple_NoneType, x_isi_tuple_list, x_isi_tuple_tuple, x_isi_list_int, x_isi_list_bool, x_isi_list_str, x_isi_list_NoneType, x_isi_list_list, x_isi_list_tuple, x_run, x_fin_nx, x_fin_rt, x_fin_ex, x_div2, Bool.not_false, cond_true]; rfl
theorem isF_not {n : Nat} {inputs : Int} {d : PyData} (h : ¬ fwB d n = true) : isF n inputs d = false := by
  cases n with
  | zero => rfl
  | succ n =>
    cases d with
    | tuple l =>
      match l, h with
      | [], _ => rfl
      | [_], _ => rfl
      | [_, _], h => exact absurd (by unfold fwB; simp) h
      | [_, _, _], h => exact absurd (by unfold fwB; simp) h
      | _ :: _ :: _ :: _ :: _, _ => rfl
    | _ => rfl
theorem is_fw_ok {cl : Str → Fn} {n : Nat} (h1 : IsWhole (cl "is_whole")) (h2 : IsWord (cl "is_word")) (h3 : ∀ m, n = m + 1 → IsFw (cl "is_formula_within") m) : IsFw (runFn 4 (t_is_formula_within cl)) n := by
  intro d inputs ms st hd
  rw [x_run]
  unfold t_is_formula_within
  have e0 : List.replicate (4 - (0 + 1 + 1 + 1)) (none : Option D) = [none] := rfl
  simp only [List.map_cons, List.map_nil, List.length_cons, List.length_nil, List.cons_append, List.nil_append, e0, x_seq, fw_s0]
  by_cases hc : fwB d n = true
  · rw [if_pos hc]
    cases d with
    | tuple l =>
      obtain ⟨l1, l2, l3⟩ := of_decide_eq_true (show decide (2 ≤ l.length ∧ l.length ≤ 3 ∧ n ≠ 0) = true from hc)
      obtain ⟨m, rfl⟩ : ∃ m, n = m + 1 := ⟨n - 1, by omega⟩
      have ih := h3 m rfl
      match l, l1, l2, hd with
      | [x, y], _, _, hd =>
        have sx := shaped_tup hd (x := x) (by simp)
        have sy := shaped_tup hd (x := y) (by simp)
        have b2 : ((0 + 1 + 1 : Nat) : Int) = 2 := by decide
        have et : ∀ e : En, mTup (mCons (mC (.str "add")) (mCons (mC (.str "sub")) (mCons (mC (.str "mul")) mNil))) ms e st = .ok (.p (.tuple [.str "add", .str "sub", .str "mul"])) st := fun _ => rfl
        unfold t_is_formula_within_s1 t_is_formula_within_s2 t_is_formula_within_s3
        by_cases a1 : eqS x "in" = true
        · cases x with
          | str s =>
            have a1' : s = "in" := by simpa using (show (s == Str.ofString "in") = true from a1)
            have e : isF (m + 1) inputs (.tuple [.str s, y]) = isW y 0 (inputs - 1) := if_pos a1'
            simp only [x_seq, x_then_nx, x_then_rt, x_then_ex, x_then_bk, x_then_ct, x_next, x_brk, x_cnt, x_toS_ok, x_toS_ex, x_bind_ok, x_bind_ex, x_set, x_rtn, x_rtnN, x_expr, x_raise, x_ifS, x_par, x_m2, x_call, x_cons, x_nil, x_C, x_D, x_var0, x_varS, x_T, x_toB, x_andT, x_orT, x_notT, x_andV, x_orV, x_notV, x_if, x_chain, x_neg, x_dneg, x_add, x_sub, x_lt, x_le, x_gt, x_ge, x_eq, x_ne, x_isN, x_tup, x_lst, x_N, x_isi, x_told, x_told_ok, x_isi_int_int, x_isi_int_bool, x_isi_int_str, x_isi_int_NoneType, x_isi_int_list, x_isi_int_tuple, x_isi_bool_int, x_isi_bool_bool, x_isi_bool_str, x_isi_bool_NoneType, x_isi_bool_list, x_isi_bool_tuple, x_isi_str_int, x_isi_str_bool, x_isi_str_str, x_isi_str_NoneType, x_isi_str_list, x_isi_str_tuple, x_isi_tuple_int, x_isi_tuple_bool, x_isi_tuple_str, x_isi_tuple_NoneType, x_isi_tuple_list, x_isi_tuple_tuple, x_isi_list_int, x_isi_list_bool, x_isi_list_str, x_isi_list_NoneType, x_isi_list_list, x_isi_list_tuple, x_run, x_fin_nx, x_fin_rt, x_fin_ex, x_div2, x_ixt0, x_ixt1, x_ixt2, x_ixt3, x_len_tup, x_len_list, List.length_cons, List.length_nil, cond_true, cond_false, decide_true, decide_false, Bool.not_true, Bool.not_false, List.set_cons_zero, List.set_cons_succ, x_eq_str sx sh_in, a1, b2, h1 _ _ _ _ _ (noDict_of sy), e]
          | _ => cases a1
        · have a1 : eqS x "in" = false := by simpa using a1
          by_cases a2 : eqS x "num" = true
          · cases x with
            | str s =>
              have a1' : ¬ s = "in" := by simpa using (show (s == Str.ofString "in") = false from a1)
              have a2' : s = "num" := by simpa using (show (s == Str.ofString "num") = true from a2)
              have e : isF (m + 1) inputs (.tuple [.str s, y]) = isWd y := (if_neg a1').trans (if_pos a2')
              simp only [x_seq, x_then_nx, x_then_rt, x_then_ex, x_then_bk, x_then_ct, x_next, x_brk, x_cnt, x_toS_ok, x_toS_ex, x_bind_ok, x_bind_ex, x_set, x_rtn, x_rtnN, x_expr, x_raise, x_ifS, x_par, x_m2, x_call, x_cons, x_nil, x_C, x_D, x_var0, x_varS, x_T, x_toB, x_andT, x_orT, x_notT, x_andV, x_orV, x_notV, x_if, x_chain, x_neg, x_dneg, x_add, x_sub, x_lt, x_le, x_gt, x_ge, x_eq, x_ne, x_isN, x_tup, x_lst, x_N, x_isi, x_told, x_told_ok, x_isi_int_int, x_isi_int_bool, x_isi_int_str, x_isi_int_NoneType, x_isi_int_list, x_isi_int_tuple, x_isi_bool_int, x_isi_bool_bool, x_isi_bool_str, x_isi_bool_NoneType, x_isi_bool_list, x_isi_bool_tuple, x_isi_str_int, x_isi_str_bool, x_isi_str_str, x_isi_str_NoneType, x_isi_str_list, x_isi_str_tuple, x_isi_tuple_int, x_isi_tuple_bool, x_isi_tuple_str, x_isi_tuple_NoneType, x_isi_tuple_list, x_isi_tuple_tuple, x_isi_list_int, x_isi_list_bool, x_isi_list_str, x_isi_list_NoneType, x_isi_list_list, x_isi_list_tuple, x_run, x_fin_nx, x_fin_rt, x_fin_ex, x_div2, x_ixt0, x_ixt1, x_ixt2, x_ixt3, x_len_tup, x_len_list, List.length_cons, List.length_nil, cond_true, cond_false, decide_true, decide_false, Bool.not_true, Bool.not_false, List.set_cons_zero, List.set_cons_succ, x_eq_str sx sh_in, x_eq_str sx sh_num, a1, a2, b2, h2 _ _ _ (noDict_of sy), e]
            | _ => cases a2
          · have a2 : eqS x "num" = false := by simpa using a2
            have e : isF (m + 1) inputs (.tuple [x, y]) = false := by
              cases x with
              | str s =>
                have a1' : ¬ s = "in" := by simpa using (show (s == Str.ofString "in") = false from a1)
                have a2' : ¬ s = "num" := by simpa using (show (s == Str.ofString "num") = false from a2)
                exact (if_neg a1').trans (if_neg a2')
              | _ => rfl
            have b3 : ¬ ((2 : Int) = 3) := by decide
            rw [e]
            cases x with
            | str s =>
              simp only [x_ifS, x_orT, x_notT, x_T, x_isi, x_m2, x_varS, x_var0, x_C, x_bind_ok, x_ixt0, x_eq_str sx sh_in, x_eq_str sx sh_num, x_isi_str_str, x_toB, a1, a2, cond_false, Bool.not_true, et, x_notin3, x_toS_ok, x_then_nx, x_next, x_N, x_cons, x_nil, x_len_tup, x_ne, List.length_cons, List.length_nil, b2]
              cases decide (s = "add" ∨ s = "sub" ∨ s = "mul") <;> simp only [x_seq, x_then_nx, x_then_rt, x_then_ex, x_then_bk, x_then_ct, x_next, x_brk, x_cnt, x_toS_ok, x_toS_ex, x_bind_ok, x_bind_ex, x_set, x_rtn, x_rtnN, x_expr, x_raise, x_ifS, x_par, x_m2, x_call, x_cons, x_nil, x_C, x_D, x_var0, x_varS, x_T, x_toB, x_andT, x_orT, x_notT, x_andV, x_orV, x_notV, x_if, x_chain, x_neg, x_dneg, x_add, x_sub, x_lt, x_le, x_gt, x_ge, x_eq, x_ne, x_isN, x_tup, x_lst, x_N, x_isi, x_told, x_told_ok, x_isi_int_int, x_isi_int_bool, x_isi_int_str, x_isi_int_NoneType, x_isi_int_list, x_isi_int_tuple, x_isi_bool_int, x_isi_bool_bool, x_isi_bool_str, x_isi_bool_NoneType, x_isi_bool_list, x_isi_bool_tuple, x_isi_str_int, x_isi_str_bool, x_isi_str_str, x_isi_str_NoneType, x_isi_str_list, x_isi_str_tuple, x_isi_tuple_int, x_isi_tuple_bool, x_isi_tuple_str, x_isi_tuple_NoneType, x_isi_tuple_list, x_isi_tuple_tuple, x_isi_list_int, x_isi_list_bool, x_isi_list_str, x_isi_list_NoneType, x_isi_list_list, x_isi_list_tuple, x_run, x_fin_nx, x_fin_rt, x_fin_ex, x_div2, x_ixt0, x_ixt1, x_ixt2, x_ixt3, x_len_tup, x_len_list, List.length_cons, List.length_nil, cond_true, cond_false, decide_true, decide_false, Bool.not_true, Bool.not_false, List.set_cons_zero, List.set_cons_succ, b3]
            | dict i => cases sx
            | _ => simp only [x_seq, x_then_nx, x_then_rt, x_then_ex, x_then_bk, x_then_ct, x_next, x_brk, x_cnt, x_toS_ok, x_toS_ex, x_bind_ok, x_bind_ex, x_set, x_rtn, x_rtnN, x_expr, x_raise, x_ifS, x_par, x_m2, x_call, x_cons, x_nil, x_C, x_D, x_var0, x_varS, x_T, x_toB, x_andT, x_orT, x_notT, x_andV, x_orV, x_notV, x_if, x_chain, x_neg, x_dneg, x_add, x_sub, x_lt, x_le, x_gt, x_ge, x_eq, x_ne, x_isN, x_tup, x_lst, x_N, x_isi, x_told, x_told_ok, x_isi_int_int, x_isi_int_bool, x_isi_int_str, x_isi_int_NoneType, x_isi_int_list, x_isi_int_tuple, x_isi_bool_int, x_isi_bool_bool, x_isi_bool_str, x_isi_bool_NoneType, x_isi_bool_list, x_isi_bool_tuple, x_isi_str_int, x_isi_str_bool, x_isi_str_str, x_isi_str_NoneType, x_isi_str_list, x_isi_str_tuple, x_isi_tuple_int, x_isi_tuple_bool, x_isi_tuple_str, x_isi_tuple_NoneType, x_isi_tuple_list, x_isi_tuple_tuple, x_isi_list_int, x_isi_list_bool, x_isi_list_str, x_isi_list_NoneType, x_isi_list_list, x_isi_list_tuple, x_run, x_fin_nx, x_fin_rt, x_fin_ex, x_div2, x_ixt0, x_ixt1, x_ixt2, x_ixt3, x_len_tup, x_len_list, List.length_cons, List.length_nil, cond_true, cond_false, decide_true, decide_false, Bool.not_true, Bool.not_false, List.set_cons_zero, List.set_cons_succ, x_eq_str sx sh_in, x_eq_str sx sh_num, a1, a2]
      | [x, y, z], _, _, hd =>
        have sx := shaped_tup hd (x := x) (by simp)
        have sy := shaped_tup hd (x := y) (by simp)
        have sz := shaped_tup hd (x := z) (by simp)
        have b2 : ((0 + 1 + 1 + 1 : Nat) : Int) = 3 := by decide
        have b3 : ¬ ((3 : Int) = 2) := by decide
        have et : ∀ e : En, mTup (mCons (mC (.str "add")) (mCons (mC (.str "sub")) (mCons (mC (.str "mul")) mNil))) ms e st = .ok (.p (.tuple [.str "add", .str "sub", .str "mul"])) st := fun _ => rfl
        unfold t_is_formula_within_s1 t_is_formula_within_s2 t_is_formula_within_s3
        by_cases a1 : eqS x "in" = true
        · have e : isF (m + 1) inputs (.tuple [x, y, z]) = false := by
            cases x with
            | str s =>
              have a1' : s = "in" := by simpa using (show (s == Str.ofString "in") = true from a1)
              subst a1'
              rfl
            | _ => cases a1
          simp only [x_seq, x_then_nx, x_then_rt, x_then_ex, x_then_bk, x_then_ct, x_next, x_brk, x_cnt, x_toS_ok, x_toS_ex, x_bind_ok, x_bind_ex, x_set, x_rtn, x_rtnN, x_expr, x_raise, x_ifS, x_par, x_m2, x_call, x_cons, x_nil, x_C, x_D, x_var0, x_varS, x_T, x_toB, x_andT, x_orT, x_notT, x_andV, x_orV, x_notV, x_if, x_chain, x_neg, x_dneg, x_add, x_sub, x_lt, x_le, x_gt, x_ge, x_eq, x_ne, x_isN, x_tup, x_lst, x_N, x_isi, x_told, x_told_ok, x_isi_int_int, x_isi_int_bool, x_isi_int_str, x_isi_int_NoneType, x_isi_int_list, x_isi_int_tuple, x_isi_bool_int, x_isi_bool_bool, x_isi_bool_str, x_isi_bool_NoneType, x_isi_bool_list, x_isi_bool_tuple, x_isi_str_int, x_isi_str_bool, x_isi_str_str, x_isi_str_NoneType, x_isi_str_list, x_isi_str_tuple, x_isi_tuple_int, x_isi_tuple_bool, x_isi_tuple_str, x_isi_tuple_NoneType, x_isi_tuple_list, x_isi_tuple_tuple, x_isi_list_int, x_isi_list_bool, x_isi_list_str, x_isi_list_NoneType, x_isi_list_list, x_isi_list_tuple, x_run, x_fin_nx, x_fin_rt, x_fin_ex, x_div2, x_ixt0, x_ixt1, x_ixt2, x_ixt3, x_len_tup, x_len_list, List.length_cons, List.length_nil, cond_true, cond_false, decide_true, decide_false, Bool.not_true, Bool.not_false, List.set_cons_zero, List.set_cons_succ, x_eq_str sx sh_in, a1, b2, b3, e]
        · have a1 : eqS x "in" = false := by simpa using a1
          by_cases a2 : eqS x "num" = true
          · have e : isF (m + 1) inputs (.tuple [x, y, z]) = false := by
              cases x with
              | str s =>
                have a1' : s = "num" := by simpa using (show (s == Str.ofString "num") = true from a2)
                subst a1'
                rfl
              | _ => cases a2
            simp only [x_seq, x_then_nx, x_then_rt, x_then_ex, x_then_bk, x_then_ct, x_next, x_brk, x_cnt, x_toS_ok, x_toS_ex, x_bind_ok, x_bind_ex, x_set, x_rtn, x_rtnN, x_expr, x_raise, x_ifS, x_par, x_m2, x_call, x_cons, x_nil, x_C, x_D, x_var0, x_varS, x_T, x_toB, x_andT, x_orT, x_notT, x_andV, x_orV, x_notV, x_if, x_chain, x_neg, x_dneg, x_add, x_sub, x_lt, x_le, x_gt, x_ge, x_eq, x_ne, x_isN, x_tup, x_lst, x_N, x_isi, x_told, x_told_ok, x_isi_int_int, x_isi_int_bool, x_isi_int_str, x_isi_int_NoneType, x_isi_int_list, x_isi_int_tuple, x_isi_bool_int, x_isi_bool_bool, x_isi_bool_str, x_isi_bool_NoneType, x_isi_bool_list, x_isi_bool_tuple, x_isi_str_int, x_isi_str_bool, x_isi_str_str, x_isi_str_NoneType, x_isi_str_list, x_isi_str_tuple, x_isi_tuple_int, x_isi_tuple_bool, x_isi_tuple_str, x_isi_tuple_NoneType, x_isi_tuple_list, x_isi_tuple_tuple, x_isi_list_int, x_isi_list_bool, x_isi_list_str, x_isi_list_NoneType, x_isi_list_list, x_isi_list_tuple, x_run, x_fin_nx, x_fin_rt, x_fin_ex, x_div2, x_ixt0, x_ixt1, x_ixt2, x_ixt3, x_len_tup, x_len_list, List.length_cons, List.length_nil, cond_true, cond_false, decide_true, decide_false, Bool.not_true, Bool.not_false, List.set_cons_zero, List.set_cons_succ, x_eq_str sx sh_in, x_eq_str sx sh_num, a1, a2, b2, b3, e]
          · have a2 : eqS x "num" = false := by simpa using a2
            cases x with
            | str s =>
              by_cases a3 : s = "add" ∨ s = "sub" ∨ s = "mul"
              · have e : isF (m + 1) inputs (.tuple [.str s, y, z]) = (isF m inputs y && isF m inputs z) := if_pos a3
                have ec : ∀ x3 : Option D, mComp false [3] (mIt (mSl false (mVar 0) (some (mC (.int 1))) none)) (.nm 3) mTrue (mCall (cl "is_formula_within") (mCons (mVar 3) (mCons (mVar 1) (mCons (m2 dSub (mVar 2) (mC (.int 1))) mNil)))) ms [some (.p (.tuple [.str s, y, z])), some (.p (.int inputs)), some (.p (.int (m + 1 : Nat))), x3] st = .ok (.p (.list ([y, z].map fun w => .bool (isF m inputs w)))) st := fun x3 => by
                  refine x_comp (x_it_tup (x_sl1 (a := .str s) rfl)) (show 2 ≤ sizeLine by decide) fun w hw => ⟨[some (.p (.tuple [.str s, y, z])), some (.p (.int inputs)), some (.p (.int (m + 1 : Nat))), some (.p w)], rfl, ?_⟩
                  have sw : SeqAt.shaped w = true := by
                    simp only [List.mem_cons, List.not_mem_nil, or_false] at hw
                    rcases hw with rfl | rfl
                    · exact sy
                    · exact sz
                  have em : ((m + 1 : Nat) : Int) - 1 = (m : Nat) := by omega
                  simp only [x_seq, x_then_nx, x_then_rt, x_then_ex, x_then_bk, x_then_ct, x_next, x_brk, x_cnt, x_toS_ok, x_toS_ex, x_bind_ok, x_bind_ex, x_set, x_rtn, x_rtnN, x_expr, x_raise, x_ifS, x_par, x_m2, x_call, x_cons, x_nil, x_C, x_D, x_var0, x_varS, x_T, x_toB, x_andT, x_orT, x_notT, x_andV, x_orV, x_notV, x_if, x_chain, x_neg, x_dneg, x_add, x_sub, x_lt, x_le, x_gt, x_ge, x_eq, x_ne, x_isN, x_tup, x_lst, x_N, x_isi, x_told, x_told_ok, x_isi_int_int, x_isi_int_bool, x_isi_int_str, x_isi_int_NoneType, x_isi_int_list, x_isi_int_tuple, x_isi_bool_int, x_isi_bool_bool, x_isi_bool_str, x_isi_bool_NoneType, x_isi_bool_list, x_isi_bool_tuple, x_isi_str_int, x_isi_str_bool, x_isi_str_str, x_isi_str_NoneType, x_isi_str_list, x_isi_str_tuple, x_isi_tuple_int, x_isi_tuple_bool, x_isi_tuple_str, x_isi_tuple_NoneType, x_isi_tuple_list, x_isi_tuple_tuple, x_isi_list_int, x_isi_list_bool, x_isi_list_str, x_isi_list_NoneType, x_isi_list_list, x_isi_list_tuple, x_run, x_fin_nx, x_fin_rt, x_fin_ex, x_div2, x_ixt0, x_ixt1, x_ixt2, x_ixt3, x_len_tup, x_len_list, List.length_cons, List.length_nil, cond_true, cond_false, decide_true, decide_false, Bool.not_true, Bool.not_false, List.set_cons_zero, List.set_cons_succ, em, ih w inputs ms st sw]
                have el : [y, z].map (fun w => PyData.bool (isF m inputs w)) = [isF m inputs y, isF m inputs z].map PyData.bool := rfl
                rw [el] at ec
                unfold t_is_formula_within_s4
                simp only [x_ifS, x_orT, x_notT, x_T, x_isi, x_m2, x_varS, x_var0, x_C, x_bind_ok, x_ixt0, x_eq_str sx sh_in, x_eq_str sx sh_num, x_isi_str_str, x_toB, a1, a2, cond_false, Bool.not_true, et, x_notin3, x_toS_ok, x_then_nx, x_next, x_N, x_cons, x_nil, x_len_tup, x_ne, List.length_cons, List.length_nil, b2, a3, decide_true, x_rtn, ec, x_all, x_then_rt, x_fin_rt, e]
                simp
              · have e : isF (m + 1) inputs (.tuple [.str s, y, z]) = false := if_neg a3
                simp only [x_ifS, x_orT, x_notT, x_T, x_isi, x_m2, x_varS, x_var0, x_C, x_bind_ok, x_ixt0, x_eq_str sx sh_in, x_eq_str sx sh_num, x_isi_str_str, x_toB, a1, a2, cond_false, cond_true, Bool.not_true, et, x_notin3, x_toS_ok, x_then_nx, x_next, a3, decide_false, Bool.not_false, x_seq, x_rtn, x_then_rt, x_fin_rt, e]
            | dict i => cases sx
            | _ =>
              have e : ∀ q, (∀ s, q ≠ PyData.str s) → isF (m + 1) inputs (.tuple [q, y, z]) = false := fun q hq => by
                cases q <;> first | rfl | exact absurd rfl (hq _)
              rw [e _ (fun s h => by cases h)]
              simp only [x_seq, x_then_nx, x_then_rt, x_then_ex, x_then_bk, x_then_ct, x_next, x_brk, x_cnt, x_toS_ok, x_toS_ex, x_bind_ok, x_bind_ex, x_set, x_rtn, x_rtnN, x_expr, x_raise, x_ifS, x_par, x_m2, x_call, x_cons, x_nil, x_C, x_D, x_var0, x_varS, x_T, x_toB, x_andT, x_orT, x_notT, x_andV, x_orV, x_notV, x_if, x_chain, x_neg, x_dneg, x_add, x_sub, x_lt, x_le, x_gt, x_ge, x_eq, x_ne, x_isN, x_tup, x_lst, x_N, x_isi, x_told, x_told_ok, x_isi_int_int, x_isi_int_bool, x_isi_int_str, x_isi_int_NoneType, x_isi_int_list, x_isi_int_tuple, x_isi_bool_int, x_isi_bool_bool, x_isi_bool_str, x_isi_bool_NoneType, x_isi_bool_list, x_isi_bool_tuple, x_isi_str_int, x_isi_str_bool, x_isi_str_str, x_isi_str_NoneType, x_isi_str_list, x_isi_str_tuple, x_isi_tuple_int, x_isi_tuple_bool, x_isi_tuple_str, x_isi_tuple_NoneType, x_isi_tuple_list, x_isi_tuple_tuple, x_isi_list_int, x_isi_list_bool, x_isi_list_str, x_isi_list_NoneType, x_isi_list_list, x_isi_list_tuple, x_run, x_fin_nx, x_fin_rt, x_fin_ex, x_div2, x_ixt0, x_ixt1, x_ixt2, x_ixt3, x_len_tup, x_len_list, List.length_cons, List.length_nil, cond_true, cond_false, decide_true, decide_false, Bool.not_true, Bool.not_false, List.set_cons_zero, List.set_cons_succ, x_eq_str sx sh_in, x_eq_str sx sh_num, a1, a2]
    | _ => cases hc
  · rw [if_neg hc, if_pos (noDict_of hd), isF_not hc]
    rfl
/-- the checks of a formula -/
def NeedF (f : Fn) : Prop := ∀ (d i : PyData) (ms : List Nat) (st : List O), SeqAt.shaped d = true → noDict i = true → f [.p d, .p i] ms st = match i with
  | .int v => if 0 ≤ v ∧ v ≤ 2 then (if isF 8 v d = true then .ok (.p .none) st else .ex "InvalidFormula" st) else .ex "InvalidValues" st
  | _ => .ex "InvalidValues" st
theorem isW_int {v lo hi : Int} : isW (.int v) lo hi = decide (lo ≤ v ∧ v ≤ hi) := by
  show (decide (lo ≤ v) && decide (v ≤ hi)) = _
  rw [Bool.eq_iff_iff]
  simp
theorem need_f_ok {cl : Str → Fn} (h1 : IsWhole (cl "is_whole")) (h2 : IsFw (cl "is_formula_within") 8) : NeedF (runFn 2 (t_need_formula cl)) := by
  intro d i ms st hd hi
  rw [x_run]
  unfold t_need_formula
  simp only [List.map_cons, List.map_nil, List.length_cons, List.length_nil, List.cons_append, List.nil_append, x_seq, x_then_nx, x_then_rt, x_then_ex, x_then_bk, x_then_ct, x_next, x_brk, x_cnt, x_toS_ok, x_toS_ex, x_bind_ok, x_bind_ex, x_set, x_rtn, x_rtnN, x_expr, x_raise, x_ifS, x_par, x_m2, x_call, x_cons, x_nil, x_C, x_D, x_var0, x_varS, x_T, x_toB, x_andT, x_orT, x_notT, x_andV, x_orV, x_notV, x_if, x_chain, x_neg, x_dneg, x_add, x_sub, x_lt, x_le, x_gt, x_ge, x_eq, x_ne, x_isN, x_tup, x_lst, x_N, x_isi, x_told, x_told_ok, x_isi_int_int, x_isi_int_bool, x_isi_int_str, x_isi_int_NoneType, x_isi_int_list, x_isi_int_tuple, x_isi_bool_int, x_isi_bool_bool, x_isi_bool_str, x_isi_bool_NoneType, x_isi_bool_list, x_isi_bool_tuple, x_isi_str_int, x_isi_str_bool, x_isi_str_str, x_isi_str_NoneType, x_isi_str_list, x_isi_str_tuple, x_isi_tuple_int, x_isi_tuple_bool, x_isi_tuple_str, x_isi_tuple_NoneType, x_isi_tuple_list, x_isi_tuple_tuple, x_isi_list_int, x_isi_list_bool, x_isi_list_str, x_isi_list_NoneType, x_isi_list_list, x_isi_list_tuple, x_run, x_fin_nx, x_fin_rt, x_fin_ex, x_div2, x_ixt0, x_ixt1, x_ixt2, x_ixt3, x_len_tup, x_len_list, List.length_cons, List.length_nil, cond_true, cond_false, decide_true, decide_false, Bool.not_true, Bool.not_false, List.set_cons_zero, List.set_cons_succ, h1 _ _ _ _ _ hi]
  cases i with
  | int v =>
    rw [isW_int]
    have h2' := h2 d v ms st hd
    have e8 : ((8 : Nat) : Int) = 8 := rfl
    rw [e8] at h2'
    by_cases h : 0 ≤ v ∧ v ≤ 2
    · simp only [h, decide_true, x_seq, x_then_nx, x_then_rt, x_then_ex, x_then_bk, x_then_ct, x_next, x_brk, x_cnt, x_toS_ok, x_toS_ex, x_bind_ok, x_bind_ex, x_set, x_rtn, x_rtnN, x_expr, x_raise, x_ifS, x_par, x_m2, x_call, x_cons, x_nil, x_C, x_D, x_var0, x_varS, x_T, x_toB, x_andT, x_orT, x_notT, x_andV, x_orV, x_notV, x_if, x_chain, x_neg, x_dneg, x_add, x_sub, x_lt, x_le, x_gt, x_ge, x_eq, x_ne, x_isN, x_tup, x_lst, x_N, x_isi, x_told, x_told_ok, x_isi_int_int, x_isi_int_bool, x_isi_int_str, x_isi_int_NoneType, x_isi_int_list, x_isi_int_tuple, x_isi_bool_int, x_isi_bool_bool, x_isi_bool_str, x_isi_bool_NoneType, x_isi_bool_list, x_isi_bool_tuple, x_isi_str_int, x_isi_str_bool, x_isi_str_str, x_isi_str_NoneType, x_isi_str_list, x_isi_str_tuple, x_isi_tuple_int, x_isi_tuple_bool, x_isi_tuple_str, x_isi_tuple_NoneType, x_isi_tuple_list, x_isi_tuple_tuple, x_isi_list_int, x_isi_list_bool, x_isi_list_str, x_isi_list_NoneType, x_isi_list_list, x_isi_list_tuple, x_run, x_fin_nx, x_fin_rt, x_fin_ex, x_div2, x_ixt0, x_ixt1, x_ixt2, x_ixt3, x_len_tup, x_len_list, List.length_cons, List.length_nil, cond_true, cond_false, decide_true, decide_false, Bool.not_true, Bool.not_false, List.set_cons_zero, List.set_cons_succ, h2', and_self]
      cases isF 8 v d <;> simp only [x_seq, x_then_nx, x_then_rt, x_then_ex, x_then_bk, x_then_ct, x_next, x_brk, x_cnt, x_toS_ok, x_toS_ex, x_bind_ok, x_bind_ex, x_set, x_rtn, x_rtnN, x_expr, x_raise, x_ifS, x_par, x_m2, x_call, x_cons, x_nil, x_C, x_D, x_var0, x_varS, x_T, x_toB, x_andT, x_orT, x_notT, x_andV, x_orV, x_notV, x_if, x_chain, x_neg, x_dneg, x_add, x_sub, x_lt, x_le, x_gt, x_ge, x_eq, x_ne, x_isN, x_tup, x_lst, x_N, x_isi, x_told, x_told_ok, x_isi_int_int, x_isi_int_bool, x_isi_int_str, x_isi_int_NoneType, x_isi_int_list, x_isi_int_tuple, x_isi_bool_int, x_isi_bool_bool, x_isi_bool_str, x_isi_bool_NoneType, x_isi_bool_list, x_isi_bool_tuple, x_isi_str_int, x_isi_str_bool, x_isi_str_str, x_isi_str_NoneType, x_isi_str_list, x_isi_str_tuple, x_isi_tuple_int, x_isi_tuple_bool, x_isi_tuple_str, x_isi_tuple_NoneType, x_isi_tuple_list, x_isi_tuple_tuple, x_isi_list_int, x_isi_list_bool, x_isi_list_str, x_isi_list_NoneType, x_isi_list_list, x_isi_list_tuple, x_run, x_fin_nx, x_fin_rt, x_fin_ex, x_div2, x_ixt0, x_ixt1, x_ixt2, x_ixt3, x_len_tup, x_len_list, List.length_cons, List.length_nil, cond_true, cond_false, decide_true, decide_false, Bool.not_true, Bool.not_false, List.set_cons_zero, List.set_cons_succ, if_true, Bool.false_eq_true, if_false]
    · simp only [h, decide_false, x_seq, x_then_nx, x_then_rt, x_then_ex, x_then_bk, x_then_ct, x_next, x_brk, x_cnt, x_toS_ok, x_toS_ex, x_bind_ok, x_bind_ex, x_set, x_rtn, x_rtnN, x_expr, x_raise, x_ifS, x_par, x_m2, x_call, x_cons, x_nil, x_C, x_D, x_var0, x_varS, x_T, x_toB, x_andT, x_orT, x_notT, x_andV, x_orV, x_notV, x_if, x_chain, x_neg, x_dneg, x_add, x_sub, x_lt, x_le, x_gt, x_ge, x_eq, x_ne, x_isN, x_tup, x_lst, x_N, x_isi, x_told, x_told_ok, x_isi_int_int, x_isi_int_bool, x_isi_int_str, x_isi_int_NoneType, x_isi_int_list, x_isi_int_tuple, x_isi_bool_int, x_isi_bool_bool, x_isi_bool_str, x_isi_bool_NoneType, x_isi_bool_list, x_isi_bool_tuple, x_isi_str_int, x_isi_str_bool, x_isi_str_str, x_isi_str_NoneType, x_isi_str_list, x_isi_str_tuple, x_isi_tuple_int, x_isi_tuple_bool, x_isi_tuple_str, x_isi_tuple_NoneType, x_isi_tuple_list, x_isi_tuple_tuple, x_isi_list_int, x_isi_list_bool, x_isi_list_str, x_isi_list_NoneType, x_isi_list_list, x_isi_list_tuple, x_run, x_fin_nx, x_fin_rt, x_fin_ex, x_div2, x_ixt0, x_ixt1, x_ixt2, x_ixt3, x_len_tup, x_len_list, List.length_cons, List.length_nil, cond_true, cond_false, decide_true, decide_false, Bool.not_true, Bool.not_false, List.set_cons_zero, List.set_cons_succ, if_false]
  | _ => rfl
def IsForm (f : Fn) : Prop := ∀ (i d : PyData) (ms : List Nat) (st : List O), SeqAt.shaped d = true → noDict i = true → f [.p i, .p d] ms st = match i with
  | .int v => if 0 ≤ v ∧ v ≤ 2 then .ok (.p (.bool (isF 8 v d))) st else .ex "InvalidValues" st
  | _ => .ex "InvalidValues" st
theorem is_form_ok {cl : Str → Fn} (h1 : IsWhole (cl "is_whole")) (h2 : IsFw (cl "is_formula_within") 8) : IsForm (runFn 2 (t_is_formula cl)) := by
  intro i d ms st hd hi
  rw [x_run]
  unfold t_is_formula
  simp only [List.map_cons, List.map_nil, List.length_cons, List.length_nil, List.cons_append, List.nil_append, x_seq, x_then_nx, x_then_rt, x_then_ex, x_then_bk, x_then_ct, x_next, x_brk, x_cnt, x_toS_ok, x_toS_ex, x_bind_ok, x_bind_ex, x_set, x_rtn, x_rtnN, x_expr, x_raise, x_ifS, x_par, x_m2, x_call, x_cons, x_nil, x_C, x_D, x_var0, x_varS, x_T, x_toB, x_andT, x_orT, x_notT, x_andV, x_orV, x_notV, x_if, x_chain, x_neg, x_dneg, x_add, x_sub, x_lt, x_le, x_gt, x_ge, x_eq, x_ne, x_isN, x_tup, x_lst, x_N, x_isi, x_told, x_told_ok, x_isi_int_int, x_isi_int_bool, x_isi_int_str, x_isi_int_NoneType, x_isi_int_list, x_isi_int_tuple, x_isi_bool_int, x_isi_bool_bool, x_isi_bool_str, x_isi_bool_NoneType, x_isi_bool_list, x_isi_bool_tuple, x_isi_str_int, x_isi_str_bool, x_isi_str_str, x_isi_str_NoneType, x_isi_str_list, x_isi_str_tuple, x_isi_tuple_int, x_isi_tuple_bool, x_isi_tuple_str, x_isi_tuple_NoneType, x_isi_tuple_list, x_isi_tuple_tuple, x_isi_list_int, x_isi_list_bool, x_isi_list_str, x_isi_list_NoneType, x_isi_list_list, x_isi_list_tuple, x_run, x_fin_nx, x_fin_rt, x_fin_ex, x_div2, x_ixt0, x_ixt1, x_ixt2, x_ixt3, x_len_tup, x_len_list, List.length_cons, List.length_nil, cond_true, cond_false, decide_true, decide_false, Bool.not_true, Bool.not_false, List.set_cons_zero, List.set_cons_succ, h1 _ _ _ _ _ hi]
  cases i with
  | int v =>
    rw [isW_int]
    have h2' := h2 d v ms st hd
    have e8 : ((8 : Nat) : Int) = 8 := rfl
    rw [e8] at h2'
    by_cases h : 0 ≤ v ∧ v ≤ 2
    · simp only [h, decide_true, x_seq, x_then_nx, x_then_rt, x_then_ex, x_then_bk, x_then_ct, x_next, x_brk, x_cnt, x_toS_ok, x_toS_ex, x_bind_ok, x_bind_ex, x_set, x_rtn, x_rtnN, x_expr, x_raise, x_ifS, x_par, x_m2, x_call, x_cons, x_nil, x_C, x_D, x_var0, x_varS, x_T, x_toB, x_andT, x_orT, x_notT, x_andV, x_orV, x_notV, x_if, x_chain, x_neg, x_dneg, x_add, x_sub, x_lt, x_le, x_gt, x_ge, x_eq, x_ne, x_isN, x_tup, x_lst, x_N, x_isi, x_told, x_told_ok, x_isi_int_int, x_isi_int_bool, x_isi_int_str, x_isi_int_NoneType, x_isi_int_list, x_isi_int_tuple, x_isi_bool_int, x_isi_bool_bool, x_isi_bool_str, x_isi_bool_NoneType, x_isi_bool_list, x_isi_bool_tuple, x_isi_str_int, x_isi_str_bool, x_isi_str_str, x_isi_str_NoneType, x_isi_str_list, x_isi_str_tuple, x_isi_tuple_int, x_isi_tuple_bool, x_isi_tuple_str, x_isi_tuple_NoneType, x_isi_tuple_list, x_isi_tuple_tuple, x_isi_list_int, x_isi_list_bool, x_isi_list_str, x_isi_list_NoneType, x_isi_list_list, x_isi_list_tuple, x_run, x_fin_nx, x_fin_rt, x_fin_ex, x_div2, x_ixt0, x_ixt1, x_ixt2, x_ixt3, x_len_tup, x_len_list, List.length_cons, List.length_nil, cond_true, cond_false, decide_true, decide_false, Bool.not_true, Bool.not_false, List.set_cons_zero, List.set_cons_succ, h2', and_self, if_true]
    · simp only [h, decide_false, x_seq, x_then_nx, x_then_rt, x_then_ex, x_then_bk, x_then_ct, x_next, x_brk, x_cnt, x_toS_ok, x_toS_ex, x_bind_ok, x_bind_ex, x_set, x_rtn, x_rtnN, x_expr, x_raise, x_ifS, x_par, x_m2, x_call, x_cons, x_nil, x_C, x_D, x_var0, x_varS, x_T, x_toB, x_andT, x_orT, x_notT, x_andV, x_orV, x_notV, x_if, x_chain, x_neg, x_dneg, x_add, x_sub, x_lt, x_le, x_gt, x_ge, x_eq, x_ne, x_isN, x_tup, x_lst, x_N, x_isi, x_told, x_told_ok, x_isi_int_int, x_isi_int_bool, x_isi_int_str, x_isi_int_NoneType, x_isi_int_list, x_isi_int_tuple, x_isi_bool_int, x_isi_bool_bool, x_isi_bool_str, x_isi_bool_NoneType, x_isi_bool_list, x_isi_bool_tuple, x_isi_str_int, x_isi_str_bool, x_isi_str_str, x_isi_str_NoneType, x_isi_str_list, x_isi_str_tuple, x_isi_tuple_int, x_isi_tuple_bool, x_isi_tuple_str, x_isi_tuple_NoneType, x_isi_tuple_list, x_isi_tuple_tuple, x_isi_list_int, x_isi_list_bool, x_isi_list_str, x_isi_list_NoneType, x_isi_list_list, x_isi_list_tuple, x_run, x_fin_nx, x_fin_rt, x_fin_ex, x_div2, x_ixt0, x_ixt1, x_ixt2, x_ixt3, x_len_tup, x_len_list, List.length_cons, List.length_nil, cond_true, cond_false, decide_true, decide_false, Bool.not_true, Bool.not_false, List.set_cons_zero, List.set_cons_succ, if_false]
  | _ => rfl
/-- formulas -/
inductive Op where
  | add
  | sub
  | mul
def Op.s : Op → Str
  | .add => "add"
  | .sub => "sub"
  | .mul => "mul"
inductive Fm where
  | inp (i : Nat)
  | num (k : Int)
  | op (o : Op) (a b : Fm)
def Fm.enc : Fm → PyData
  | .inp i => .tuple [.str "in", .int i]
  | .num k => .tuple [.str "num", .int k]
  | .op o a b => .tuple [.str o.s, a.enc, b.enc]
def Fm.dep : Fm → Nat
  | .op _ a b => max a.dep b.dep + 1
  | .inp _ => 1
  | .num _ => 1
def Fm.wf (n : Nat) : Fm → Prop
  | .inp i => i < n
  | .num k => 0 ≤ k ∧ k ≤ 65535
  | .op _ a b => a.wf n ∧ b.wf n
def Op.val (o : Op) (x y : Int) : Int := match o with
  | .add => (x + y) % 65536
  | .sub => (x - y) % 65536
  | .mul => x * y % 65536
def Fm.val (vs : List Int) : Fm → Int
  | .inp i => vs.getD i 0
  | .num k => k
  | .op o a b => o.val (a.val vs) (b.val vs)
theorem op_shaped (o : Op) : SeqAt.shaped (.str o.s) = true := by cases o <;> decide +kernel
theorem enc_depth : ∀ f : Fm, f.enc.depth = f.dep
  | .inp i => rfl
  | .num k => rfl
  | .op o a b => by
    rw [Fm.enc, PyData.depth, PyData.depthAll, PyData.depthAll, PyData.depthAll, PyData.depthAll, enc_depth a, enc_depth b, Fm.dep]
    have : (PyData.str o.s).depth = 0 := by rw [PyData.depth]
    rw [this]
    omega
theorem shaped_si {s : Str} {i : Int} (h : SeqAt.shaped (.str s) = true) : SeqAt.shaped (.tuple [.str s, .int i]) = true := by
  refine shaped_tup_of (fun x hx => ?_) fun x hx => ?_
  · simp only [List.mem_cons, List.not_mem_nil, or_false] at hx
    rcases hx with rfl | rfl
    · exact h
    · rfl
  · simp only [List.mem_cons, List.not_mem_nil, or_false] at hx
    rcases hx with rfl | rfl <;> (rw [PyData.depth]; omega)
theorem enc_shaped {f : Fm} (h : f.dep ≤ 63) : SeqAt.shaped f.enc = true := by
  induction f with
  | inp i => exact shaped_si sh_in
  | num k => exact shaped_si sh_num
  | op o a b iha ihb =>
    rw [Fm.dep] at h
    refine shaped_tup_of (fun x hx => ?_) fun x hx => ?_
    · simp only [List.mem_cons, List.not_mem_nil, or_false] at hx
      rcases hx with rfl | rfl | rfl
      · exact op_shaped o
      · exact iha (by omega)
      · exact ihb (by omega)
    · simp only [List.mem_cons, List.not_mem_nil, or_false] at hx
      rcases hx with rfl | rfl | rfl
      · rw [PyData.depth]; omega
      · rw [enc_depth]; omega
      · rw [enc_depth]; omega
theorem val_word {n : Nat} {vs : List Int} (hl : vs.length = n) (hv : ∀ v ∈ vs, 0 ≤ v ∧ v ≤ 65535) : ∀ {f : Fm}, f.wf n → 0 ≤ f.val vs ∧ f.val vs ≤ 65535
  | .inp i, h => by
    have h : i < n := h
    show 0 ≤ vs.getD i 0 ∧ vs.getD i 0 ≤ 65535
    rw [List.getD_eq_getElem?_getD, List.getElem?_eq_getElem (by omega)]
    exact hv _ (List.getElem_mem _)
  | .num k, h => h
  | .op o a b, h => by
    show 0 ≤ o.val _ _ ∧ o.val _ _ ≤ 65535
    cases o <;> (unfold Op.val; dsimp only; omega)
theorem isF_enc {n : Nat} : ∀ {f : Fm} {m : Nat}, f.wf n → isF m n f.enc = decide (f.dep ≤ m)
  | .inp i, 0, _ => rfl
  | .num k, 0, _ => rfl
  | .op o a b, 0, _ => by
    rw [decide_eq_false (by rw [Fm.dep]; omega)]
    rfl
  | .inp i, m + 1, h => by
    have h : i < n := h
    rw [decide_eq_true (by rw [Fm.dep]; omega)]
    show isW (.int i) 0 ((n : Int) - 1) = true
    exact isW_yes (by omega) (by omega)
  | .num k, m + 1, h => by
    have h : 0 ≤ k ∧ k ≤ 65535 := h
    rw [decide_eq_true (by rw [Fm.dep]; omega)]
    show isWd (.int k) = true
    exact isW_yes h.1 h.2
  | .op o a b, m + 1, h => by
    have e : isF (m + 1) n (Fm.op o a b).enc = (isF m n a.enc && isF m n b.enc) := by cases o <;> rfl
    rw [e, isF_enc h.1, isF_enc h.2, Fm.dep, Bool.eq_iff_iff]
    simp only [Bool.and_eq_true, decide_eq_true_eq]
    omega
def Comb (f : Fn) : Prop := ∀ (o : Op) (x y : Int) (ms : List Nat) (st : List O), 0 ≤ x → x ≤ 65535 → 0 ≤ y → y ≤ 65535 → f [.p (.str o.s), .p (.int x), .p (.int y)] ms st = .ok (.p (.int (o.val x y))) st
theorem mulOk_words {x y : Int} (h1 : 0 ≤ x) (h2 : x ≤ 65535) (h3 : 0 ≤ y) (h4 : y ≤ 65535) : mulOk x y = true := mulOk_of (n := 17) (m := 17) (by omega) (by omega) (by decide)
theorem comb_ok {cl : Str → Fn} : Comb (runFn 3 (t_combined cl)) := by
  intro o x y ms st h1 h2 h3 h4
  rw [x_run]
  unfold t_combined
  have s1 : SeqAt.shaped (.str "add") = true := by decide +kernel
  have s2 : SeqAt.shaped (.str "sub") = true := by decide +kernel
  cases o with
  | add =>
    have e : eqS (.str Op.add.s) "add" = true := by decide +kernel
    simp only [List.map_cons, List.map_nil, List.length_cons, List.length_nil, List.cons_append, List.nil_append, x_seq, x_then_nx, x_then_rt, x_then_ex, x_then_bk, x_then_ct, x_next, x_brk, x_cnt, x_toS_ok, x_toS_ex, x_bind_ok, x_bind_ex, x_set, x_rtn, x_rtnN, x_expr, x_raise, x_ifS, x_par, x_m2, x_call, x_cons, x_nil, x_C, x_D, x_var0, x_varS, x_T, x_toB, x_andT, x_orT, x_notT, x_andV, x_orV, x_notV, x_if, x_chain, x_neg, x_dneg, x_add, x_sub, x_lt, x_le, x_gt, x_ge, x_eq, x_ne, x_isN, x_tup, x_lst, x_N, x_isi, x_told, x_told_ok, x_isi_int_int, x_isi_int_bool, x_isi_int_str, x_isi_int_NoneType, x_isi_int_list, x_isi_int_tuple, x_isi_bool_int, x_isi_bool_bool, x_isi_bool_str, x_isi_bool_NoneType, x_isi_bool_list, x_isi_bool_tuple, x_isi_str_int, x_isi_str_bool, x_isi_str_str, x_isi_str_NoneType, x_isi_str_list, x_isi_str_tuple, x_isi_tuple_int, x_isi_tuple_bool, x_isi_tuple_str, x_isi_tuple_NoneType, x_isi_tuple_list, x_isi_tuple_tuple, x_isi_list_int, x_isi_list_bool, x_isi_list_str, x_isi_list_NoneType, x_isi_list_list, x_isi_list_tuple, x_run, x_fin_nx, x_fin_rt, x_fin_ex, x_div2, x_ixt0, x_ixt1, x_ixt2, x_ixt3, x_len_tup, x_len_list, List.length_cons, List.length_nil, cond_true, cond_false, decide_true, decide_false, Bool.not_true, Bool.not_false, List.set_cons_zero, List.set_cons_succ, x_eq_str (op_shaped .add) s1, e]
    rw [x_mod (by decide)]
    rfl
  | sub =>
    have e : eqS (.str Op.sub.s) "add" = false := by decide +kernel
    have e2 : eqS (.str Op.sub.s) "sub" = true := by decide +kernel
    simp only [List.map_cons, List.map_nil, List.length_cons, List.length_nil, List.cons_append, List.nil_append, x_seq, x_then_nx, x_then_rt, x_then_ex, x_then_bk, x_then_ct, x_next, x_brk, x_cnt, x_toS_ok, x_toS_ex, x_bind_ok, x_bind_ex, x_set, x_rtn, x_rtnN, x_expr, x_raise, x_ifS, x_par, x_m2, x_call, x_cons, x_nil, x_C, x_D, x_var0, x_varS, x_T, x_toB, x_andT, x_orT, x_notT, x_andV, x_orV, x_notV, x_if, x_chain, x_neg, x_dneg, x_add, x_sub, x_lt, x_le, x_gt, x_ge, x_eq, x_ne, x_isN, x_tup, x_lst, x_N, x_isi, x_told, x_told_ok, x_isi_int_int, x_isi_int_bool, x_isi_int_str, x_isi_int_NoneType, x_isi_int_list, x_isi_int_tuple, x_isi_bool_int, x_isi_bool_bool, x_isi_bool_str, x_isi_bool_NoneType, x_isi_bool_list, x_isi_bool_tuple, x_isi_str_int, x_isi_str_bool, x_isi_str_str, x_isi_str_NoneType, x_isi_str_list, x_isi_str_tuple, x_isi_tuple_int, x_isi_tuple_bool, x_isi_tuple_str, x_isi_tuple_NoneType, x_isi_tuple_list, x_isi_tuple_tuple, x_isi_list_int, x_isi_list_bool, x_isi_list_str, x_isi_list_NoneType, x_isi_list_list, x_isi_list_tuple, x_run, x_fin_nx, x_fin_rt, x_fin_ex, x_div2, x_ixt0, x_ixt1, x_ixt2, x_ixt3, x_len_tup, x_len_list, List.length_cons, List.length_nil, cond_true, cond_false, decide_true, decide_false, Bool.not_true, Bool.not_false, List.set_cons_zero, List.set_cons_succ, x_eq_str (op_shaped .sub) s1, x_eq_str (op_shaped .sub) s2, e, e2]
    rw [x_mod (by decide)]
    rfl
  | mul =>
    have e : eqS (.str Op.mul.s) "add" = false := by decide +kernel
    have e2 : eqS (.str Op.mul.s) "sub" = false := by decide +kernel
    simp only [List.map_cons, List.map_nil, List.length_cons, List.length_nil, List.cons_append, List.nil_append, x_seq, x_then_nx, x_then_rt, x_then_ex, x_then_bk, x_then_ct, x_next, x_brk, x_cnt, x_toS_ok, x_toS_ex, x_bind_ok, x_bind_ex, x_set, x_rtn, x_rtnN, x_expr, x_raise, x_ifS, x_par, x_m2, x_call, x_cons, x_nil, x_C, x_D, x_var0, x_varS, x_T, x_toB, x_andT, x_orT, x_notT, x_andV, x_orV, x_notV, x_if, x_chain, x_neg, x_dneg, x_add, x_sub, x_lt, x_le, x_gt, x_ge, x_eq, x_ne, x_isN, x_tup, x_lst, x_N, x_isi, x_told, x_told_ok, x_isi_int_int, x_isi_int_bool, x_isi_int_str, x_isi_int_NoneType, x_isi_int_list, x_isi_int_tuple, x_isi_bool_int, x_isi_bool_bool, x_isi_bool_str, x_isi_bool_NoneType, x_isi_bool_list, x_isi_bool_tuple, x_isi_str_int, x_isi_str_bool, x_isi_str_str, x_isi_str_NoneType, x_isi_str_list, x_isi_str_tuple, x_isi_tuple_int, x_isi_tuple_bool, x_isi_tuple_str, x_isi_tuple_NoneType, x_isi_tuple_list, x_isi_tuple_tuple, x_isi_list_int, x_isi_list_bool, x_isi_list_str, x_isi_list_NoneType, x_isi_list_list, x_isi_list_tuple, x_run, x_fin_nx, x_fin_rt, x_fin_ex, x_div2, x_ixt0, x_ixt1, x_ixt2, x_ixt3, x_len_tup, x_len_list, List.length_cons, List.length_nil, cond_true, cond_false, decide_true, decide_false, Bool.not_true, Bool.not_false, List.set_cons_zero, List.set_cons_succ, x_eq_str (op_shaped .mul) s1, x_eq_str (op_shaped .mul) s2, e, e2, x_mul (mulOk_words h1 h2 h3 h4)]
    rw [x_mod (by decide)]
    rfl
/-- the value of a formula, at most so deep -/
def ValOf (f : Fn) (n : Nat) : Prop := ∀ (q : Fm) (vs : List Int) (ms : List Nat) (st : List O), q.dep ≤ n → n ≤ 63 → q.wf vs.length → (∀ v ∈ vs, 0 ≤ v ∧ v ≤ 65535) → f [.p q.enc, .p (.tuple (vs.map .int))] ms st = .ok (.p (.int (q.val vs))) st
theorem atI_ints {vs : List Int} {i : Nat} (h : i < vs.length) : atI (vs.map PyData.int) (i : Int) = some (.int (vs.getD i 0)) := by
  refine atI_nat ?_
  rw [List.getElem?_map, List.getElem?_eq_getElem h, List.getD_eq_getElem?_getD, List.getElem?_eq_getElem h]
  rfl
theorem x_ix_ints {vs : List Int} {i : Nat} {st : List O} (h : i < vs.length) : dIx (.p (.tuple (vs.map PyData.int))) (.p (.int i)) st = .ok (.p (.int (vs.getD i 0))) st := by
  rw [x_ix_tup, atI_ints h]
theorem val_of_ok {cl : Str → Fn} {n : Nat} (h1 : Comb (cl "combined")) (h2 : ∀ m, n = m + 1 → ValOf (cl "value_of") m) : ValOf (runFn 2 (t_value_of cl)) n := by
  intro q vs ms st hd hn hw hv
  rw [x_run]
  unfold t_value_of t_value_of_s0 t_value_of_s1 t_value_of_s2
  have i1 : eqS (.str "in") "in" = true := by decide +kernel
  have i2 : eqS (.str "num") "in" = false := by decide +kernel
  have i3 : eqS (.str "num") "num" = true := by decide +kernel
  have s1 : SeqAt.shaped (.str "in") = true := by decide +kernel
  have s2 : SeqAt.shaped (.str "num") = true := by decide +kernel
  cases q with
  | inp i =>
    have hi : i < vs.length := hw
    simp only [List.map_cons, List.map_nil, List.length_cons, List.length_nil, List.cons_append, List.nil_append, Fm.enc, x_seq, x_then_nx, x_then_rt, x_then_ex, x_then_bk, x_then_ct, x_next, x_brk, x_cnt, x_toS_ok, x_toS_ex, x_bind_ok, x_bind_ex, x_set, x_rtn, x_rtnN, x_expr, x_raise, x_ifS, x_par, x_m2, x_call, x_cons, x_nil, x_C, x_D, x_var0, x_varS, x_T, x_toB, x_andT, x_orT, x_notT, x_andV, x_orV, x_notV, x_if, x_chain, x_neg, x_dneg, x_add, x_sub, x_lt, x_le, x_gt, x_ge, x_eq, x_ne, x_isN, x_tup, x_lst, x_N, x_isi, x_told, x_told_ok, x_isi_int_int, x_isi_int_bool, x_isi_int_str, x_isi_int_NoneType, x_isi_int_list, x_isi_int_tuple, x_isi_bool_int, x_isi_bool_bool, x_isi_bool_str, x_isi_bool_NoneType, x_isi_bool_list, x_isi_bool_tuple, x_isi_str_int, x_isi_str_bool, x_isi_str_str, x_isi_str_NoneType, x_isi_str_list, x_isi_str_tuple, x_isi_tuple_int, x_isi_tuple_bool, x_isi_tuple_str, x_isi_tuple_NoneType, x_isi_tuple_list, x_isi_tuple_tuple, x_isi_list_int, x_isi_list_bool, x_isi_list_str, x_isi_list_NoneType, x_isi_list_list, x_isi_list_tuple, x_run, x_fin_nx, x_fin_rt, x_fin_ex, x_div2, x_ixt0, x_ixt1, x_ixt2, x_ixt3, x_len_tup, x_len_list, List.length_cons, List.length_nil, cond_true, cond_false, decide_true, decide_false, Bool.not_true, Bool.not_false, List.set_cons_zero, List.set_cons_succ, x_eq_str s1 s1, i1, x_ix_ints hi]
    rfl
  | num k =>
    simp only [List.map_cons, List.map_nil, List.length_cons, List.length_nil, List.cons_append, List.nil_append, Fm.enc, x_seq, x_then_nx, x_then_rt, x_then_ex, x_then_bk, x_then_ct, x_next, x_brk, x_cnt, x_toS_ok, x_toS_ex, x_bind_ok, x_bind_ex, x_set, x_rtn, x_rtnN, x_expr, x_raise, x_ifS, x_par, x_m2, x_call, x_cons, x_nil, x_C, x_D, x_var0, x_varS, x_T, x_toB, x_andT, x_orT, x_notT, x_andV, x_orV, x_notV, x_if, x_chain, x_neg, x_dneg, x_add, x_sub, x_lt, x_le, x_gt, x_ge, x_eq, x_ne, x_isN, x_tup, x_lst, x_N, x_isi, x_told, x_told_ok, x_isi_int_int, x_isi_int_bool, x_isi_int_str, x_isi_int_NoneType, x_isi_int_list, x_isi_int_tuple, x_isi_bool_int, x_isi_bool_bool, x_isi_bool_str, x_isi_bool_NoneType, x_isi_bool_list, x_isi_bool_tuple, x_isi_str_int, x_isi_str_bool, x_isi_str_str, x_isi_str_NoneType, x_isi_str_list, x_isi_str_tuple, x_isi_tuple_int, x_isi_tuple_bool, x_isi_tuple_str, x_isi_tuple_NoneType, x_isi_tuple_list, x_isi_tuple_tuple, x_isi_list_int, x_isi_list_bool, x_isi_list_str, x_isi_list_NoneType, x_isi_list_list, x_isi_list_tuple, x_run, x_fin_nx, x_fin_rt, x_fin_ex, x_div2, x_ixt0, x_ixt1, x_ixt2, x_ixt3, x_len_tup, x_len_list, List.length_cons, List.length_nil, cond_true, cond_false, decide_true, decide_false, Bool.not_true, Bool.not_false, List.set_cons_zero, List.set_cons_succ, x_eq_str s2 s1, x_eq_str s2 s2, i2, i3]
    rfl
  | op o a b =>
    rw [Fm.dep] at hd
    obtain ⟨m, rfl⟩ : ∃ m, n = m + 1 := ⟨n - 1, by omega⟩
    have ih := h2 m rfl
    have e1 : eqS (.str o.s) "in" = false := by cases o <;> decide +kernel
    have e2 : eqS (.str o.s) "num" = false := by cases o <;> decide +kernel
    have va := val_word rfl hv hw.1
    have vb := val_word rfl hv hw.2
    simp only [List.map_cons, List.map_nil, List.length_cons, List.length_nil, List.cons_append, List.nil_append, Fm.enc, x_seq, x_then_nx, x_then_rt, x_then_ex, x_then_bk, x_then_ct, x_next, x_brk, x_cnt, x_toS_ok, x_toS_ex, x_bind_ok, x_bind_ex, x_set, x_rtn, x_rtnN, x_expr, x_raise, x_ifS, x_par, x_m2, x_call, x_cons, x_nil, x_C, x_D, x_var0, x_varS, x_T, x_toB, x_andT, x_orT, x_notT, x_andV, x_orV, x_notV, x_if, x_chain, x_neg, x_dneg, x_add, x_sub, x_lt, x_le, x_gt, x_ge, x_eq, x_ne, x_isN, x_tup, x_lst, x_N, x_isi, x_told, x_told_ok, x_isi_int_int, x_isi_int_bool, x_isi_int_str, x_isi_int_NoneType, x_isi_int_list, x_isi_int_tuple, x_isi_bool_int, x_isi_bool_bool, x_isi_bool_str, x_isi_bool_NoneType, x_isi_bool_list, x_isi_bool_tuple, x_isi_str_int, x_isi_str_bool, x_isi_str_str, x_isi_str_NoneType, x_isi_str_list, x_isi_str_tuple, x_isi_tuple_int, x_isi_tuple_bool, x_isi_tuple_str, x_isi_tuple_NoneType, x_isi_tuple_list, x_isi_tuple_tuple, x_isi_list_int, x_isi_list_bool, x_isi_list_str, x_isi_list_NoneType, x_isi_list_list, x_isi_list_tuple, x_run, x_fin_nx, x_fin_rt, x_fin_ex, x_div2, x_ixt0, x_ixt1, x_ixt2, x_ixt3, x_len_tup, x_len_list, List.length_cons, List.length_nil, cond_true, cond_false, decide_true, decide_false, Bool.not_true, Bool.not_false, List.set_cons_zero, List.set_cons_succ, x_eq_str (op_shaped o) s1, x_eq_str (op_shaped o) s2, e1, e2, ih a vs _ _ (by omega) (by omega) hw.1 hv, ih b vs _ _ (by omega) (by omega) hw.2 hv, h1 o _ _ _ _ va.1 va.2 vb.1 vb.2]
    rfl
def okV (v : PyData) : Bool := match v with
  | .tuple l => decide (l.length ≤ 2) && (l.map isWd).all id
  | _ => false
theorem value_s0 {cl : Str → Fn} (h : IsWord (cl "is_word")) {d v : PyData} {x : Option D} {ms : List Nat} {st : List O} (hv : SeqAt.shaped v = true) : t_value_s0 cl ms [some (.p d), some (.p v), x] st = if okV v = true then .nx [some (.p d), some (.p v), x] st else .ex "InvalidValues" st := by
  unfold t_value_s0
  cases v with
  | tuple l =>
    by_cases hl : l.length ≤ 2
    · have hl' : ¬ ((2 : Int) < (l.length : Int)) := by omega
      have ec : mCompV false [2] 1 (.nm 2) mTrue (mCall (cl "is_word") (mCons (mVar 2) mNil)) ms [some (.p d), some (.p (.tuple l)), x] st = .ok (.p (.list ((l.map isWd).map .bool))) st := by
        rw [x_compV (p := .tuple l) rfl rfl, List.map_map]
        refine x_comp (x_it_tup rfl) (Nat.le_trans hl (by decide)) fun w hw => ⟨[some (.p d), some (.p (.tuple l)), some (.p w)], rfl, ?_⟩
        simp only [x_seq, x_then_nx, x_then_rt, x_then_ex, x_then_bk, x_then_ct, x_next, x_brk, x_cnt, x_toS_ok, x_toS_ex, x_bind_ok, x_bind_ex, x_set, x_rtn, x_rtnN, x_expr, x_raise, x_ifS, x_par, x_m2, x_call, x_cons, x_nil, x_C, x_D, x_var0, x_varS, x_T, x_toB, x_andT, x_orT, x_notT, x_andV, x_orV, x_notV, x_if, x_chain, x_neg, x_dneg, x_add, x_sub, x_lt, x_le, x_gt, x_ge, x_eq, x_ne, x_isN, x_tup, x_lst, x_N, x_isi, x_told, x_told_ok, x_isi_int_int, x_isi_int_bool, x_isi_int_str, x_isi_int_NoneType, x_isi_int_list, x_isi_int_tuple, x_isi_bool_int, x_isi_bool_bool, x_isi_bool_str, x_isi_bool_NoneType, x_isi_bool_list, x_isi_bool_tuple, x_isi_str_int, x_isi_str_bool, x_isi_str_str, x_isi_str_NoneType, x_isi_str_list, x_isi_str_tuple, x_isi_tuple_int, x_isi_tuple_bool, x_isi_tuple_str, x_isi_tuple_NoneType, x_isi_tuple_list, x_isi_tuple_tuple, x_isi_list_int, x_isi_list_bool, x_isi_list_str, x_isi_list_NoneType, x_isi_list_list, x_isi_list_tuple, x_run, x_fin_nx, x_fin_rt, x_fin_ex, x_div2, x_ixt0, x_ixt1, x_ixt2, x_ixt3, x_len_tup, x_len_list, List.length_cons, List.length_nil, cond_true, cond_false, decide_true, decide_false, Bool.not_true, Bool.not_false, List.set_cons_zero, List.set_cons_succ, h _ _ _ (noDict_of (shaped_tup hv hw))]
        rfl
      have eo : okV (.tuple l) = (l.map isWd).all id := by
        show (decide (l.length ≤ 2) && _) = _
        rw [decide_eq_true hl]
        rfl
      simp only [x_seq, x_then_nx, x_then_rt, x_then_ex, x_then_bk, x_then_ct, x_next, x_brk, x_cnt, x_toS_ok, x_toS_ex, x_bind_ok, x_bind_ex, x_set, x_rtn, x_rtnN, x_expr, x_raise, x_ifS, x_par, x_m2, x_call, x_cons, x_nil, x_C, x_D, x_var0, x_varS, x_T, x_toB, x_andT, x_orT, x_notT, x_andV, x_orV, x_notV, x_if, x_chain, x_neg, x_dneg, x_add, x_sub, x_lt, x_le, x_gt, x_ge, x_eq, x_ne, x_isN, x_tup, x_lst, x_N, x_isi, x_told, x_told_ok, x_isi_int_int, x_isi_int_bool, x_isi_int_str, x_isi_int_NoneType, x_isi_int_list, x_isi_int_tuple, x_isi_bool_int, x_isi_bool_bool, x_isi_bool_str, x_isi_bool_NoneType, x_isi_bool_list, x_isi_bool_tuple, x_isi_str_int, x_isi_str_bool, x_isi_str_str, x_isi_str_NoneType, x_isi_str_list, x_isi_str_tuple, x_isi_tuple_int, x_isi_tuple_bool, x_isi_tuple_str, x_isi_tuple_NoneType, x_isi_tuple_list, x_isi_tuple_tuple, x_isi_list_int, x_isi_list_bool, x_isi_list_str, x_isi_list_NoneType, x_isi_list_list, x_isi_list_tuple, x_run, x_fin_nx, x_fin_rt, x_fin_ex, x_div2, x_ixt0, x_ixt1, x_ixt2, x_ixt3, x_len_tup, x_len_list, List.length_cons, List.length_nil, cond_true, cond_false, decide_true, decide_false, Bool.not_true, Bool.not_false, List.set_cons_zero, List.set_cons_succ, hl', ec, x_all, eo]
      cases (l.map isWd).all id <;> simp only [x_seq, x_then_nx, x_then_rt, x_then_ex, x_then_bk, x_then_ct, x_next, x_brk, x_cnt, x_toS_ok, x_toS_ex, x_bind_ok, x_bind_ex, x_set, x_rtn, x_rtnN, x_expr, x_raise, x_ifS, x_par, x_m2, x_call, x_cons, x_nil, x_C, x_D, x_var0, x_varS, x_T, x_toB, x_andT, x_orT, x_notT, x_andV, x_orV, x_notV, x_if, x_chain, x_neg, x_dneg, x_add, x_sub, x_lt, x_le, x_gt, x_ge, x_eq, x_ne, x_isN, x_tup, x_lst, x_N, x_isi, x_told, x_told_ok, x_isi_int_int, x_isi_int_bool, x_isi_int_str, x_isi_int_NoneType, x_isi_int_list, x_isi_int_tuple, x_isi_bool_int, x_isi_bool_bool, x_isi_bool_str, x_isi_bool_NoneType, x_isi_bool_list, x_isi_bool_tuple, x_isi_str_int, x_isi_str_bool, x_isi_str_str, x_isi_str_NoneType, x_isi_str_list, x_isi_str_tuple, x_isi_tuple_int, x_isi_tuple_bool, x_isi_tuple_str, x_isi_tuple_NoneType, x_isi_tuple_list, x_isi_tuple_tuple, x_isi_list_int, x_isi_list_bool, x_isi_list_str, x_isi_list_NoneType, x_isi_list_list, x_isi_list_tuple, x_run, x_fin_nx, x_fin_rt, x_fin_ex, x_div2, x_ixt0, x_ixt1, x_ixt2, x_ixt3, x_len_tup, x_len_list, List.length_cons, List.length_nil, cond_true, cond_false, decide_true, decide_false, Bool.not_true, Bool.not_false, List.set_cons_zero, List.set_cons_succ, if_true, Bool.false_eq_true, if_false]
    · have hl' : (2 : Int) < (l.length : Int) := by omega
      have eo : okV (.tuple l) = false := by
        show (decide (l.length ≤ 2) && _) = _
        rw [decide_eq_false hl]
        rfl
      simp only [x_seq, x_then_nx, x_then_rt, x_then_ex, x_then_bk, x_then_ct, x_next, x_brk, x_cnt, x_toS_ok, x_toS_ex, x_bind_ok, x_bind_ex, x_set, x_rtn, x_rtnN, x_expr, x_raise, x_ifS, x_par, x_m2, x_call, x_cons, x_nil, x_C, x_D, x_var0, x_varS, x_T, x_toB, x_andT, x_orT, x_notT, x_andV, x_orV, x_notV, x_if, x_chain, x_neg, x_dneg, x_add, x_sub, x_lt, x_le, x_gt, x_ge, x_eq, x_ne, x_isN, x_tup, x_lst, x_N, x_isi, x_told, x_told_ok, x_isi_int_int, x_isi_int_bool, x_isi_int_str, x_isi_int_NoneType, x_isi_int_list, x_isi_int_tuple, x_isi_bool_int, x_isi_bool_bool, x_isi_bool_str, x_isi_bool_NoneType, x_isi_bool_list, x_isi_bool_tuple, x_isi_str_int, x_isi_str_bool, x_isi_str_str, x_isi_str_NoneType, x_isi_str_list, x_isi_str_tuple, x_isi_tuple_int, x_isi_tuple_bool, x_isi_tuple_str, x_isi_tuple_NoneType, x_isi_tuple_list, x_isi_tuple_tuple, x_isi_list_int, x_isi_list_bool, x_isi_list_str, x_isi_list_NoneType, x_isi_list_list, x_isi_list_tuple, x_run, x_fin_nx, x_fin_rt, x_fin_ex, x_div2, x_ixt0, x_ixt1, x_ixt2, x_ixt3, x_len_tup, x_len_list, List.length_cons, List.length_nil, cond_true, cond_false, decide_true, decide_false, Bool.not_true, Bool.not_false, List.set_cons_zero, List.set_cons_succ, hl', eo, Bool.false_eq_true, if_false]
  | dict l => cases hv
  | int i => simp only [x_seq, x_then_nx, x_then_rt, x_then_ex, x_then_bk, x_then_ct, x_next, x_brk, x_cnt, x_toS_ok, x_toS_ex, x_bind_ok, x_bind_ex, x_set, x_rtn, x_rtnN, x_expr, x_raise, x_ifS, x_par, x_m2, x_call, x_cons, x_nil, x_C, x_D, x_var0, x_varS, x_T, x_toB, x_andT, x_orT, x_notT, x_andV, x_orV, x_notV, x_if, x_chain, x_neg, x_dneg, x_add, x_sub, x_lt, x_le, x_gt, x_ge, x_eq, x_ne, x_isN, x_tup, x_lst, x_N, x_isi, x_told, x_told_ok, x_isi_int_int, x_isi_int_bool, x_isi_int_str, x_isi_int_NoneType, x_isi_int_list, x_isi_int_tuple, x_isi_bool_int, x_isi_bool_bool, x_isi_bool_str, x_isi_bool_NoneType, x_isi_bool_list, x_isi_bool_tuple, x_isi_str_int, x_isi_str_bool, x_isi_str_str, x_isi_str_NoneType, x_isi_str_list, x_isi_str_tuple, x_isi_tuple_int, x_isi_tuple_bool, x_isi_tuple_str, x_isi_tuple_NoneType, x_isi_tuple_list, x_isi_tuple_tuple, x_isi_list_int, x_isi_list_bool, x_isi_list_str, x_isi_list_NoneType, x_isi_list_list, x_isi_list_tuple, x_run, x_fin_nx, x_fin_rt, x_fin_ex, x_div2, x_ixt0, x_ixt1, x_ixt2, x_ixt3, x_len_tup, x_len_list, List.length_cons, List.length_nil, cond_true, cond_false, decide_true, decide_false, Bool.not_true, Bool.not_false, List.set_cons_zero, List.set_cons_succ]; rfl
  | bool i => simp only [x_seq, x_then_nx, x_then_rt, x_then_ex, x_then_bk, x_then_ct, x_next, x_brk, x_cnt, x_toS_ok, x_toS_ex, x_bind_ok, x_bind_ex, x_set, x_rtn, x_rtnN, x_expr, x_raise, x_ifS, x_par, x_m2, x_call, x_cons, x_nil, x_C, x_D, x_var0, x_varS, x_T, x_toB, x_andT, x_orT, x_notT, x_andV, x_orV, x_notV, x_if, x_chain, x_neg, x_dneg, x_add, x_sub, x_lt, x_le, x_gt, x_ge, x_eq, x_ne, x_isN, x_tup, x_lst, x_N, x_isi, x_told, x_told_ok, x_isi_int_int, x_isi_int_bool, x_isi_int_str, x_isi_int_NoneType, x_isi_int_list, x_isi_int_tuple, x_isi_bool_int, x_isi_bool_bool, x_isi_bool_str, x_isi_bool_NoneType, x_isi_bool_list, x_isi_bool_tuple, x_isi_str_int, x_isi_str_bool, x_isi_str_str, x_isi_str_NoneType, x_isi_str_list, x_isi_str_tuple, x_isi_tuple_int, x_isi_tuple_bool, x_isi_tuple_str, x_isi_tuple_NoneType, x_isi_tuple_list, x_isi_tuple_tuple, x_isi_list_int, x_isi_list_bool, x_isi_list_str, x_isi_list_NoneType, x_isi_list_list, x_isi_list_tuple, x_run, x_fin_nx, x_fin_rt, x_fin_ex, x_div2, x_ixt0, x_ixt1, x_ixt2, x_ixt3, x_len_tup, x_len_list, List.length_cons, List.length_nil, cond_true, cond_false, decide_true, decide_false, Bool.not_true, Bool.not_false, List.set_cons_zero, List.set_cons_succ]; rfl
  | none => simp only [x_seq, x_then_nx, x_then_rt, x_then_ex, x_then_bk, x_then_ct, x_next, x_brk, x_cnt, x_toS_ok, x_toS_ex, x_bind_ok, x_bind_ex, x_set, x_rtn, x_rtnN, x_expr, x_raise, x_ifS, x_par, x_m2, x_call, x_cons, x_nil, x_C, x_D, x_var0, x_varS, x_T, x_toB, x_andT, x_orT, x_notT, x_andV, x_orV, x_notV, x_if, x_chain, x_neg, x_dneg, x_add, x_sub, x_lt, x_le, x_gt, x_ge, x_eq, x_ne, x_isN, x_tup, x_lst, x_N, x_isi, x_told, x_told_ok, x_isi_int_int, x_isi_int_bool, x_isi_int_str, x_isi_int_NoneType, x_isi_int_list, x_isi_int_tuple, x_isi_bool_int, x_isi_bool_bool, x_isi_bool_str, x_isi_bool_NoneType, x_isi_bool_list, x_isi_bool_tuple, x_isi_str_int, x_isi_str_bool, x_isi_str_str, x_isi_str_NoneType, x_isi_str_list, x_isi_str_tuple, x_isi_tuple_int, x_isi_tuple_bool, x_isi_tuple_str, x_isi_tuple_NoneType, x_isi_tuple_list, x_isi_tuple_tuple, x_isi_list_int, x_isi_list_bool, x_isi_list_str, x_isi_list_NoneType, x_isi_list_list, x_isi_list_tuple, x_run, x_fin_nx, x_fin_rt, x_fin_ex, x_div2, x_ixt0, x_ixt1, x_ixt2, x_ixt3, x_len_tup, x_len_list, List.length_cons, List.length_nil, cond_true, cond_false, decide_true, decide_false, Bool.not_true, Bool.not_false, List.set_cons_zero, List.set_cons_succ]; rfl
  | str i => simp only [x_seq, x_then_nx, x_then_rt, x_then_ex, x_then_bk, x_then_ct, x_next, x_brk, x_cnt, x_toS_ok, x_toS_ex, x_bind_ok, x_bind_ex, x_set, x_rtn, x_rtnN, x_expr, x_raise, x_ifS, x_par, x_m2, x_call, x_cons, x_nil, x_C, x_D, x_var0, x_varS, x_T, x_toB, x_andT, x_orT, x_notT, x_andV, x_orV, x_notV, x_if, x_chain, x_neg, x_dneg, x_add, x_sub, x_lt, x_le, x_gt, x_ge, x_eq, x_ne, x_isN, x_tup, x_lst, x_N, x_isi, x_told, x_told_ok, x_isi_int_int, x_isi_int_bool, x_isi_int_str, x_isi_int_NoneType, x_isi_int_list, x_isi_int_tuple, x_isi_bool_int, x_isi_bool_bool, x_isi_bool_str, x_isi_bool_NoneType, x_isi_bool_list, x_isi_bool_tuple, x_isi_str_int, x_isi_str_bool, x_isi_str_str, x_isi_str_NoneType, x_isi_str_list, x_isi_str_tuple, x_isi_tuple_int, x_isi_tuple_bool, x_isi_tuple_str, x_isi_tuple_NoneType, x_isi_tuple_list, x_isi_tuple_tuple, x_isi_list_int, x_isi_list_bool, x_isi_list_str, x_isi_list_NoneType, x_isi_list_list, x_isi_list_tuple, x_run, x_fin_nx, x_fin_rt, x_fin_ex, x_div2, x_ixt0, x_ixt1, x_ixt2, x_ixt3, x_len_tup, x_len_list, List.length_cons, List.length_nil, cond_true, cond_false, decide_true, decide_false, Bool.not_true, Bool.not_false, List.set_cons_zero, List.set_cons_succ]; rfl
  | list i => simp only [x_seq, x_then_nx, x_then_rt, x_then_ex, x_then_bk, x_then_ct, x_next, x_brk, x_cnt, x_toS_ok, x_toS_ex, x_bind_ok, x_bind_ex, x_set, x_rtn, x_rtnN, x_expr, x_raise, x_ifS, x_par, x_m2, x_call, x_cons, x_nil, x_C, x_D, x_var0, x_varS, x_T, x_toB, x_andT, x_orT, x_notT, x_andV, x_orV, x_notV, x_if, x_chain, x_neg, x_dneg, x_add, x_sub, x_lt, x_le, x_gt, x_ge, x_eq, x_ne, x_isN, x_tup, x_lst, x_N, x_isi, x_told, x_told_ok, x_isi_int_int, x_isi_int_bool, x_isi_int_str, x_isi_int_NoneType, x_isi_int_list, x_isi_int_tuple, x_isi_bool_int, x_isi_bool_bool, x_isi_bool_str, x_isi_bool_NoneType, x_isi_bool_list, x_isi_bool_tuple, x_isi_str_int, x_isi_str_bool, x_isi_str_str, x_isi_str_NoneType, x_isi_str_list, x_isi_str_tuple, x_isi_tuple_int, x_isi_tuple_bool, x_isi_tuple_str, x_isi_tuple_NoneType, x_isi_tuple_list, x_isi_tuple_tuple, x_isi_list_int, x_isi_list_bool, x_isi_list_str, x_isi_list_NoneType, x_isi_list_list, x_isi_list_tuple, x_run, x_fin_nx, x_fin_rt, x_fin_ex, x_div2, x_ixt0, x_ixt1, x_ixt2, x_ixt3, x_len_tup, x_len_list, List.length_cons, List.length_nil, cond_true, cond_false, decide_true, decide_false, Bool.not_true, Bool.not_false, List.set_cons_zero, List.set_cons_succ]; rfl
structure ValueFn (f : Fn) : Prop where
  ok : ∀ (q : Fm) (vs : List Int) (ms : List Nat) (st : List O), q.dep ≤ 8 → vs.length ≤ 2 → q.wf vs.length → (∀ v ∈ vs, 0 ≤ v ∧ v ≤ 65535) → f [.p q.enc, .p (.tuple (vs.map .int))] ms st = .ok (.p (.int (q.val vs))) st
  badF : ∀ (d : PyData) (l : List PyData) (ms : List Nat) (st : List O), SeqAt.shaped d = true → SeqAt.shaped (.tuple l) = true → okV (.tuple l) = true → isF 8 l.length d = false → f [.p d, .p (.tuple l)] ms st = .ex "InvalidFormula" st
  badV : ∀ (d v : PyData) (ms : List Nat) (st : List O), SeqAt.shaped v = true → okV v = false → f [.p d, .p v] ms st = .ex "InvalidValues" st
theorem shaped_intsT {vs : List Int} : SeqAt.shaped (.tuple (vs.map .int)) = true := by
  refine shaped_tup_of (fun x hx => ?_) fun x hx => ?_
  · obtain ⟨i, _, rfl⟩ := List.mem_map.mp hx
    rfl
  · obtain ⟨i, _, rfl⟩ := List.mem_map.mp hx
    rw [PyData.depth]
    omega
theorem okV_ints {vs : List Int} (hl : vs.length ≤ 2) (hv : ∀ v ∈ vs, 0 ≤ v ∧ v ≤ 65535) : okV (.tuple (vs.map .int)) = true := by
  show (decide ((vs.map PyData.int).length ≤ 2) && _) = true
  rw [decide_eq_true (by rw [List.length_map]; exact hl), Bool.true_and, List.all_eq_true]
  intro b hb
  rw [List.map_map] at hb
  obtain ⟨i, hi, rfl⟩ := List.mem_map.mp hb
  exact isW_yes (hv i hi).1 (hv i hi).2
theorem value_ok {cl : Str → Fn} (h1 : IsWord (cl "is_word")) (h2 : NeedF (cl "need_formula")) (h3 : ValOf (cl "value_of") 8) : ValueFn (runFn 3 (t_value cl)) where
  ok := fun q vs ms st hd hl hw hv => by
    have e0 : List.replicate (3 - (0 + 1 + 1)) (none : Option D) = [none] := rfl
    have n1 := h2 q.enc (.int vs.length) ms st (enc_shaped (by omega)) rfl
    have f1 : isF 8 vs.length q.enc = true := by rw [isF_enc hw, decide_eq_true hd]
    have i1 : 0 ≤ (vs.length : Int) ∧ (vs.length : Int) ≤ 2 := by omega
    dsimp only at n1
    rw [if_pos i1, if_pos f1] at n1
    rw [x_run]
    unfold t_value t_value_s1 t_value_s2
    simp only [List.map_cons, List.map_nil, List.length_cons, List.length_nil, List.cons_append, List.nil_append, e0, x_seq, value_s0 h1 shaped_intsT, okV_ints hl hv, if_true, x_seq, x_then_nx, x_then_rt, x_then_ex, x_then_bk, x_then_ct, x_next, x_brk, x_cnt, x_toS_ok, x_toS_ex, x_bind_ok, x_bind_ex, x_set, x_rtn, x_rtnN, x_expr, x_raise, x_ifS, x_par, x_m2, x_call, x_cons, x_nil, x_C, x_D, x_var0, x_varS, x_T, x_toB, x_andT, x_orT, x_notT, x_andV, x_orV, x_notV, x_if, x_chain, x_neg, x_dneg, x_add, x_sub, x_lt, x_le, x_gt, x_ge, x_eq, x_ne, x_isN, x_tup, x_lst, x_N, x_isi, x_told, x_told_ok, x_isi_int_int, x_isi_int_bool, x_isi_int_str, x_isi_int_NoneType, x_isi_int_list, x_isi_int_tuple, x_isi_bool_int, x_isi_bool_bool, x_isi_bool_str, x_isi_bool_NoneType, x_isi_bool_list, x_isi_bool_tuple, x_isi_str_int, x_isi_str_bool, x_isi_str_str, x_isi_str_NoneType, x_isi_str_list, x_isi_str_tuple, x_isi_tuple_int, x_isi_tuple_bool, x_isi_tuple_str, x_isi_tuple_NoneType, x_isi_tuple_list, x_isi_tuple_tuple, x_isi_list_int, x_isi_list_bool, x_isi_list_str, x_isi_list_NoneType, x_isi_list_list, x_isi_list_tuple, x_run, x_fin_nx, x_fin_rt, x_fin_ex, x_div2, x_ixt0, x_ixt1, x_ixt2, x_ixt3, x_len_tup, x_len_list, List.length_cons, List.length_nil, cond_true, cond_false, decide_true, decide_false, Bool.not_true, Bool.not_false, List.set_cons_zero, List.set_cons_succ, List.length_map, n1, h3 q vs ms st hd (by decide) hw hv]
  badF := fun d l ms st hd hs hl hf => by
    have e0 : List.replicate (3 - (0 + 1 + 1)) (none : Option D) = [none] := rfl
    have n1 := h2 d (.int l.length) ms st hd rfl
    have hl2 : l.length ≤ 2 := by
      have z : (decide (l.length ≤ 2) && (l.map isWd).all id) = true := hl
      rw [Bool.and_eq_true] at z
      exact of_decide_eq_true z.1
    have i1 : 0 ≤ (l.length : Int) ∧ (l.length : Int) ≤ 2 := by omega
    dsimp only at n1
    rw [if_pos i1, if_neg (by rw [hf]; decide)] at n1
    rw [x_run]
    unfold t_value t_value_s1 t_value_s2
    simp only [List.map_cons, List.map_nil, List.length_cons, List.length_nil, List.cons_append, List.nil_append, e0, x_seq, value_s0 h1 hs, hl, if_true, x_seq, x_then_nx, x_then_rt, x_then_ex, x_then_bk, x_then_ct, x_next, x_brk, x_cnt, x_toS_ok, x_toS_ex, x_bind_ok, x_bind_ex, x_set, x_rtn, x_rtnN, x_expr, x_raise, x_ifS, x_par, x_m2, x_call, x_cons, x_nil, x_C, x_D, x_var0, x_varS, x_T, x_toB, x_andT, x_orT, x_notT, x_andV, x_orV, x_notV, x_if, x_chain, x_neg, x_dneg, x_add, x_sub, x_lt, x_le, x_gt, x_ge, x_eq, x_ne, x_isN, x_tup, x_lst, x_N, x_isi, x_told, x_told_ok, x_isi_int_int, x_isi_int_bool, x_isi_int_str, x_isi_int_NoneType, x_isi_int_list, x_isi_int_tuple, x_isi_bool_int, x_isi_bool_bool, x_isi_bool_str, x_isi_bool_NoneType, x_isi_bool_list, x_isi_bool_tuple, x_isi_str_int, x_isi_str_bool, x_isi_str_str, x_isi_str_NoneType, x_isi_str_list, x_isi_str_tuple, x_isi_tuple_int, x_isi_tuple_bool, x_isi_tuple_str, x_isi_tuple_NoneType, x_isi_tuple_list, x_isi_tuple_tuple, x_isi_list_int, x_isi_list_bool, x_isi_list_str, x_isi_list_NoneType, x_isi_list_list, x_isi_list_tuple, x_run, x_fin_nx, x_fin_rt, x_fin_ex, x_div2, x_ixt0, x_ixt1, x_ixt2, x_ixt3, x_len_tup, x_len_list, List.length_cons, List.length_nil, cond_true, cond_false, decide_true, decide_false, Bool.not_true, Bool.not_false, List.set_cons_zero, List.set_cons_succ, n1]
  badV := fun d v ms st hs hv => by
    have e0 : List.replicate (3 - (0 + 1 + 1)) (none : Option D) = [none] := rfl
    rw [x_run]
    unfold t_value t_value_s1 t_value_s2
    simp only [List.map_cons, List.map_nil, List.length_cons, List.length_nil, List.cons_append, List.nil_append, e0, x_seq, value_s0 h1 hs, hv, Bool.false_eq_true, if_false, x_seq, x_then_nx, x_then_rt, x_then_ex, x_then_bk, x_then_ct, x_next, x_brk, x_cnt, x_toS_ok, x_toS_ex, x_bind_ok, x_bind_ex, x_set, x_rtn, x_rtnN, x_expr, x_raise, x_ifS, x_par, x_m2, x_call, x_cons, x_nil, x_C, x_D, x_var0, x_varS, x_T, x_toB, x_andT, x_orT, x_notT, x_andV, x_orV, x_notV, x_if, x_chain, x_neg, x_dneg, x_add, x_sub, x_lt, x_le, x_gt, x_ge, x_eq, x_ne, x_isN, x_tup, x_lst, x_N, x_isi, x_told, x_told_ok, x_isi_int_int, x_isi_int_bool, x_isi_int_str, x_isi_int_NoneType, x_isi_int_list, x_isi_int_tuple, x_isi_bool_int, x_isi_bool_bool, x_isi_bool_str, x_isi_bool_NoneType, x_isi_bool_list, x_isi_bool_tuple, x_isi_str_int, x_isi_str_bool, x_isi_str_str, x_isi_str_NoneType, x_isi_str_list, x_isi_str_tuple, x_isi_tuple_int, x_isi_tuple_bool, x_isi_tuple_str, x_isi_tuple_NoneType, x_isi_tuple_list, x_isi_tuple_tuple, x_isi_list_int, x_isi_list_bool, x_isi_list_str, x_isi_list_NoneType, x_isi_list_list, x_isi_list_tuple, x_run, x_fin_nx, x_fin_rt, x_fin_ex, x_div2, x_ixt0, x_ixt1, x_ixt2, x_ixt3, x_len_tup, x_len_list, List.length_cons, List.length_nil, cond_true, cond_false, decide_true, decide_false, Bool.not_true, Bool.not_false, List.set_cons_zero, List.set_cons_succ]
theorem worth_ok {cl : Str → Fn} {n : Nat} (h2 : ∀ m, n = m + 1 → ValOf (cl "_law_worth") m) : ValOf (runFn 4 (t__law_worth cl)) n := by
  intro q vs ms st hd hn hw hv
  have e0 : List.replicate (4 - (0 + 1 + 1)) (none : Option D) = [none, none] := rfl
  rw [x_run]
  unfold t__law_worth t__law_worth_s0 t__law_worth_s1 t__law_worth_s2 t__law_worth_s3 t__law_worth_s4
  have i1 : eqS (.str "in") "in" = true := by decide +kernel
  have i2 : eqS (.str "num") "in" = false := by decide +kernel
  have i3 : eqS (.str "num") "num" = true := by decide +kernel
  have s1 : SeqAt.shaped (.str "add") = true := by decide +kernel
  have s2 : SeqAt.shaped (.str "sub") = true := by decide +kernel
  cases q with
  | inp i =>
    have hi : i < vs.length := hw
    simp only [List.map_cons, List.map_nil, List.length_cons, List.length_nil, List.cons_append, List.nil_append, e0, Fm.enc, x_seq, x_then_nx, x_then_rt, x_then_ex, x_then_bk, x_then_ct, x_next, x_brk, x_cnt, x_toS_ok, x_toS_ex, x_bind_ok, x_bind_ex, x_set, x_rtn, x_rtnN, x_expr, x_raise, x_ifS, x_par, x_m2, x_call, x_cons, x_nil, x_C, x_D, x_var0, x_varS, x_T, x_toB, x_andT, x_orT, x_notT, x_andV, x_orV, x_notV, x_if, x_chain, x_neg, x_dneg, x_add, x_sub, x_lt, x_le, x_gt, x_ge, x_eq, x_ne, x_isN, x_tup, x_lst, x_N, x_isi, x_told, x_told_ok, x_isi_int_int, x_isi_int_bool, x_isi_int_str, x_isi_int_NoneType, x_isi_int_list, x_isi_int_tuple, x_isi_bool_int, x_isi_bool_bool, x_isi_bool_str, x_isi_bool_NoneType, x_isi_bool_list, x_isi_bool_tuple, x_isi_str_int, x_isi_str_bool, x_isi_str_str, x_isi_str_NoneType, x_isi_str_list, x_isi_str_tuple, x_isi_tuple_int, x_isi_tuple_bool, x_isi_tuple_str, x_isi_tuple_NoneType, x_isi_tuple_list, x_isi_tuple_tuple, x_isi_list_int, x_isi_list_bool, x_isi_list_str, x_isi_list_NoneType, x_isi_list_list, x_isi_list_tuple, x_run, x_fin_nx, x_fin_rt, x_fin_ex, x_div2, x_ixt0, x_ixt1, x_ixt2, x_ixt3, x_len_tup, x_len_list, List.length_cons, List.length_nil, cond_true, cond_false, decide_true, decide_false, Bool.not_true, Bool.not_false, List.set_cons_zero, List.set_cons_succ, x_eq_str sh_in sh_in, i1, x_ix_ints hi]
    rfl
  | num k =>
    simp only [List.map_cons, List.map_nil, List.length_cons, List.length_nil, List.cons_append, List.nil_append, e0, Fm.enc, x_seq, x_then_nx, x_then_rt, x_then_ex, x_then_bk, x_then_ct, x_next, x_brk, x_cnt, x_toS_ok, x_toS_ex, x_bind_ok, x_bind_ex, x_set, x_rtn, x_rtnN, x_expr, x_raise, x_ifS, x_par, x_m2, x_call, x_cons, x_nil, x_C, x_D, x_var0, x_varS, x_T, x_toB, x_andT, x_orT, x_notT, x_andV, x_orV, x_notV, x_if, x_chain, x_neg, x_dneg, x_add, x_sub, x_lt, x_le, x_gt, x_ge, x_eq, x_ne, x_isN, x_tup, x_lst, x_N, x_isi, x_told, x_told_ok, x_isi_int_int, x_isi_int_bool, x_isi_int_str, x_isi_int_NoneType, x_isi_int_list, x_isi_int_tuple, x_isi_bool_int, x_isi_bool_bool, x_isi_bool_str, x_isi_bool_NoneType, x_isi_bool_list, x_isi_bool_tuple, x_isi_str_int, x_isi_str_bool, x_isi_str_str, x_isi_str_NoneType, x_isi_str_list, x_isi_str_tuple, x_isi_tuple_int, x_isi_tuple_bool, x_isi_tuple_str, x_isi_tuple_NoneType, x_isi_tuple_list, x_isi_tuple_tuple, x_isi_list_int, x_isi_list_bool, x_isi_list_str, x_isi_list_NoneType, x_isi_list_list, x_isi_list_tuple, x_run, x_fin_nx, x_fin_rt, x_fin_ex, x_div2, x_ixt0, x_ixt1, x_ixt2, x_ixt3, x_len_tup, x_len_list, List.length_cons, List.length_nil, cond_true, cond_false, decide_true, decide_false, Bool.not_true, Bool.not_false, List.set_cons_zero, List.set_cons_succ, x_eq_str sh_num sh_in, x_eq_str sh_num sh_num, i2, i3]
    rfl
  | op o a b =>
    rw [Fm.dep] at hd
    obtain ⟨m, rfl⟩ : ∃ m, n = m + 1 := ⟨n - 1, by omega⟩
    have ih := h2 m rfl
    have e1 : eqS (.str o.s) "in" = false := by cases o <;> decide +kernel
    have e2 : eqS (.str o.s) "num" = false := by cases o <;> decide +kernel
    have va := val_word rfl hv hw.1
    have vb := val_word rfl hv hw.2
    simp only [List.map_cons, List.map_nil, List.length_cons, List.length_nil, List.cons_append, List.nil_append, e0, Fm.enc, x_seq, x_then_nx, x_then_rt, x_then_ex, x_then_bk, x_then_ct, x_next, x_brk, x_cnt, x_toS_ok, x_toS_ex, x_bind_ok, x_bind_ex, x_set, x_rtn, x_rtnN, x_expr, x_raise, x_ifS, x_par, x_m2, x_call, x_cons, x_nil, x_C, x_D, x_var0, x_varS, x_T, x_toB, x_andT, x_orT, x_notT, x_andV, x_orV, x_notV, x_if, x_chain, x_neg, x_dneg, x_add, x_sub, x_lt, x_le, x_gt, x_ge, x_eq, x_ne, x_isN, x_tup, x_lst, x_N, x_isi, x_told, x_told_ok, x_isi_int_int, x_isi_int_bool, x_isi_int_str, x_isi_int_NoneType, x_isi_int_list, x_isi_int_tuple, x_isi_bool_int, x_isi_bool_bool, x_isi_bool_str, x_isi_bool_NoneType, x_isi_bool_list, x_isi_bool_tuple, x_isi_str_int, x_isi_str_bool, x_isi_str_str, x_isi_str_NoneType, x_isi_str_list, x_isi_str_tuple, x_isi_tuple_int, x_isi_tuple_bool, x_isi_tuple_str, x_isi_tuple_NoneType, x_isi_tuple_list, x_isi_tuple_tuple, x_isi_list_int, x_isi_list_bool, x_isi_list_str, x_isi_list_NoneType, x_isi_list_list, x_isi_list_tuple, x_run, x_fin_nx, x_fin_rt, x_fin_ex, x_div2, x_ixt0, x_ixt1, x_ixt2, x_ixt3, x_len_tup, x_len_list, List.length_cons, List.length_nil, cond_true, cond_false, decide_true, decide_false, Bool.not_true, Bool.not_false, List.set_cons_zero, List.set_cons_succ, x_eq_str (op_shaped o) sh_in, x_eq_str (op_shaped o) sh_num, e1, e2, ih a vs _ _ (by omega) (by omega) hw.1 hv, ih b vs _ _ (by omega) (by omega) hw.2 hv, x_eq_str (op_shaped o) s1, x_eq_str (op_shaped o) s2]
    cases o with
    | add =>
      have e : eqS (.str Op.add.s) "add" = true := by decide +kernel
      simp only [x_seq, x_then_nx, x_then_rt, x_then_ex, x_then_bk, x_then_ct, x_next, x_brk, x_cnt, x_toS_ok, x_toS_ex, x_bind_ok, x_bind_ex, x_set, x_rtn, x_rtnN, x_expr, x_raise, x_ifS, x_par, x_m2, x_call, x_cons, x_nil, x_C, x_D, x_var0, x_varS, x_T, x_toB, x_andT, x_orT, x_notT, x_andV, x_orV, x_notV, x_if, x_chain, x_neg, x_dneg, x_add, x_sub, x_lt, x_le, x_gt, x_ge, x_eq, x_ne, x_isN, x_tup, x_lst, x_N, x_isi, x_told, x_told_ok, x_isi_int_int, x_isi_int_bool, x_isi_int_str, x_isi_int_NoneType, x_isi_int_list, x_isi_int_tuple, x_isi_bool_int, x_isi_bool_bool, x_isi_bool_str, x_isi_bool_NoneType, x_isi_bool_list, x_isi_bool_tuple, x_isi_str_int, x_isi_str_bool, x_isi_str_str, x_isi_str_NoneType, x_isi_str_list, x_isi_str_tuple, x_isi_tuple_int, x_isi_tuple_bool, x_isi_tuple_str, x_isi_tuple_NoneType, x_isi_tuple_list, x_isi_tuple_tuple, x_isi_list_int, x_isi_list_bool, x_isi_list_str, x_isi_list_NoneType, x_isi_list_list, x_isi_list_tuple, x_run, x_fin_nx, x_fin_rt, x_fin_ex, x_div2, x_ixt0, x_ixt1, x_ixt2, x_ixt3, x_len_tup, x_len_list, List.length_cons, List.length_nil, cond_true, cond_false, decide_true, decide_false, Bool.not_true, Bool.not_false, List.set_cons_zero, List.set_cons_succ, e]
      rw [x_mod (by decide)]
      rfl
    | sub =>
      have e : eqS (.str Op.sub.s) "add" = false := by decide +kernel
      have e2 : eqS (.str Op.sub.s) "sub" = true := by decide +kernel
      simp only [x_seq, x_then_nx, x_then_rt, x_then_ex, x_then_bk, x_then_ct, x_next, x_brk, x_cnt, x_toS_ok, x_toS_ex, x_bind_ok, x_bind_ex, x_set, x_rtn, x_rtnN, x_expr, x_raise, x_ifS, x_par, x_m2, x_call, x_cons, x_nil, x_C, x_D, x_var0, x_varS, x_T, x_toB, x_andT, x_orT, x_notT, x_andV, x_orV, x_notV, x_if, x_chain, x_neg, x_dneg, x_add, x_sub, x_lt, x_le, x_gt, x_ge, x_eq, x_ne, x_isN, x_tup, x_lst, x_N, x_isi, x_told, x_told_ok, x_isi_int_int, x_isi_int_bool, x_isi_int_str, x_isi_int_NoneType, x_isi_int_list, x_isi_int_tuple, x_isi_bool_int, x_isi_bool_bool, x_isi_bool_str, x_isi_bool_NoneType, x_isi_bool_list, x_isi_bool_tuple, x_isi_str_int, x_isi_str_bool, x_isi_str_str, x_isi_str_NoneType, x_isi_str_list, x_isi_str_tuple, x_isi_tuple_int, x_isi_tuple_bool, x_isi_tuple_str, x_isi_tuple_NoneType, x_isi_tuple_list, x_isi_tuple_tuple, x_isi_list_int, x_isi_list_bool, x_isi_list_str, x_isi_list_NoneType, x_isi_list_list, x_isi_list_tuple, x_run, x_fin_nx, x_fin_rt, x_fin_ex, x_div2, x_ixt0, x_ixt1, x_ixt2, x_ixt3, x_len_tup, x_len_list, List.length_cons, List.length_nil, cond_true, cond_false, decide_true, decide_false, Bool.not_true, Bool.not_false, List.set_cons_zero, List.set_cons_succ, e, x_eq_str (op_shaped .sub) s2, e2]
      rw [x_mod (by decide)]
      rfl
    | mul =>
      have e : eqS (.str Op.mul.s) "add" = false := by decide +kernel
      have e2 : eqS (.str Op.mul.s) "sub" = false := by decide +kernel
      simp only [x_seq, x_then_nx, x_then_rt, x_then_ex, x_then_bk, x_then_ct, x_next, x_brk, x_cnt, x_toS_ok, x_toS_ex, x_bind_ok, x_bind_ex, x_set, x_rtn, x_rtnN, x_expr, x_raise, x_ifS, x_par, x_m2, x_call, x_cons, x_nil, x_C, x_D, x_var0, x_varS, x_T, x_toB, x_andT, x_orT, x_notT, x_andV, x_orV, x_notV, x_if, x_chain, x_neg, x_dneg, x_add, x_sub, x_lt, x_le, x_gt, x_ge, x_eq, x_ne, x_isN, x_tup, x_lst, x_N, x_isi, x_told, x_told_ok, x_isi_int_int, x_isi_int_bool, x_isi_int_str, x_isi_int_NoneType, x_isi_int_list, x_isi_int_tuple, x_isi_bool_int, x_isi_bool_bool, x_isi_bool_str, x_isi_bool_NoneType, x_isi_bool_list, x_isi_bool_tuple, x_isi_str_int, x_isi_str_bool, x_isi_str_str, x_isi_str_NoneType, x_isi_str_list, x_isi_str_tuple, x_isi_tuple_int, x_isi_tuple_bool, x_isi_tuple_str, x_isi_tuple_NoneType, x_isi_tuple_list, x_isi_tuple_tuple, x_isi_list_int, x_isi_list_bool, x_isi_list_str, x_isi_list_NoneType, x_isi_list_list, x_isi_list_tuple, x_run, x_fin_nx, x_fin_rt, x_fin_ex, x_div2, x_ixt0, x_ixt1, x_ixt2, x_ixt3, x_len_tup, x_len_list, List.length_cons, List.length_nil, cond_true, cond_false, decide_true, decide_false, Bool.not_true, Bool.not_false, List.set_cons_zero, List.set_cons_succ, e, x_eq_str (op_shaped .mul) s2, e2, x_mul (mulOk_words va.1 va.2 vb.1 vb.2)]
      rw [x_mod (by decide)]
      rfl
end Fk

set_option maxRecDepth 1000000
set_option maxHeartbeats 1000000
namespace Fk
open PySem PySem.Spec L2
set_option autoImplicit false
/-! ### drawn rows and drawn formulas -/
def t__law_row (cl : Str → Fn) : MS := (mSeq (mRtn (mN fTuple (mCons (mComp false [2] (mR1 (mCons (mVar 1) mNil)) (.nm 2) mTrue (mCall (cl "_law_word") (mCons (mVar 0) mNil))) mNil))) mNext)
def t__law_any_formula_s0 (cl : Str → Fn) : MS := (mIfS (mOrT (mT (m2 dEq' (mVar 2) (mC (.int 1)))) (mT (m2 dEq' (mCall (cl "_law_roll") (mCons (mVar 0) (mCons (mC (.int 5)) mNil))) (mC (.int 0))))) (mSeq (mIfS (mAndT (mT (m2 dGt (mVar 1) (mC (.int 0)))) (mT (m2 dGt (mCall (cl "_law_roll") (mCons (mVar 0) (mCons (mC (.int 3)) mNil))) (mC (.int 0))))) (mSeq (mRtn (mTup (mCons (mC (.str "in")) (mCons (mCall (cl "_law_roll") (mCons (mVar 0) (mCons (mVar 1) mNil))) mNil)))) mNext) mNext) (mSeq (mRtn (mTup (mCons (mC (.str "num")) (mCons (mCall (cl "_law_word") (mCons (mVar 0) mNil)) mNil)))) mNext)) mNext)
def t__law_any_formula_s1 (cl : Str → Fn) : MS := (mSet 3 (m2 dIx (mLst false (mCons (mC (.str "add")) (mCons (mC (.str "sub")) (mCons (mC (.str "mul")) (mCons (mC (.str "mul")) mNil))))) (mCall (cl "_law_roll") (mCons (mVar 0) (mCons (mC (.int 4)) mNil)))))
def t__law_any_formula_s2 (cl : Str → Fn) : MS := (mRtn (mTup (mCons (mVar 3) (mCons (mCall (cl "_law_any_formula") (mCons (mVar 0) (mCons (mVar 1) (mCons (m2 dSub (mVar 2) (mC (.int 1))) mNil)))) (mCons (mCall (cl "_law_any_formula") (mCons (mVar 0) (mCons (mVar 1) (mCons (m2 dSub (mVar 2) (mC (.int 1))) mNil)))) mNil)))))
def t__law_any_formula (cl : Str → Fn) : MS := (mSeq (t__law_any_formula_s0 cl) (mSeq (t__law_any_formula_s1 cl) (mSeq (t__law_any_formula_s2 cl) mNext)))
theorem comp_draw {t : Tg} {el : M D} {ms : List Nat} {env : En} {I : Nat → List O → Prop} {P : PyData → Prop} {c bd i : Nat}
    (h : ∀ x env1 n st, asg t x env = some env1 → I n st → n ≤ bd → ∃ p st', el ms env1 st = .ok (.p p) st' ∧ P p ∧ I (n + c) st' ∧ But i st st') :
    ∀ (xs : List D) (acc : List D) (n : Nat) (st : List O), (∀ x ∈ xs, ∃ env1, asg t x env = some env1) → I n st → n + c * xs.length ≤ bd → acc.length + xs.length ≤ sizeLine →
      ∃ (ps : List PyData) (st' : List O), mCompL t mTrue el ms env xs acc st = .ok (acc ++ ps.map .p) st' ∧ ps.length = xs.length ∧ (∀ p ∈ ps, P p) ∧ I (n + c * xs.length) st' ∧ But i st st'
  | [], acc, n, st, _, hI, _, _ => ⟨[], st, by simp [mCompL], rfl, by simp, by simpa using hI, .refl⟩
  | x :: xs, acc, n, st, ha, hI, hb, hl => by
    obtain ⟨env1, e1⟩ := ha x List.mem_cons_self
    rw [List.length_cons] at hb hl
    have hb' : n + c + c * xs.length ≤ bd := by rw [Nat.mul_succ] at hb; omega
    obtain ⟨p, st1, e2, hp, hI1, q1⟩ := h x env1 n st e1 hI (by omega)
    obtain ⟨ps, st2, e3, h1, h2, h3, q2⟩ := comp_draw h xs (acc ++ [.p p]) (n + c) st1 (fun y hy => ha y (List.mem_cons_of_mem _ hy)) hI1 hb' (by rw [List.length_append, List.length_singleton]; omega)
    refine ⟨p :: ps, st2, ?_, by rw [List.length_cons, List.length_cons, h1], ?_, ?_, q1.trans q2⟩
    · rw [mCompL, e1]
      show ((el ms env1 st).strict.bind fun y st2 => if acc.length < sizeLine then mCompL t mTrue el ms env xs (acc ++ [y]) st2 else .bad) = _
      rw [e2]
      show (if acc.length < sizeLine then mCompL t mTrue el ms env xs (acc ++ [.p p]) st1 else .bad) = _
      rw [if_pos (by omega), e3]
      simp
    · intro z hz
      rcases List.mem_cons.mp hz with rfl | hz
      · exact hp
      · exact h2 z hz
    · rw [List.length_cons, Nat.mul_succ, show n + (c * xs.length + c) = n + c + c * xs.length by omega]
      exact h3
def LawRow (f : Fn) : Prop := ∀ (L i n w : Nat) (ms : List Nat) (st : List O), 60 ≤ L → L ≤ 2000000 → n ≤ 999000000 → w ≤ 1000 → Die L i n st →
  ∃ (vs : List Int) (st' : List O), f [.r i, .p (.int w)] ms st = .ok (.p (.tuple (vs.map .int))) st' ∧ vs.length = w ∧ (∀ v ∈ vs, 0 ≤ v ∧ v ≤ 65535) ∧ Die L i (n + 2 * w) st' ∧ But i st st'
theorem ints_of : ∀ {ps : List PyData}, (∀ p ∈ ps, ∃ v : Int, p = .int v ∧ 0 ≤ v ∧ v ≤ 65535) → ∃ vs : List Int, ps = vs.map .int ∧ ∀ v ∈ vs, 0 ≤ v ∧ v ≤ 65535
  | [], _ => ⟨[], rfl, by simp⟩
  | p :: ps, h => by
    obtain ⟨v, rfl, hv⟩ := h p List.mem_cons_self
    obtain ⟨vs, rfl, hs⟩ := ints_of fun q hq => h q (List.mem_cons_of_mem _ hq)
    refine ⟨v :: vs, rfl, fun u hu => ?_⟩
    rcases List.mem_cons.mp hu with rfl | hu
    · exact hv
    · exact hs u hu
theorem rangeD_len (i c : Int) (n : Nat) : (rangeD i c n).length = n := by simp [rangeD]
theorem okL_small {w : Nat} (h : w ≤ 1000) : okL (w : Int) = true := by
  unfold okL
  rw [Bool.and_eq_true, decide_eq_true_eq, decide_eq_true_eq]
  omega
theorem size_small {w : Nat} (h : w ≤ 1000) : w ≤ sizeLine := Nat.le_trans h (by decide)
theorem it_r1 {j : Int} {st : List O} (ok : okL j = true) : itRange1 [.p (.int j)] st = .ok (rangeD 0 1 j.toNat) st := by
  unfold itRange1
  exact if_pos ok
theorem row_it {w i : Nat} {ms : List Nat} {st : List O} (hw : w ≤ 1000) : mR1 (mCons (mVar 1) mNil) ms [some (.r i), some (.p (.int w)), none] st = .ok (rangeD 0 1 w) st := by
  have ok : okL (w : Int) = true := okL_small hw
  have e : mCons (mVar 1) mNil ms [some (.r i), some (.p (.int w)), none] st = .ok [.p (.int w)] st := rfl
  have e2 := it_r1 (st := st) ok
  rw [Int.toNat_natCast] at e2
  generalize hq : itRange1 [.p (.int w)] st = q at e2
  have e3 : mR1 (mCons (mVar 1) mNil) ms [some (.r i), some (.p (.int w)), none] st = (mCons (mVar 1) mNil ms [some (.r i), some (.p (.int w)), none] st).bind fun ds st => itRange1 ds st := rfl
  rw [e3, e, x_bind_ok, hq, e2]
theorem row_comp {cl : Str → Fn} {L i n w : Nat} {ms : List Nat} {st : List O} (h : LawWord (cl "_law_word")) (h1 : 60 ≤ L) (h2 : L ≤ 2000000) (h3 : n ≤ 999000000) (hw : w ≤ 1000) (hd : Die L i n st) :
    ∃ (vs : List Int) (st' : List O), mCompL (.nm 2) mTrue (mCall (cl "_law_word") (mCons (mVar 0) mNil)) ms [some (.r i), some (.p (.int w)), none] (rangeD 0 1 w) [] st = .ok ((vs.map PyData.int).map .p) st' ∧ vs.length = w ∧ (∀ v ∈ vs, 0 ≤ v ∧ v ≤ 65535) ∧ Die L i (n + 2 * w) st' ∧ But i st st' := by
  have step : ∀ (x : D) (env1 : En) (n : Nat) (st : List O), asg (.nm 2) x [some (.r i), some (.p (.int w)), none] = some env1 → Die L i n st → n ≤ 999999999 → ∃ (p : PyData) (st' : List O), mCall (cl "_law_word") (mCons (mVar 0) mNil) ms env1 st = .ok (.p p) st' ∧ (∃ v : Int, p = .int v ∧ 0 ≤ v ∧ v ≤ 65535) ∧ Die L i (n + 2) st' ∧ But i st st' := by
    intro x env1 n st ea hI hb
    obtain ⟨v, st', e, v0, v1, d, q⟩ := h L i n ms st h1 h2 hb hI
    have ea : env1 = [some (.r i), some (.p (.int w)), some x] := by
      have : asg (.nm 2) x [some (.r i), some (.p (.int w)), none] = some [some (.r i), some (.p (.int w)), some x] := rfl
      rw [this] at ea
      exact (Option.some.inj ea).symm
    subst ea
    refine ⟨.int v, st', ?_, ⟨v, rfl, v0, v1⟩, d, q⟩
    simp only [x_call, x_cons, x_nil, x_var0, x_bind_ok, e]
  have hb : n + 2 * (rangeD 0 1 w).length ≤ 999999999 := by rw [rangeD_len]; omega
  have hl : ([] : List D).length + (rangeD 0 1 w).length ≤ sizeLine := by rw [rangeD_len, List.length_nil, Nat.zero_add]; exact size_small hw
  obtain ⟨ps, st1, e1, l1, hp, d1, q1⟩ := comp_draw step (rangeD 0 1 w) [] n st (fun x _ => ⟨_, rfl⟩) hd hb hl
  obtain ⟨vs, rfl, hv⟩ := ints_of hp
  rw [rangeD_len] at d1 l1
  rw [List.length_map] at l1
  exact ⟨vs, st1, e1, l1, hv, d1, q1⟩
theorem row_mk {cl : Str → Fn} {i w : Nat} {ms : List Nat} {st st1 : List O} {vs : List Int} (hw : w ≤ 1000) (e1 : mCompL (.nm 2) mTrue (mCall (cl "_law_word") (mCons (mVar 0) mNil)) ms [some (.r i), some (.p (.int w)), none] (rangeD 0 1 w) [] st = .ok ((vs.map PyData.int).map .p) st1) :
    mComp false [2] (mR1 (mCons (mVar 1) mNil)) (.nm 2) mTrue (mCall (cl "_law_word") (mCons (mVar 0) mNil)) ms [some (.r i), some (.p (.int w)), none] st = .ok (.p (.list (vs.map .int))) st1 := by
  have ew : wipeE [some (.r i), some (.p (.int w)), none] [2] = [some (.r i), some (.p (.int w)), none] := rfl
  have eu : unP ((vs.map PyData.int).map .p) = some (vs.map PyData.int) := unP_asP _
  unfold mComp mB
  rw [row_it hw]
  simp only [x_bind_ok, ew, e1, mkL, eu]
theorem tuple_of_ints {vs : List Int} {st1 : List O} : fTuple [.p (.list (vs.map PyData.int))] st1 = .ok (.p (.tuple (vs.map PyData.int))) st1 := by
  show mkT (asP (vs.map PyData.int)) st1 = _
  unfold mkT
  rw [unP_asP]
theorem law_row_ok {cl : Str → Fn} (h : LawWord (cl "_law_word")) : LawRow (runFn 3 (t__law_row cl)) := by
  intro L i n w ms st h1 h2 h3 hw hd
  have e0 : List.replicate (3 - (0 + 1 + 1)) (none : Option D) = [none] := rfl
  obtain ⟨vs, st1, e1, l1, hv, d1, q1⟩ := row_comp (ms := ms) h h1 h2 h3 hw hd
  refine ⟨vs, st1, ?_, l1, hv, d1, q1⟩
  rw [x_run]
  unfold t__law_row
  simp only [List.map_cons, List.map_nil, List.length_cons, List.length_nil, List.cons_append, List.nil_append, e0, x_seq, x_rtn, x_N, x_cons, x_nil, row_mk hw e1, x_bind_ok, tuple_of_ints, x_toS_ok, x_then_rt, x_fin_rt]
/-- the rolls that a drawn formula may need -/
def cst : Nat → Nat
  | 0 => 4
  | n + 1 => 2 + 2 * cst n
theorem cst4 : ∀ n, 4 ≤ cst n
  | 0 => Nat.le_refl _
  | n + 1 => by have := cst4 n; rw [cst]; omega
def AnyF (f : Fn) (n : Nat) : Prop := ∀ (L i m inp : Nat) (ms : List Nat) (st : List O), 60 ≤ L → L ≤ 2000000 → m + cst n ≤ 999000000 → inp ≤ 1000 → Die L i m st →
  ∃ (q : Fm) (st' : List O), f [.r i, .p (.int inp), .p (.int n)] ms st = .ok (.p q.enc) st' ∧ q.wf inp ∧ 1 ≤ q.dep ∧ q.dep ≤ n ∧ Die L i (m + cst n) st' ∧ But i st st'
def opAt (v : Int) : Op := if v = 0 then .add else if v = 1 then .sub else .mul
theorem x_ops {v : Int} {st : List O} (h0 : 0 ≤ v) (h1 : v < 4) : dIx (.p (.list [.str "add", .str "sub", .str "mul", .str "mul"])) (.p (.int v)) st = .ok (.p (.str (opAt v).s)) st := by
  have : v = 0 ∨ v = 1 ∨ v = 2 ∨ v = 3 := by omega
  rcases this with rfl | rfl | rfl | rfl <;> rfl
/-- the leaves -/
theorem leaf_ok {cl : Str → Fn} (hr : Roll (cl "_law_roll")) (hw : LawWord (cl "_law_word")) {L i m inp : Nat} {ms : List Nat} {st : List O} {x : Option D} {dp : Int} (h1 : 60 ≤ L) (h2 : L ≤ 2000000) (h3 : m + 3 ≤ 999000000) (hi : inp ≤ 1000) (hd : Die L i m st) :
    ∃ (q : Fm) (st' : List O), (mSeq (mIfS (mAndT (mT (m2 dGt (mVar 1) (mC (.int 0)))) (mT (m2 dGt (mCall (cl "_law_roll") (mCons (mVar 0) (mCons (mC (.int 3)) mNil))) (mC (.int 0))))) (mSeq (mRtn (mTup (mCons (mC (.str "in")) (mCons (mCall (cl "_law_roll") (mCons (mVar 0) (mCons (mVar 1) mNil))) mNil)))) mNext) mNext) (mSeq (mRtn (mTup (mCons (mC (.str "num")) (mCons (mCall (cl "_law_word") (mCons (mVar 0) mNil)) mNil)))) mNext)) ms [some (.r i), some (.p (.int inp)), some (.p (.int dp)), x] st = .rt (.p q.enc) st' ∧ q.wf inp ∧ q.dep = 1 ∧ Die L i (m + 3) st' ∧ But i st st' := by
  have num : ∀ (m' : Nat) (st1 : List O), m' ≤ m + 1 → Die L i m' st1 → But i st st1 → ∃ (q : Fm) (st' : List O), (mSeq (mRtn (mTup (mCons (mC (.str "num")) (mCons (mCall (cl "_law_word") (mCons (mVar 0) mNil)) mNil)))) mNext) ms [some (.r i), some (.p (.int inp)), some (.p (.int dp)), x] st1 = .rt (.p q.enc) st' ∧ q.wf inp ∧ q.dep = 1 ∧ Die L i (m + 3) st' ∧ But i st st' := by
    intro m' st1 hm d1 q1
    obtain ⟨v, st2, e2, v0, v1, d2, q2⟩ := hw L i m' ms st1 h1 h2 (by omega) d1
    refine ⟨.num v, st2, ?_, ⟨v0, v1⟩, rfl, d2.more (by omega), q1.trans q2⟩
    simp only [x_seq, x_then_nx, x_then_rt, x_then_ex, x_then_bk, x_then_ct, x_next, x_brk, x_cnt, x_toS_ok, x_toS_ex, x_bind_ok, x_bind_ex, x_set, x_rtn, x_rtnN, x_expr, x_raise, x_ifS, x_par, x_m2, x_call, x_cons, x_nil, x_C, x_D, x_var0, x_varS, x_T, x_toB, x_andT, x_orT, x_notT, x_andV, x_orV, x_notV, x_if, x_chain, x_neg, x_dneg, x_add, x_sub, x_lt, x_le, x_gt, x_ge, x_eq, x_ne, x_isN, x_tup, x_lst, x_N, x_isi, x_told, x_told_ok, x_isi_int_int, x_isi_int_bool, x_isi_int_str, x_isi_int_NoneType, x_isi_int_list, x_isi_int_tuple, x_isi_bool_int, x_isi_bool_bool, x_isi_bool_str, x_isi_bool_NoneType, x_isi_bool_list, x_isi_bool_tuple, x_isi_str_int, x_isi_str_bool, x_isi_str_str, x_isi_str_NoneType, x_isi_str_list, x_isi_str_tuple, x_isi_tuple_int, x_isi_tuple_bool, x_isi_tuple_str, x_isi_tuple_NoneType, x_isi_tuple_list, x_isi_tuple_tuple, x_isi_list_int, x_isi_list_bool, x_isi_list_str, x_isi_list_NoneType, x_isi_list_list, x_isi_list_tuple, x_run, x_fin_nx, x_fin_rt, x_fin_ex, x_div2, x_ixt0, x_ixt1, x_ixt2, x_ixt3, x_len_tup, x_len_list, List.length_cons, List.length_nil, cond_true, cond_false, decide_true, decide_false, Bool.not_true, Bool.not_false, List.set_cons_zero, List.set_cons_succ, e2]
    rfl
  by_cases h0 : inp = 0
  · subst h0
    obtain ⟨q, st', e, r⟩ := num m st (by omega) hd .refl
    refine ⟨q, st', ?_, r⟩
    rw [x_seq]
    have : (mIfS (mAndT (mT (m2 dGt (mVar 1) (mC (.int 0)))) (mT (m2 dGt (mCall (cl "_law_roll") (mCons (mVar 0) (mCons (mC (.int 3)) mNil))) (mC (.int 0))))) (mSeq (mRtn (mTup (mCons (mC (.str "in")) (mCons (mCall (cl "_law_roll") (mCons (mVar 0) (mCons (mVar 1) mNil))) mNil)))) mNext) mNext) ms [some (.r i), some (.p (.int (0 : Nat))), some (.p (.int dp)), x] st = .nx [some (.r i), some (.p (.int (0 : Nat))), some (.p (.int dp)), x] st := rfl
    rw [this]
    exact e
  · obtain ⟨v, st1, e1, v0, v1, d1, q1⟩ := hr L i m 3 ms st h1 h2 (by omega) (by decide) (by decide) hd
    have hp : (0 : Int) < (inp : Int) := by omega
    by_cases hv : 0 < v
    · obtain ⟨u, st2, e2, u0, u1, d2, q2⟩ := hr L i (m + 1) inp ms st1 h1 h2 (by omega) hp (Int.lt_of_le_of_lt (by omega : (inp : Int) ≤ 1000) (by decide)) d1
      obtain ⟨j, rfl⟩ : ∃ j : Nat, u = j := ⟨u.toNat, by omega⟩
      refine ⟨.inp j, st2, ?_, ?_, rfl, d2.more (by omega), q1.trans q2⟩
      · simp only [x_seq, x_then_nx, x_then_rt, x_then_ex, x_then_bk, x_then_ct, x_next, x_brk, x_cnt, x_toS_ok, x_toS_ex, x_bind_ok, x_bind_ex, x_set, x_rtn, x_rtnN, x_expr, x_raise, x_ifS, x_par, x_m2, x_call, x_cons, x_nil, x_C, x_D, x_var0, x_varS, x_T, x_toB, x_andT, x_orT, x_notT, x_andV, x_orV, x_notV, x_if, x_chain, x_neg, x_dneg, x_add, x_sub, x_lt, x_le, x_gt, x_ge, x_eq, x_ne, x_isN, x_tup, x_lst, x_N, x_isi, x_told, x_told_ok, x_isi_int_int, x_isi_int_bool, x_isi_int_str, x_isi_int_NoneType, x_isi_int_list, x_isi_int_tuple, x_isi_bool_int, x_isi_bool_bool, x_isi_bool_str, x_isi_bool_NoneType, x_isi_bool_list, x_isi_bool_tuple, x_isi_str_int, x_isi_str_bool, x_isi_str_str, x_isi_str_NoneType, x_isi_str_list, x_isi_str_tuple, x_isi_tuple_int, x_isi_tuple_bool, x_isi_tuple_str, x_isi_tuple_NoneType, x_isi_tuple_list, x_isi_tuple_tuple, x_isi_list_int, x_isi_list_bool, x_isi_list_str, x_isi_list_NoneType, x_isi_list_list, x_isi_list_tuple, x_run, x_fin_nx, x_fin_rt, x_fin_ex, x_div2, x_ixt0, x_ixt1, x_ixt2, x_ixt3, x_len_tup, x_len_list, List.length_cons, List.length_nil, cond_true, cond_false, decide_true, decide_false, Bool.not_true, Bool.not_false, List.set_cons_zero, List.set_cons_succ, hp, e1, hv, e2]
        rfl
      · show j < inp
        omega
    · obtain ⟨q, st', e, r⟩ := num (m + 1) st1 (by omega) d1 q1
      refine ⟨q, st', ?_, r⟩
      rw [x_seq]
      simp only [x_ifS, x_andT, x_T, x_m2, x_varS, x_var0, x_C, x_bind_ok, x_gt, hp, decide_true, x_toB, cond_true, x_call, x_cons, x_nil, e1, hv, decide_false, x_toS_ok, cond_false, x_next, x_then_nx]
      exact e
theorem any_ok {cl : Str → Fn} {n : Nat} (hr : Roll (cl "_law_roll")) (hw : LawWord (cl "_law_word")) (hn : 1 ≤ n) (h2 : ∀ m, n = m + 2 → AnyF (cl "_law_any_formula") (m + 1)) : AnyF (runFn 4 (t__law_any_formula cl)) n := by
  intro L i m inp ms st l1 l2 hm hi hd
  have e0 : List.replicate (4 - (0 + 1 + 1 + 1)) (none : Option D) = [none] := rfl
  have c4 := cst4 n
  rw [x_run]
  unfold t__law_any_formula
  simp only [List.map_cons, List.map_nil, List.length_cons, List.length_nil, List.cons_append, List.nil_append, e0]
  by_cases h1 : n = 1
  · subst h1
    obtain ⟨q, st', e, w, dq, d, b⟩ := leaf_ok (x := none) (dp := 1) (ms := ms) hr hw l1 l2 (by omega) hi hd
    refine ⟨q, st', ?_, w, by omega, by omega, d.more (by omega), b⟩
    have : t__law_any_formula_s0 cl ms [some (.r i), some (.p (.int inp)), some (.p (.int (1 : Nat))), none] st = .rt (.p q.enc) st' := by
      unfold t__law_any_formula_s0
      rw [x_ifS]
      have ek : (mOrT (mT (m2 dEq' (mVar 2) (mC (.int 1)))) (mT (m2 dEq' (mCall (cl "_law_roll") (mCons (mVar 0) (mCons (mC (.int 5)) mNil))) (mC (.int 0))))) ms [some (.r i), some (.p (.int inp)), some (.p (.int (1 : Nat))), none] st = .ok true st := rfl
      rw [ek]
      exact e
    rw [x_seq, this]
    rfl
  · obtain ⟨k, rfl⟩ : ∃ k, n = k + 2 := ⟨n - 2, by omega⟩
    have h1' : ¬ (((k + 2 : Nat) : Int) = 1) := by omega
    obtain ⟨v, st1, e1, v0, v1, d1, q1⟩ := hr L i m 5 ms st l1 l2 (by omega) (by decide) (by decide) hd
    have ek : (mOrT (mT (m2 dEq' (mVar 2) (mC (.int 1)))) (mT (m2 dEq' (mCall (cl "_law_roll") (mCons (mVar 0) (mCons (mC (.int 5)) mNil))) (mC (.int 0))))) ms [some (.r i), some (.p (.int inp)), some (.p (.int (k + 2 : Nat))), none] st = .ok (decide (v = 0)) st1 := by
      simp only [x_orT, x_T, x_m2, x_varS, x_var0, x_C, x_bind_ok, x_eq, h1', decide_false, x_toB, cond_false, x_call, x_cons, x_nil, e1]
    by_cases hv : v = 0
    · obtain ⟨q, st', e, w, dq, d, b⟩ := leaf_ok (x := none) (dp := (k + 2 : Nat)) (ms := ms) hr hw l1 l2 (by omega) hi d1
      refine ⟨q, st', ?_, w, by omega, by omega, d.more (by omega), q1.trans b⟩
      have : t__law_any_formula_s0 cl ms [some (.r i), some (.p (.int inp)), some (.p (.int (k + 2 : Nat))), none] st = .rt (.p q.enc) st' := by
        unfold t__law_any_formula_s0
        rw [x_ifS, ek, decide_eq_true hv]
        exact e
      rw [x_seq, this]
      rfl
    · have t0 : t__law_any_formula_s0 cl ms [some (.r i), some (.p (.int inp)), some (.p (.int (k + 2 : Nat))), none] st = .nx [some (.r i), some (.p (.int inp)), some (.p (.int (k + 2 : Nat))), none] st1 := by
        unfold t__law_any_formula_s0
        rw [x_ifS, ek, decide_eq_false hv]
        rfl
      have hc : cst (k + 2) = 2 + 2 * cst (k + 1) := rfl
      obtain ⟨o, st2, e2, o0, o1, d2, q2⟩ := hr L i (m + 1) 4 ms st1 l1 l2 (by omega) (by decide) (by decide) d1
      obtain ⟨a, st3, e3, wa, da1, da2, d3, q3⟩ := h2 k rfl L i (m + 2) inp ms st2 l1 l2 (by omega) hi d2
      obtain ⟨b, st4, e4, wb, db1, db2, d4, q4⟩ := h2 k rfl L i (m + 2 + cst (k + 1)) inp ms st3 l1 l2 (by omega) hi d3
      have ed : ((k + 2 : Nat) : Int) - 1 = ((k + 1 : Nat) : Int) := by omega
      refine ⟨.op (opAt o) a b, st4, ?_, ⟨wa, wb⟩, by rw [Fm.dep]; omega, by rw [Fm.dep]; omega, d4.more (by omega), ((q1.trans q2).trans q3).trans q4⟩
      have el : mLst false (mCons (mC (.str "add")) (mCons (mC (.str "sub")) (mCons (mC (.str "mul")) (mCons (mC (.str "mul")) mNil)))) ms [some (.r i), some (.p (.int inp)), some (.p (.int (k + 2 : Nat))), none] st1 = .ok (.p (.list [.str "add", .str "sub", .str "mul", .str "mul"])) st1 := rfl
      unfold t__law_any_formula_s1 t__law_any_formula_s2
      simp only [x_seq, t0, x_then_nx, x_set, x_m2, el, x_bind_ok, x_call, x_cons, x_nil, x_varS, x_var0, x_C, e2, x_ops o0 o1, x_toS_ok, List.set_cons_succ, List.set_cons_zero, x_rtn, x_tup, x_sub, ed, e3, e4]
      rfl
end Fk

namespace K07
open PySem PySem.Spec L2 Fk
/-! ### the text by places; what each def makes: lists and dicts of the store or plain data -/
def top (i : Nat) : Stmt := PySem.Challenge.pw_flowkeep_k07_whole_formulas.main.body.getD i (.Pass ⟨0, 0, 0, 0⟩)
def G : Gb := ⟨[("BITS", 16), ("SIZE", 65536), ("STEPS", 18)], [], [], ["FlowError", "InvalidNumber", "InvalidRow", "InvalidFormula", "InvalidGraph", "InvalidBlock", "InvalidName", "InvalidValues", "InvalidWay", "InvalidText", "InvalidPass", "InvalidPaper", "NotCounted", "NotOdd", "NotSingle", "NotPlain", "NoLoop", "TooMany", "NothingToUndo"], ["ValueError", "all", "bool", "enumerate", "int", "isinstance", "len", "list", "max", "min", "range", "str", "sum", "tuple"], 1000, true⟩
def k_is_whole : Sk := ⟨"is_whole", top 23, ["value", "low", "high"], ["value", "low", "high"], [], []⟩
def k_is_word : Sk := ⟨"is_word", top 24, ["value"], ["value"], [], []⟩
def k_twos_in : Sk := ⟨"twos_in", top 25, ["number", "count"], ["number"], [], []⟩
def k_inverse_of : Sk := ⟨"inverse_of", top 26, ["number", "found", "turn"], ["number"], [], []⟩
def k_power : Sk := ⟨"power", top 28, ["exponent", "found", "turn"], ["exponent"], [], []⟩
def k_is_formula_within : Sk := ⟨"is_formula_within", top 31, ["value", "inputs", "depth", "one"], ["value", "inputs", "depth"], [], []⟩
def k_need_formula : Sk := ⟨"need_formula", top 32, ["formula", "inputs"], ["formula", "inputs"], [], []⟩
def k_is_formula : Sk := ⟨"is_formula", top 33, ["inputs", "value"], ["inputs", "value"], [], []⟩
def k_combined : Sk := ⟨"combined", top 34, ["sign", "one", "other"], ["sign", "one", "other"], [], []⟩
def k_value_of : Sk := ⟨"value_of", top 35, ["formula", "values"], ["formula", "values"], [], []⟩
def k_value : Sk := ⟨"value", top 36, ["formula", "values", "one"], ["formula", "values"], [], []⟩
def k_points : Sk := ⟨"points", top 37, ["inputs", "found", "turn", "longer", "point", "number"], ["inputs"], [], []⟩
def k_differences : Sk := ⟨"differences", top 38, ["line", "found", "at"], ["line"], [(⟨108, 19, 108, 21⟩, 1), (⟨112, 11, 112, 16⟩, 4)], []⟩
def k_lines_along : Sk := ⟨"lines_along", top 39, ["table", "inputs", "place", "found", "point", "line", "number", "one"], ["table", "inputs", "place"], [(⟨120, 11, 120, 16⟩, 4), (⟨114, 12, 114, 14⟩, 1)], []⟩
def k_spread_of : Sk := ⟨"spread_of", top 40, ["formula", "inputs", "table", "point", "place"], ["formula", "inputs"], [(⟨127, 11, 127, 16⟩, 4), (⟨122, 12, 122, 14⟩, 1)], []⟩
def k_odd_part : Sk := ⟨"odd_part", top 41, ["point", "number", "odd", "count", "factor", "twos"], ["point"], [], []⟩
def k_divided : Sk := ⟨"divided", top 42, ["number", "odd", "count"], ["number", "odd", "count"], [], []⟩
def k_normal_of : Sk := ⟨"normal_of", top 43, ["formula", "inputs", "point", "table", "found", "odd", "count"], ["formula", "inputs"], [(⟨138, 48, 138, 50⟩, 1)], []⟩
def k_normal : Sk := ⟨"normal", top 44, ["formula", "inputs"], ["formula", "inputs"], [], []⟩
def k_same_function : Sk := ⟨"same_function", top 45, ["one", "other", "inputs", "point"], ["one", "other", "inputs"], [], []⟩
def k_parting : Sk := ⟨"parting", top 46, ["one", "other", "inputs", "point"], ["one", "other", "inputs"], [], []⟩
def k_degree : Sk := ⟨"degree", top 47, ["formula", "inputs", "point", "number"], ["formula", "inputs"], [], []⟩
def k__law_cell : Sk := ⟨"_law_cell", top 49, ["script", "k"], ["script", "k"], [], []⟩
def k__law_drawn : Sk := ⟨"_law_drawn", top 50, ["cell", "k", "more"], ["cell", "k"], [], []⟩
def k__law_roll : Sk := ⟨"_law_roll", top 51, ["dice", "many", "told"], ["dice", "many"], [], []⟩
def k__law_rounds : Sk := ⟨"_law_rounds", top 52, ["script", "most", "k"], ["script", "most"], [(⟨179, 11, 179, 85⟩, 1), (⟨179, 12, 179, 37⟩, 1)], []⟩
def k__law_term : Sk := ⟨"_law_term", top 53, ["e", "flags", "kinds", "flag"], ["e"], [], []⟩
def k__law_told : Sk := ⟨"_law_told", top 54, ["deed", "e"], ["deed"], [], []⟩
def k__law_word : Sk := ⟨"_law_word", top 55, ["dice", "pick"], ["dice"], [], []⟩
def k__law_row : Sk := ⟨"_law_row", top 56, ["dice", "width", "turn"], ["dice", "width"], [], []⟩
def k__law_any_formula : Sk := ⟨"_law_any_formula", top 57, ["dice", "inputs", "deep", "kind"], ["dice", "inputs", "deep"], [], []⟩
def k__law_worth : Sk := ⟨"_law_worth", top 58, ["formula", "values", "one", "other"], ["formula", "values"], [], []⟩
def k_law : Sk := ⟨"law", top 59, ["script", "dice", "inputs", "formula", "values", "deep", "turn", "bad", "one", "made"], ["script"], [(⟨245, 19, 245, 75⟩, 1), (⟨253, 19, 253, 64⟩, 1), (⟨222, 4, 256, 28⟩, 16), (⟨238, 8, 248, 28⟩, 16), (⟨252, 8, 256, 28⟩, 16)], []⟩
def sk : List Sk := [k_is_whole, k_is_word, k_twos_in, k_inverse_of, k_power, k_is_formula_within, k_need_formula, k_is_formula, k_combined, k_value_of, k_value, k_points, k_differences, k_lines_along, k_spread_of, k_odd_part, k_divided, k_normal_of, k_normal, k_same_function, k_parting, k_degree, k__law_cell, k__law_drawn, k__law_roll, k__law_rounds, k__law_term, k__law_told, k__law_word, k__law_row, k__law_any_formula, k__law_worth, k_law]
theorem sk_ok : sk.all skChk = true := by decide +kernel
theorem b_is_whole : BindOk k_is_whole := fun _ _ _ _ _ _ us hl => match us, hl with | [_, _, _], _ => rfl
theorem b_is_word : BindOk k_is_word := fun _ _ _ _ _ _ us hl => match us, hl with | [_], _ => rfl
theorem b_twos_in : BindOk k_twos_in := fun _ _ _ _ _ _ us hl => match us, hl with | [_], _ => rfl
theorem b_inverse_of : BindOk k_inverse_of := fun _ _ _ _ _ _ us hl => match us, hl with | [_], _ => rfl
theorem b_power : BindOk k_power := fun _ _ _ _ _ _ us hl => match us, hl with | [_], _ => rfl
theorem b_is_formula_within : BindOk k_is_formula_within := fun _ _ _ _ _ _ us hl => match us, hl with | [_, _, _], _ => rfl
theorem b_need_formula : BindOk k_need_formula := fun _ _ _ _ _ _ us hl => match us, hl with | [_, _], _ => rfl
theorem b_is_formula : BindOk k_is_formula := fun _ _ _ _ _ _ us hl => match us, hl with | [_, _], _ => rfl
theorem b_combined : BindOk k_combined := fun _ _ _ _ _ _ us hl => match us, hl with | [_, _, _], _ => rfl
theorem b_value_of : BindOk k_value_of := fun _ _ _ _ _ _ us hl => match us, hl with | [_, _], _ => rfl
theorem b_value : BindOk k_value := fun _ _ _ _ _ _ us hl => match us, hl with | [_, _], _ => rfl
theorem b_points : BindOk k_points := fun _ _ _ _ _ _ us hl => match us, hl with | [_], _ => rfl
theorem b_differences : BindOk k_differences := fun _ _ _ _ _ _ us hl => match us, hl with | [_], _ => rfl
theorem b_lines_along : BindOk k_lines_along := fun _ _ _ _ _ _ us hl => match us, hl with | [_, _, _], _ => rfl
theorem b_spread_of : BindOk k_spread_of := fun _ _ _ _ _ _ us hl => match us, hl with | [_, _], _ => rfl
theorem b_odd_part : BindOk k_odd_part := fun _ _ _ _ _ _ us hl => match us, hl with | [_], _ => rfl
theorem b_divided : BindOk k_divided := fun _ _ _ _ _ _ us hl => match us, hl with | [_, _, _], _ => rfl
theorem b_normal_of : BindOk k_normal_of := fun _ _ _ _ _ _ us hl => match us, hl with | [_, _], _ => rfl
theorem b_normal : BindOk k_normal := fun _ _ _ _ _ _ us hl => match us, hl with | [_, _], _ => rfl
theorem b_same_function : BindOk k_same_function := fun _ _ _ _ _ _ us hl => match us, hl with | [_, _, _], _ => rfl
theorem b_parting : BindOk k_parting := fun _ _ _ _ _ _ us hl => match us, hl with | [_, _, _], _ => rfl
theorem b_degree : BindOk k_degree := fun _ _ _ _ _ _ us hl => match us, hl with | [_, _], _ => rfl
theorem b__law_cell : BindOk k__law_cell := fun _ _ _ _ _ _ us hl => match us, hl with | [_, _], _ => rfl
theorem b__law_drawn : BindOk k__law_drawn := fun _ _ _ _ _ _ us hl => match us, hl with | [_, _], _ => rfl
theorem b__law_roll : BindOk k__law_roll := fun _ _ _ _ _ _ us hl => match us, hl with | [_, _], _ => rfl
theorem b__law_rounds : BindOk k__law_rounds := fun _ _ _ _ _ _ us hl => match us, hl with | [_, _], _ => rfl
theorem b__law_term : BindOk k__law_term := fun _ _ _ _ _ _ us hl => match us, hl with | [_], _ => rfl
theorem b__law_told : BindOk k__law_told := fun _ _ _ _ _ _ us hl => match us, hl with | [_], _ => rfl
theorem b__law_word : BindOk k__law_word := fun _ _ _ _ _ _ us hl => match us, hl with | [_], _ => rfl
theorem b__law_row : BindOk k__law_row := fun _ _ _ _ _ _ us hl => match us, hl with | [_, _], _ => rfl
theorem b__law_any_formula : BindOk k__law_any_formula := fun _ _ _ _ _ _ us hl => match us, hl with | [_, _, _], _ => rfl
theorem b__law_worth : BindOk k__law_worth := fun _ _ _ _ _ _ us hl => match us, hl with | [_, _], _ => rfl
theorem b_law : BindOk k_law := fun _ _ _ _ _ _ us hl => match us, hl with | [_], _ => rfl
theorem binds : ∀ s ∈ sk, BindOk s := by
  unfold sk
  simp only [List.forall_mem_cons, List.not_mem_nil, false_imp_iff, implies_true, and_true]
  exact ⟨b_is_whole, b_is_word, b_twos_in, b_inverse_of, b_power, b_is_formula_within, b_need_formula, b_is_formula, b_combined, b_value_of, b_value, b_points, b_differences, b_lines_along, b_spread_of, b_odd_part, b_divided, b_normal_of, b_normal, b_same_function, b_parting, b_degree, b__law_cell, b__law_drawn, b__law_roll, b__law_rounds, b__law_term, b__law_told, b__law_word, b__law_row, b__law_any_formula, b__law_worth, b_law⟩
-- law place 59 of 60; other names ["FlowError", "InvalidNumber", "InvalidRow", "InvalidFormula", "InvalidGraph", "InvalidBlock", "InvalidName", "InvalidValues", "InvalidWay", "InvalidText", "InvalidPass", "InvalidPaper", "NotCounted", "NotOdd", "NotSingle", "NotPlain", "NoLoop", "TooMany", "NothingToUndo", "is_whole", "is_word", "twos_in", "inverse_of", "power", "is_formula_within", "need_formula", "is_formula", "combined", "value_of", "value", "points", "differences", "lines_along", "spread_of", "odd_part", "divided", "normal_of", "normal", "same_function", "parting", "degree", "_law_cell", "_law_drawn", "_law_roll", "_law_rounds", "_law_term", "_law_told", "_law_word", "_law_row", "_law_any_formula", "_law_worth", "BITS", "SIZE", "STEPS"]
theorem told_sk : ToldSk sk := ⟨k__law_told, k__law_term, by unfold sk; simp, by unfold sk; simp, rfl, rfl, rfl, ⟨_, _, _, _, _, _, _, _, _, _, rfl⟩, by rfl, by rfl, by rfl, by rfl, rfl, rfl, rfl, fun a b => by kernel_rfl⟩
theorem told_g : toldG G = true := by decide +kernel
theorem told_ok : G.told = true → ToldSk sk ∧ toldG G = true := fun _ => ⟨told_sk, told_g⟩
theorem t_k_is_whole (cl : Str → Fn) : (bodyM (k_is_whole.df G (fnsOf sk)) cl).isSome = true := by kernel_rfl
theorem t_k_is_word (cl : Str → Fn) : (bodyM (k_is_word.df G (fnsOf sk)) cl).isSome = true := by kernel_rfl
theorem t_k_twos_in (cl : Str → Fn) : (bodyM (k_twos_in.df G (fnsOf sk)) cl).isSome = true := by kernel_rfl
theorem t_k_inverse_of (cl : Str → Fn) : (bodyM (k_inverse_of.df G (fnsOf sk)) cl).isSome = true := by kernel_rfl
theorem t_k_power (cl : Str → Fn) : (bodyM (k_power.df G (fnsOf sk)) cl).isSome = true := by kernel_rfl
theorem t_k_is_formula_within (cl : Str → Fn) : (bodyM (k_is_formula_within.df G (fnsOf sk)) cl).isSome = true := by kernel_rfl
theorem t_k_need_formula (cl : Str → Fn) : (bodyM (k_need_formula.df G (fnsOf sk)) cl).isSome = true := by kernel_rfl
theorem t_k_is_formula (cl : Str → Fn) : (bodyM (k_is_formula.df G (fnsOf sk)) cl).isSome = true := by kernel_rfl
theorem t_k_combined (cl : Str → Fn) : (bodyM (k_combined.df G (fnsOf sk)) cl).isSome = true := by kernel_rfl
theorem t_k_value_of (cl : Str → Fn) : (bodyM (k_value_of.df G (fnsOf sk)) cl).isSome = true := by kernel_rfl
theorem t_k_value (cl : Str → Fn) : (bodyM (k_value.df G (fnsOf sk)) cl).isSome = true := by kernel_rfl
theorem t_k_points (cl : Str → Fn) : (bodyM (k_points.df G (fnsOf sk)) cl).isSome = true := by kernel_rfl
theorem t_k_differences (cl : Str → Fn) : (bodyM (k_differences.df G (fnsOf sk)) cl).isSome = true := by kernel_rfl
theorem t_k_lines_along (cl : Str → Fn) : (bodyM (k_lines_along.df G (fnsOf sk)) cl).isSome = true := by kernel_rfl
theorem t_k_spread_of (cl : Str → Fn) : (bodyM (k_spread_of.df G (fnsOf sk)) cl).isSome = true := by kernel_rfl
theorem t_k_odd_part (cl : Str → Fn) : (bodyM (k_odd_part.df G (fnsOf sk)) cl).isSome = true := by kernel_rfl
theorem t_k_divided (cl : Str → Fn) : (bodyM (k_divided.df G (fnsOf sk)) cl).isSome = true := by kernel_rfl
theorem t_k_normal_of (cl : Str → Fn) : (bodyM (k_normal_of.df G (fnsOf sk)) cl).isSome = true := by kernel_rfl
theorem t_k_normal (cl : Str → Fn) : (bodyM (k_normal.df G (fnsOf sk)) cl).isSome = true := by kernel_rfl
theorem t_k_same_function (cl : Str → Fn) : (bodyM (k_same_function.df G (fnsOf sk)) cl).isSome = true := by kernel_rfl
theorem t_k_parting (cl : Str → Fn) : (bodyM (k_parting.df G (fnsOf sk)) cl).isSome = true := by kernel_rfl
theorem t_k_degree (cl : Str → Fn) : (bodyM (k_degree.df G (fnsOf sk)) cl).isSome = true := by kernel_rfl
theorem t_k__law_cell (cl : Str → Fn) : (bodyM (k__law_cell.df G (fnsOf sk)) cl).isSome = true := by kernel_rfl
theorem t_k__law_drawn (cl : Str → Fn) : (bodyM (k__law_drawn.df G (fnsOf sk)) cl).isSome = true := by kernel_rfl
theorem t_k__law_roll (cl : Str → Fn) : (bodyM (k__law_roll.df G (fnsOf sk)) cl).isSome = true := by kernel_rfl
theorem t_k__law_rounds (cl : Str → Fn) : (bodyM (k__law_rounds.df G (fnsOf sk)) cl).isSome = true := by kernel_rfl
theorem t_k__law_word (cl : Str → Fn) : (bodyM (k__law_word.df G (fnsOf sk)) cl).isSome = true := by kernel_rfl
theorem t_k__law_row (cl : Str → Fn) : (bodyM (k__law_row.df G (fnsOf sk)) cl).isSome = true := by kernel_rfl
theorem t_k__law_any_formula (cl : Str → Fn) : (bodyM (k__law_any_formula.df G (fnsOf sk)) cl).isSome = true := by kernel_rfl
theorem t_k__law_worth (cl : Str → Fn) : (bodyM (k__law_worth.df G (fnsOf sk)) cl).isSome = true := by kernel_rfl
theorem t_k_law (cl : Str → Fn) : (bodyM (k_law.df G (fnsOf sk)) cl).isSome = true := by kernel_rfl
end K07

set_option maxRecDepth 1000000
set_option maxHeartbeats 4000000
namespace K07
open PySem PySem.Spec L2 Fk
abbrev T : List Df := tabOf G sk
theorem e_is_whole (k : Nat) : fnK T (k + 1) "is_whole" = runFn 3 (t_is_whole (fnK T k)) := by kernel_rfl
theorem e_is_word (k : Nat) : fnK T (k + 1) "is_word" = runFn 1 (t_is_word (fnK T k)) := by kernel_rfl
theorem e_twos_in (k : Nat) : fnK T (k + 1) "twos_in" = runFn 2 (t_twos_in (fnK T k)) := by kernel_rfl
theorem e_inverse_of (k : Nat) : fnK T (k + 1) "inverse_of" = runFn 3 (t_inverse_of (fnK T k)) := by kernel_rfl
def t_power_b0 (cl : Str → Fn) : MS := (mSeq (mSet 1 (m2 (dMul false) (mC (.int 2)) (mVar 1))) mNext)
def t_power (cl : Str → Fn) : MS := (mSeq (mSet 1 (mC (.int 1))) (mSeq (mFor (mR1 (mCons (mVar 0) mNil)) (.nm 2) (t_power_b0 cl)) (mSeq (mRtn (mVar 1)) mNext)))
theorem e_power (k : Nat) : fnK T (k + 1) "power" = runFn 3 (t_power (fnK T k)) := by kernel_rfl
theorem e_is_formula_within (k : Nat) : fnK T (k + 1) "is_formula_within" = runFn 4 (t_is_formula_within (fnK T k)) := by kernel_rfl
theorem e_need_formula (k : Nat) : fnK T (k + 1) "need_formula" = runFn 2 (t_need_formula (fnK T k)) := by kernel_rfl
theorem e_is_formula (k : Nat) : fnK T (k + 1) "is_formula" = runFn 2 (t_is_formula (fnK T k)) := by kernel_rfl
theorem e_combined (k : Nat) : fnK T (k + 1) "combined" = runFn 3 (t_combined (fnK T k)) := by kernel_rfl
theorem e_value_of (k : Nat) : fnK T (k + 1) "value_of" = runFn 2 (t_value_of (fnK T k)) := by kernel_rfl
theorem e_value (k : Nat) : fnK T (k + 1) "value" = runFn 3 (t_value (fnK T k)) := by kernel_rfl
def t_points_b1 (cl : Str → Fn) : MS := (mSeq (mSet 3 (m2 (dAdd false) (mVar 3) (mComp false [5] (mR1 (mCons (mD (.p (.int 18))) mNil)) (.nm 5) mTrue (m2 (dAdd false) (mVar 4) (mTup (mCons (mVar 5) mNil)))))) mNext)
def t_points_b0 (cl : Str → Fn) : MS := (mSeq (mSet 3 (mLst false mNil)) (mSeq (mForV 1 (.nm 4) (t_points_b1 cl)) (mSeq (mSet 1 (mVar 3)) mNext)))
def t_points (cl : Str → Fn) : MS := (mSeq (mSet 1 (mLst false (mCons (mTup mNil) mNil))) (mSeq (mFor (mR1 (mCons (mVar 0) mNil)) (.nm 2) (t_points_b0 cl)) (mSeq (mRtn (mVar 1)) mNext)))
theorem e_points (k : Nat) : fnK T (k + 1) "points" = runFn 6 (t_points (fnK T k)) := by kernel_rfl
def t_differences_b0 (cl : Str → Fn) : MS := (mSeq (mExpr (mAppend (mVar 1) (m2 dIx (mVar 0) (mC (.int 0))))) (mSeq (mSet 0 (mComp false [2] (mR1 (mCons (m2 dSub (mN fLen (mCons (mVar 0) mNil)) (mC (.int 1))) mNil)) (.nm 2) mTrue (m2 dMod (m2 dSub (m2 dIx (mVar 0) (m2 (dAdd false) (mVar 2) (mC (.int 1)))) (m2 dIx (mVar 0) (mVar 2))) (mD (.p (.int 65536)))))) mNext))
def t_differences (cl : Str → Fn) : MS := (mSeq (mAsgL [1, 0] (mCons (mLst true mNil) (mCons (mN (fList false) (mCons (mVar 0) mNil)) mNil))) (mSeq (mWh (mT (m2 dNe' (mVar 0) (mLst false mNil))) (t_differences_b0 cl) 1000) (mSeq (mRtn (mFrz (mVar 1))) mNext)))
theorem e_differences (k : Nat) : fnK T (k + 1) "differences" = runFn 3 (t_differences (fnK T k)) := by kernel_rfl
def t_lines_along_b1 (cl : Str → Fn) : MS := (mSeq (mPut (mVar 7) (mVar 3) (m2 (dAdd false) (m2 (dAdd false) (mSl false (mVar 4) none (some (mVar 2))) (mTup (mCons (mVar 6) mNil))) (mSl false (mVar 4) (some (m2 (dAdd false) (mVar 2) (mC (.int 1)))) none))) mNext)
def t_lines_along_b0 (cl : Str → Fn) : MS := (mSeq (mIfS (mT (m2 dEq' (m2 dIx (mVar 4) (mVar 2)) (mC (.int 0)))) (mSeq (mSet 5 (mComp false [6] (mR1 (mCons (mD (.p (.int 18))) mNil)) (.nm 6) mTrue (m2 dIx (mVar 0) (m2 (dAdd false) (m2 (dAdd false) (mSl false (mVar 4) none (some (mVar 2))) (mTup (mCons (mVar 6) mNil))) (mSl false (mVar 4) (some (m2 (dAdd false) (mVar 2) (mC (.int 1)))) none))))) (mSeq (mFor (mEnum (mCall (cl "differences") (mCons (mVar 5) mNil))) (.tp [(.nm 6), (.nm 7)]) (t_lines_along_b1 cl)) mNext)) mNext) mNext)
def t_lines_along (cl : Str → Fn) : MS := (mSeq (mSet 3 (mDict0 1)) (mSeq (mFor (mIt (mCall (cl "points") (mCons (mVar 1) mNil))) (.nm 4) (t_lines_along_b0 cl)) (mSeq (mRtn (mFrz (mVar 3))) mNext)))
theorem e_lines_along (k : Nat) : fnK T (k + 1) "lines_along" = runFn 8 (t_lines_along (fnK T k)) := by kernel_rfl
def t_spread_of_b0 (cl : Str → Fn) : MS := (mSeq (mPut (mCall (cl "value_of") (mCons (mVar 0) (mCons (mVar 3) mNil))) (mVar 2) (mVar 3)) mNext)
def t_spread_of_b1 (cl : Str → Fn) : MS := (mSeq (mSet 2 (mCall (cl "lines_along") (mCons (mVar 2) (mCons (mVar 1) (mCons (mVar 4) mNil))))) mNext)
def t_spread_of (cl : Str → Fn) : MS := (mSeq (mSet 2 (mDict0 1)) (mSeq (mFor (mIt (mCall (cl "points") (mCons (mVar 1) mNil))) (.nm 3) (t_spread_of_b0 cl)) (mSeq (mFor (mR1 (mCons (mVar 1) mNil)) (.nm 4) (t_spread_of_b1 cl)) (mSeq (mRtn (mFrz (mVar 2))) mNext))))
theorem e_spread_of (k : Nat) : fnK T (k + 1) "spread_of" = runFn 5 (t_spread_of (fnK T k)) := by kernel_rfl
def t_odd_part_b1 (cl : Str → Fn) : MS := (mSeq (mSet 5 (mCall (cl "twos_in") (mCons (mVar 4) mNil))) (mSeq (mPar 2 3 (mCons (m2 dMod (m2 (dMul false) (mVar 2) (m2 dDiv (mVar 4) (mCall (cl "power") (mCons (mVar 5) mNil)))) (mD (.p (.int 65536)))) (mCons (m2 (dAdd false) (mVar 3) (mVar 5)) mNil))) mNext))
def t_odd_part_b0 (cl : Str → Fn) : MS := (mSeq (mFor (mR2 (mCons (mC (.int 2)) (mCons (m2 (dAdd false) (mVar 1) (mC (.int 1))) mNil))) (.nm 4) (t_odd_part_b1 cl)) mNext)
def t_odd_part (cl : Str → Fn) : MS := (mSeq (mAsgL [2, 3] (mCons (mC (.int 1)) (mCons (mC (.int 0)) mNil))) (mSeq (mForV 0 (.nm 1) (t_odd_part_b0 cl)) (mSeq (mRtn (mTup (mCons (mVar 2) (mCons (mVar 3) mNil)))) mNext)))
theorem e_odd_part (k : Nat) : fnK T (k + 1) "odd_part" = runFn 6 (t_odd_part (fnK T k)) := by kernel_rfl
def t_divided (cl : Str → Fn) : MS := (mSeq (mRtn (m2 dDiv (m2 dMod (m2 (dMul false) (mVar 0) (mCall (cl "inverse_of") (mCons (mVar 1) mNil))) (mD (.p (.int 65536)))) (mCall (cl "power") (mCons (mVar 2) mNil)))) mNext)
theorem e_divided (k : Nat) : fnK T (k + 1) "divided" = runFn 3 (t_divided (fnK T k)) := by kernel_rfl
def t_normal_of_b0 (cl : Str → Fn) : MS := (mSeq (mIfS (mT (m2 dNe' (m2 dIx (mVar 3) (mVar 2)) (mC (.int 0)))) (mSeq (mAsg (.tp [(.nm 5), (.nm 6)]) (mCall (cl "odd_part") (mCons (mVar 2) mNil))) (mSeq (mExpr (mAppend (mVar 4) (mTup (mCons (mVar 2) (mCons (mCall (cl "divided") (mCons (m2 dIx (mVar 3) (mVar 2)) (mCons (mVar 5) (mCons (mVar 6) mNil)))) mNil))))) mNext)) mNext) mNext)
def t_normal_of (cl : Str → Fn) : MS := (mSeq (mPar 3 4 (mCons (mCall (cl "spread_of") (mCons (mVar 0) (mCons (mVar 1) mNil))) (mCons (mLst true mNil) mNil))) (mSeq (mFor (mIt (mCall (cl "points") (mCons (mVar 1) mNil))) (.nm 2) (t_normal_of_b0 cl)) (mSeq (mRtn (mN fTuple (mCons (mVar 4) mNil))) mNext)))
theorem e_normal_of (k : Nat) : fnK T (k + 1) "normal_of" = runFn 7 (t_normal_of (fnK T k)) := by kernel_rfl
def t_normal (cl : Str → Fn) : MS := (mSeq (mExpr (mCall (cl "need_formula") (mCons (mVar 0) (mCons (mVar 1) mNil)))) (mSeq (mRtn (mCall (cl "normal_of") (mCons (mVar 0) (mCons (mVar 1) mNil)))) mNext))
theorem e_normal (k : Nat) : fnK T (k + 1) "normal" = runFn 2 (t_normal (fnK T k)) := by kernel_rfl
def t_same_function (cl : Str → Fn) : MS := (mSeq (mExpr (mCall (cl "need_formula") (mCons (mVar 0) (mCons (mVar 2) mNil)))) (mSeq (mExpr (mCall (cl "need_formula") (mCons (mVar 1) (mCons (mVar 2) mNil)))) (mSeq (mRtn (mN (fAny true) (mCons (mComp false [3] (mIt (mCall (cl "points") (mCons (mVar 2) mNil))) (.nm 3) mTrue (m2 dEq' (mCall (cl "value_of") (mCons (mVar 0) (mCons (mVar 3) mNil))) (mCall (cl "value_of") (mCons (mVar 1) (mCons (mVar 3) mNil))))) mNil))) mNext)))
theorem e_same_function (k : Nat) : fnK T (k + 1) "same_function" = runFn 4 (t_same_function (fnK T k)) := by kernel_rfl
def t_parting_b0 (cl : Str → Fn) : MS := (mSeq (mIfS (mT (m2 dNe' (mCall (cl "value_of") (mCons (mVar 0) (mCons (mVar 3) mNil))) (mCall (cl "value_of") (mCons (mVar 1) (mCons (mVar 3) mNil))))) (mSeq (mRtn (mVar 3)) mNext) mNext) mNext)
def t_parting (cl : Str → Fn) : MS := (mSeq (mExpr (mCall (cl "need_formula") (mCons (mVar 0) (mCons (mVar 2) mNil)))) (mSeq (mExpr (mCall (cl "need_formula") (mCons (mVar 1) (mCons (mVar 2) mNil)))) (mSeq (mFor (mIt (mCall (cl "points") (mCons (mVar 2) mNil))) (.nm 3) (t_parting_b0 cl)) (mSeq (mRtn (mC .none)) mNext))))
theorem e_parting (k : Nat) : fnK T (k + 1) "parting" = runFn 4 (t_parting (fnK T k)) := by kernel_rfl
def t_degree (cl : Str → Fn) : MS := (mSeq (mExpr (mCall (cl "need_formula") (mCons (mVar 0) (mCons (mVar 1) mNil)))) (mSeq (mRtn (mN fMax (mCons (m2 (dAdd false) (mLst false (mCons (mC (.int 0)) mNil)) (mComp false [2, 3] (mIt (mCall (cl "normal_of") (mCons (mVar 0) (mCons (mVar 1) mNil)))) (.tp [(.nm 2), (.nm 3)]) mTrue (mN fSum (mCons (mVar 2) mNil)))) mNil))) mNext))
theorem e_degree (k : Nat) : fnK T (k + 1) "degree" = runFn 4 (t_degree (fnK T k)) := by kernel_rfl
theorem e__law_word (k : Nat) : fnK T (k + 1) "_law_word" = runFn 2 (t__law_word (fnK T k)) := by kernel_rfl
theorem e__law_row (k : Nat) : fnK T (k + 1) "_law_row" = runFn 3 (t__law_row (fnK T k)) := by kernel_rfl
theorem e__law_any_formula (k : Nat) : fnK T (k + 1) "_law_any_formula" = runFn 4 (t__law_any_formula (fnK T k)) := by kernel_rfl
theorem e__law_worth (k : Nat) : fnK T (k + 1) "_law_worth" = runFn 4 (t__law_worth (fnK T k)) := by kernel_rfl
def t_law_b1 (cl : Str → Fn) : MS := (mSeq (mSet 5 (m2 dIx (mLst false (mCons (mTup (mCons (mC (.str "add")) (mCons (mVar 5) (mCons (mTup (mCons (mC (.str "num")) (mCons (mC (.int 1)) mNil))) mNil)))) (mCons (mTup (mCons (mC (.str "mul")) (mCons (mTup (mCons (mC (.str "num")) (mCons (mC (.int 2)) mNil))) (mCons (mVar 5) mNil)))) mNil))) (mCall (cl "_law_roll") (mCons (mVar 1) (mCons (mC (.int 2)) mNil))))) mNext)
def t_law_b2_s0 (cl : Str → Fn) : MS := (mIfS (mT (mCall (cl "is_formula") (mCons (mVar 2) (mCons (mVar 8) mNil)))) (mSeq (mRtn (mC (.bool false))) mNext) mNext)
def t_law_b2_s1 (cl : Str → Fn) : MS := (mIfS (mT (m2 dNe' (mTold (mCall (cl "value") (mCons (mVar 8) (mCons (mVar 4) mNil)))) (mTup (mCons (mC (.str "error")) (mCons (mC (.str "InvalidFormula")) mNil))))) (mSeq (mRtn (mC (.bool false))) mNext) mNext)
def t_law_b2_s2 (cl : Str → Fn) : MS := (mIfS (mT (m2 dNe' (mTold (mCall (cl "normal") (mCons (mVar 8) (mCons (mVar 2) mNil)))) (mTup (mCons (mC (.str "error")) (mCons (mC (.str "InvalidFormula")) mNil))))) (mSeq (mRtn (mC (.bool false))) mNext) mNext)
def t_law_b2_s3 (cl : Str → Fn) : MS := (mSet 9 (mLst true (mCons (mTold (mCall (cl "same_function") (mCons (mVar 3) (mCons (mVar 8) (mCons (mVar 2) mNil))))) mNil)))
def t_law_b2_s4 (cl : Str → Fn) : MS := (mExpr (mAppend (mVar 9) (mTold (mCall (cl "parting") (mCons (mVar 8) (mCons (mVar 3) (mCons (mVar 2) mNil)))))))
def t_law_b2_s5 (cl : Str → Fn) : MS := (mIfS (mT (m2 dNe' (m2 (dAdd false) (mVar 9) (mLst false (mCons (mTold (mCall (cl "degree") (mCons (mVar 8) (mCons (mVar 2) mNil)))) mNil))) (m2 (dMul false) (mLst false (mCons (mTup (mCons (mC (.str "error")) (mCons (mC (.str "InvalidFormula")) mNil))) mNil)) (mC (.int 3))))) (mSeq (mRtn (mC (.bool false))) mNext) mNext)
def t_law_b2 (cl : Str → Fn) : MS := (mCut (mSeq (t_law_b2_s0 cl) (mSeq (t_law_b2_s1 cl) (mSeq (t_law_b2_s2 cl) (mSeq (t_law_b2_s3 cl) (mSeq (t_law_b2_s4 cl) (mSeq (t_law_b2_s5 cl) mNext)))))))
def t_law_b3 (cl : Str → Fn) : MS := (mSeq (mIfS (mT (m2 dNe' (mTold (mCall (cl "value") (mCons (mC .none) (mCons (mVar 8) mNil)))) (mTup (mCons (mC (.str "error")) (mCons (mC (.str "InvalidValues")) mNil))))) (mSeq (mRtn (mC (.bool false))) mNext) mNext) mNext)
def t_law_b4_s0 (cl : Str → Fn) : MS := (mSet 9 (mLst true (mCons (mTold (mCall (cl "is_formula") (mCons (mVar 8) (mCons (mVar 3) mNil)))) mNil)))
def t_law_b4_s1 (cl : Str → Fn) : MS := (mExpr (mAppend (mVar 9) (mTold (mCall (cl "normal") (mCons (mC .none) (mCons (mVar 8) mNil))))))
def t_law_b4_s2 (cl : Str → Fn) : MS := (mIfS (mT (m2 dNe' (m2 (dAdd false) (mVar 9) (mLst false (mCons (mTold (mCall (cl "parting") (mCons (mC .none) (mCons (mC .none) (mCons (mVar 8) mNil))))) mNil))) (m2 (dMul false) (mLst false (mCons (mTup (mCons (mC (.str "error")) (mCons (mC (.str "InvalidValues")) mNil))) mNil)) (mC (.int 3))))) (mSeq (mRtn (mC (.bool false))) mNext) mNext)
def t_law_b4 (cl : Str → Fn) : MS := (mCut (mSeq (t_law_b4_s0 cl) (mSeq (t_law_b4_s1 cl) (mSeq (t_law_b4_s2 cl) mNext))))
def t_law_b0_s0 (cl : Str → Fn) : MS := (mSet 2 (mCall (cl "_law_roll") (mCons (mVar 1) (mCons (mC (.int 3)) mNil))))
def t_law_b0_s1 (cl : Str → Fn) : MS := (mSet 3 (mCall (cl "_law_any_formula") (mCons (mVar 1) (mCons (mVar 2) (mCons (m2 (dAdd false) (mC (.int 1)) (mCall (cl "_law_roll") (mCons (mVar 1) (mCons (mC (.int 6)) mNil)))) mNil)))))
def t_law_b0_s2 (cl : Str → Fn) : MS := (mSet 4 (mCall (cl "_law_row") (mCons (mVar 1) (mCons (mVar 2) mNil))))
def t_law_b0_s3 (cl : Str → Fn) : MS := (mIfS (mT (m2 dNe' (mCall (cl "value") (mCons (mVar 3) (mCons (mVar 4) mNil))) (mCall (cl "_law_worth") (mCons (mVar 3) (mCons (mVar 4) mNil))))) (mSeq (mRtn (mC (.bool false))) mNext) mNext)
def t_law_b0_s4 (cl : Str → Fn) : MS := (mIfS (mT (m2 (dIs true) (mCall (cl "is_formula") (mCons (mVar 2) (mCons (mVar 3) mNil))) (mC (.bool true)))) (mSeq (mRtn (mC (.bool false))) mNext) mNext)
def t_law_b0_s5 (cl : Str → Fn) : MS := (mSet 5 (mTup (mCons (mC (.str "num")) (mCons (mC (.int 3)) mNil))))
def t_law_b0_s6 (cl : Str → Fn) : MS := (mFor (mR1 (mCons (mC (.int 7)) mNil)) (.nm 6) (t_law_b1 cl))
def t_law_b0_s7 (cl : Str → Fn) : MS := (mIfS (mOrT (mT (m2 dNe' (mCall (cl "value") (mCons (mVar 5) (mCons (mTup mNil) mNil))) (mCall (cl "_law_worth") (mCons (mVar 5) (mCons (mTup mNil) mNil))))) (mT (mCall (cl "is_formula") (mCons (mC (.int 0)) (mCons (mTup (mCons (mC (.str "sub")) (mCons (mVar 5) (mCons (mVar 5) mNil)))) mNil))))) (mSeq (mRtn (mC (.bool false))) mNext) mNext)
def t_law_b0_s8 (cl : Str → Fn) : MS := (mSet 7 (mLst false (mCons (mC .none) (mCons (mTup mNil) (mCons (mTup (mCons (mC (.str "in")) mNil)) (mCons (mTup (mCons (mC (.str "in")) (mCons (mVar 2) mNil))) (mCons (mTup (mCons (mC (.str "in")) (mCons (mNeg (mC (.int 1))) mNil))) (mCons (mTup (mCons (mC (.str "num")) (mCons (mC (.int 65536)) mNil))) (mCons (mTup (mCons (mC (.str "num")) (mCons (mC (.bool true)) mNil))) mNil)))))))))
def t_law_b0_s9 (cl : Str → Fn) : MS := (mSet 7 (m2 (dAdd false) (mVar 7) (mLst false (mCons (mLst false (mCons (mC (.str "num")) (mCons (mC (.int 1)) mNil))) (mCons (mTup (mCons (mC (.str "div")) (mCons (mVar 5) (mCons (mVar 5) mNil)))) mNil)))))
def t_law_b0_s10 (cl : Str → Fn) : MS := (mSet 7 (m2 (dAdd false) (mVar 7) (mLst false (mCons (mTup (mCons (mC (.str "add")) (mCons (mVar 5) mNil))) (mCons (mTup (mCons (mC (.str "add")) (mCons (mTup (mCons (mC (.str "num")) (mCons (mC (.int 1)) mNil))) (mCons (mC .none) mNil)))) (mCons (mTup (mCons (mC (.str "num")) (mCons (mC (.int 1)) (mCons (mC (.int 2)) mNil)))) (mCons (mC (.int 5)) (mCons (mC (.str "num")) (mCons (mTup (mCons (mC (.int 1)) (mCons (mC (.int 2)) (mCons (mC (.int 3)) mNil)))) mNil)))))))))
def t_law_b0_s11 (cl : Str → Fn) : MS := (mFor (mIt (m2 (dAdd false) (mVar 7) (mLst false (mCons (mTup (mCons (mC (.str "sub")) (mCons (mVar 5) (mCons (mVar 5) mNil)))) mNil)))) (.nm 8) (t_law_b2 cl))
def t_law_b0_s12 (cl : Str → Fn) : MS := (mFor (mIt (mLst false (mCons (mC .none) (mCons (mLst false (mCons (mC (.int 1)) mNil)) (mCons (mTup (mCons (mC (.int 65536)) mNil)) (mCons (mTup (mCons (mC (.bool true)) mNil)) (mCons (mTup (mCons (mC (.int 1)) (mCons (mC (.int 2)) (mCons (mC (.int 3)) mNil)))) (mCons (mC (.int 5)) (mCons (mTup (mCons (mC (.str "1")) mNil)) mNil))))))))) (.nm 8) (t_law_b3 cl))
def t_law_b0_s13 (cl : Str → Fn) : MS := (mFor (mIt (mLst false (mCons (mNeg (mC (.int 1))) (mCons (mC (.int 3)) (mCons (mC (.bool true)) (mCons (mC .none) (mCons (mC (.str "1")) mNil))))))) (.nm 8) (t_law_b4 cl))
def t_law_b0 (cl : Str → Fn) : MS := (mCut (mSeq (t_law_b0_s0 cl) (mSeq (t_law_b0_s1 cl) (mSeq (t_law_b0_s2 cl) (mSeq (t_law_b0_s3 cl) (mSeq (t_law_b0_s4 cl) (mSeq (t_law_b0_s5 cl) (mSeq (t_law_b0_s6 cl) (mSeq (t_law_b0_s7 cl) (mSeq (t_law_b0_s8 cl) (mSeq (t_law_b0_s9 cl) (mSeq (t_law_b0_s10 cl) (mSeq (t_law_b0_s11 cl) (mSeq (t_law_b0_s12 cl) (mSeq (t_law_b0_s13 cl) mNext)))))))))))))))
def t_law (cl : Str → Fn) : MS := (mSeq (mFor (mIt (mCall (cl "_law_rounds") (mCons (mVar 0) (mCons (mC (.int 5)) mNil)))) (.nm 1) (t_law_b0 cl)) (mSeq (mRtn (mC (.bool true))) mNext))
theorem e_law (k : Nat) : fnK T (k + 1) "law" = runFn 10 (t_law (fnK T k)) := by kernel_rfl
/-- need_formula ends so, whichever def it is -/
def NB (d i : PyData) (c : Str) : Prop := ∀ (nf : Fn), NeedF nf → ∀ (ms : List Nat) (st : List O), nf [.p d, .p i] ms st = .ex c st
def NG (d i : PyData) : Prop := ∀ (nf : Fn), NeedF nf → ∀ (ms : List Nat) (st : List O), ∃ x, nf [.p d, .p i] ms st = .ok x st
structure Cl (cl : Str → Fn) : Prop where
  roll : Roll (cl "_law_roll")
  row : LawRow (cl "_law_row")
  any : ∀ n, 1 ≤ n → n ≤ 6 → AnyF (cl "_law_any_formula") n
  isf : IsForm (cl "is_formula")
  val : ValueFn (cl "value")
  worth : ValOf (cl "_law_worth") 8
  norm : ∀ (d i : PyData) (c : Str) (ms : List Nat) (st : List O), NB d i c → cl "normal" [.p d, .p i] ms st = .ex c st
  deg : ∀ (d i : PyData) (c : Str) (ms : List Nat) (st : List O), NB d i c → cl "degree" [.p d, .p i] ms st = .ex c st
  part : ∀ (d e i : PyData) (c : Str) (ms : List Nat) (st : List O), NB d i c → cl "parting" [.p d, .p e, .p i] ms st = .ex c st
  same : ∀ (d e i : PyData) (c : Str) (ms : List Nat) (st : List O), NG d i → NB e i c → cl "same_function" [.p d, .p e, .p i] ms st = .ex c st
theorem ne_err {c : Str} {st : List O} (h : c ∈ kinds18) : dNe' (.p (errT c)) (.p (errT c)) st = .ok (.p (.bool false)) st := by
  unfold kinds18 at h
  simp only [List.mem_cons, List.not_mem_nil, or_false] at h
  rcases h with rfl | rfl | rfl | rfl | rfl | rfl | rfl | rfl | rfl | rfl | rfl | rfl | rfl | rfl | rfl | rfl | rfl | rfl
  all_goals kernel_rfl
theorem kF : ("InvalidFormula" : Str) ∈ kinds18 := by decide +kernel
theorem kV : ("InvalidValues" : Str) ∈ kinds18 := by decide +kernel
theorem etF {ms : List Nat} {env : En} {st : List O} : mTup (mCons (mC (.str "error")) (mCons (mC (.str "InvalidFormula")) mNil)) ms env st = .ok (.p (errT "InvalidFormula")) st := rfl
theorem etV {ms : List Nat} {env : En} {st : List O} : mTup (mCons (mC (.str "error")) (mCons (mC (.str "InvalidValues")) mNil)) ms env st = .ok (.p (errT "InvalidValues")) st := rfl
theorem nx_seq {m n : MS} {ms : List Nat} {env env' : En} {st st' : List O} (h : m ms env st = .nx env' st') : mSeq m n ms env st = n ms env' st' := by
  rw [x_seq, h]
  rfl
theorem wf_more {n m : Nat} (h : n ≤ m) : ∀ {q : Fm}, q.wf n → q.wf m
  | .inp i, w => Nat.lt_of_lt_of_le w h
  | .num k, w => w
  | .op o a b, w => ⟨wf_more h w.1, wf_more h w.2⟩
section
variable {cl : Str → Fn} {L i k n : Nat} {ms : List Nat} {st : List O} {x0 x2 x3 x4 x5 x6 x7 x8 x9 : Option D} {q f : Fm} {vs : List Int}
abbrev nn (n : Nat) : Option D := some (.p (.int n))
abbrev ff (q : Fm) : Option D := some (.p q.enc)
abbrev vv (vs : List Int) : Option D := some (.p (.tuple (vs.map .int)))
theorem s0 (C : Cl cl) (l1 : 60 ≤ L) (l2 : L ≤ 2000000) (hk : k ≤ 1000) (hd : Die L i k st) : ∃ (n : Nat) (st' : List O), t_law_b0_s0 cl ms [x0, some (.r i), x2, x3, x4, x5, x6, x7, x8, x9] st = .nx [x0, some (.r i), nn n, x3, x4, x5, x6, x7, x8, x9] st' ∧ n ≤ 2 ∧ Die L i (k + 1) st' ∧ But i st st' := by
  obtain ⟨v, st1, e1, v0, v1, d1, q1⟩ := C.roll L i k 3 ms st l1 l2 (by omega) (by decide) (by decide) hd
  obtain ⟨j, rfl⟩ : ∃ j : Nat, v = j := ⟨v.toNat, by omega⟩
  refine ⟨j, st1, ?_, by omega, d1, q1⟩
  unfold t_law_b0_s0
  simp only [x_seq, x_then_nx, x_then_rt, x_then_ex, x_then_bk, x_then_ct, x_next, x_brk, x_cnt, x_toS_ok, x_toS_ex, x_bind_ok, x_bind_ex, x_set, x_rtn, x_rtnN, x_expr, x_raise, x_ifS, x_par, x_m2, x_call, x_cons, x_nil, x_C, x_D, x_var0, x_varS, x_T, x_toB, x_andT, x_orT, x_notT, x_andV, x_orV, x_notV, x_if, x_chain, x_neg, x_dneg, x_add, x_sub, x_lt, x_le, x_gt, x_ge, x_eq, x_ne, x_isN, x_tup, x_lst, x_N, x_isi, x_told, x_told_ok, x_isi_int_int, x_isi_int_bool, x_isi_int_str, x_isi_int_NoneType, x_isi_int_list, x_isi_int_tuple, x_isi_bool_int, x_isi_bool_bool, x_isi_bool_str, x_isi_bool_NoneType, x_isi_bool_list, x_isi_bool_tuple, x_isi_str_int, x_isi_str_bool, x_isi_str_str, x_isi_str_NoneType, x_isi_str_list, x_isi_str_tuple, x_isi_tuple_int, x_isi_tuple_bool, x_isi_tuple_str, x_isi_tuple_NoneType, x_isi_tuple_list, x_isi_tuple_tuple, x_isi_list_int, x_isi_list_bool, x_isi_list_str, x_isi_list_NoneType, x_isi_list_list, x_isi_list_tuple, x_run, x_fin_nx, x_fin_rt, x_fin_ex, x_div2, x_ixt0, x_ixt1, x_ixt2, x_ixt3, x_len_tup, x_len_list, List.length_cons, List.length_nil, cond_true, cond_false, decide_true, decide_false, Bool.not_true, Bool.not_false, List.set_cons_zero, List.set_cons_succ, e1]
theorem s1 (C : Cl cl) (l1 : 60 ≤ L) (l2 : L ≤ 2000000) (hk : k ≤ 1000) (hn : n ≤ 2) (hd : Die L i k st) : ∃ (f : Fm) (st' : List O), t_law_b0_s1 cl ms [x0, some (.r i), nn n, x3, x4, x5, x6, x7, x8, x9] st = .nx [x0, some (.r i), nn n, ff f, x4, x5, x6, x7, x8, x9] st' ∧ f.wf n ∧ f.dep ≤ 6 ∧ Die L i (k + 1000) st' ∧ But i st st' := by
  obtain ⟨v, st1, e1, v0, v1, d1, q1⟩ := C.roll L i k 6 ms st l1 l2 (by omega) (by decide) (by decide) hd
  obtain ⟨j, rfl⟩ : ∃ j : Nat, v = j := ⟨v.toNat, by omega⟩
  have hj : j + 1 = 1 ∨ j + 1 = 2 ∨ j + 1 = 3 ∨ j + 1 = 4 ∨ j + 1 = 5 ∨ j + 1 = 6 := by omega
  have hc : cst (j + 1) ≤ 900 := by rcases hj with h | h | h | h | h | h <;> (rw [h]; decide)
  obtain ⟨f, st2, e2, w2, a2, b2, d2, q2⟩ := C.any (j + 1) (by omega) (by omega) L i (k + 1) n ms st1 l1 l2 (by omega) (by omega) d1
  have ej : (1 : Int) + (j : Int) = ((j + 1 : Nat) : Int) := by omega
  refine ⟨f, st2, ?_, w2, by omega, d2.more (by omega), q1.trans q2⟩
  unfold t_law_b0_s1
  simp only [x_seq, x_then_nx, x_then_rt, x_then_ex, x_then_bk, x_then_ct, x_next, x_brk, x_cnt, x_toS_ok, x_toS_ex, x_bind_ok, x_bind_ex, x_set, x_rtn, x_rtnN, x_expr, x_raise, x_ifS, x_par, x_m2, x_call, x_cons, x_nil, x_C, x_D, x_var0, x_varS, x_T, x_toB, x_andT, x_orT, x_notT, x_andV, x_orV, x_notV, x_if, x_chain, x_neg, x_dneg, x_add, x_sub, x_lt, x_le, x_gt, x_ge, x_eq, x_ne, x_isN, x_tup, x_lst, x_N, x_isi, x_told, x_told_ok, x_isi_int_int, x_isi_int_bool, x_isi_int_str, x_isi_int_NoneType, x_isi_int_list, x_isi_int_tuple, x_isi_bool_int, x_isi_bool_bool, x_isi_bool_str, x_isi_bool_NoneType, x_isi_bool_list, x_isi_bool_tuple, x_isi_str_int, x_isi_str_bool, x_isi_str_str, x_isi_str_NoneType, x_isi_str_list, x_isi_str_tuple, x_isi_tuple_int, x_isi_tuple_bool, x_isi_tuple_str, x_isi_tuple_NoneType, x_isi_tuple_list, x_isi_tuple_tuple, x_isi_list_int, x_isi_list_bool, x_isi_list_str, x_isi_list_NoneType, x_isi_list_list, x_isi_list_tuple, x_run, x_fin_nx, x_fin_rt, x_fin_ex, x_div2, x_ixt0, x_ixt1, x_ixt2, x_ixt3, x_len_tup, x_len_list, List.length_cons, List.length_nil, cond_true, cond_false, decide_true, decide_false, Bool.not_true, Bool.not_false, List.set_cons_zero, List.set_cons_succ, e1, ej, e2]
theorem s2 (C : Cl cl) (l1 : 60 ≤ L) (l2 : L ≤ 2000000) (hk : k ≤ 10000) (hn : n ≤ 2) (hd : Die L i k st) : ∃ (vs : List Int) (st' : List O), t_law_b0_s2 cl ms [x0, some (.r i), nn n, x3, x4, x5, x6, x7, x8, x9] st = .nx [x0, some (.r i), nn n, x3, vv vs, x5, x6, x7, x8, x9] st' ∧ vs.length = n ∧ (∀ v ∈ vs, 0 ≤ v ∧ v ≤ 65535) ∧ Die L i (k + 4) st' ∧ But i st st' := by
  obtain ⟨vs, st1, e1, v0, v1, d1, q1⟩ := C.row L i k n ms st l1 l2 (by omega) (by omega) hd
  refine ⟨vs, st1, ?_, v0, v1, d1.more (by omega), q1⟩
  unfold t_law_b0_s2
  simp only [x_seq, x_then_nx, x_then_rt, x_then_ex, x_then_bk, x_then_ct, x_next, x_brk, x_cnt, x_toS_ok, x_toS_ex, x_bind_ok, x_bind_ex, x_set, x_rtn, x_rtnN, x_expr, x_raise, x_ifS, x_par, x_m2, x_call, x_cons, x_nil, x_C, x_D, x_var0, x_varS, x_T, x_toB, x_andT, x_orT, x_notT, x_andV, x_orV, x_notV, x_if, x_chain, x_neg, x_dneg, x_add, x_sub, x_lt, x_le, x_gt, x_ge, x_eq, x_ne, x_isN, x_tup, x_lst, x_N, x_isi, x_told, x_told_ok, x_isi_int_int, x_isi_int_bool, x_isi_int_str, x_isi_int_NoneType, x_isi_int_list, x_isi_int_tuple, x_isi_bool_int, x_isi_bool_bool, x_isi_bool_str, x_isi_bool_NoneType, x_isi_bool_list, x_isi_bool_tuple, x_isi_str_int, x_isi_str_bool, x_isi_str_str, x_isi_str_NoneType, x_isi_str_list, x_isi_str_tuple, x_isi_tuple_int, x_isi_tuple_bool, x_isi_tuple_str, x_isi_tuple_NoneType, x_isi_tuple_list, x_isi_tuple_tuple, x_isi_list_int, x_isi_list_bool, x_isi_list_str, x_isi_list_NoneType, x_isi_list_list, x_isi_list_tuple, x_run, x_fin_nx, x_fin_rt, x_fin_ex, x_div2, x_ixt0, x_ixt1, x_ixt2, x_ixt3, x_len_tup, x_len_list, List.length_cons, List.length_nil, cond_true, cond_false, decide_true, decide_false, Bool.not_true, Bool.not_false, List.set_cons_zero, List.set_cons_succ, e1]
theorem s3 (C : Cl cl) (hl : vs.length = n) (hv : ∀ v ∈ vs, 0 ≤ v ∧ v ≤ 65535) (hn : n ≤ 2) (hw : f.wf n) (hd : f.dep ≤ 6) : t_law_b0_s3 cl ms [x0, some (.r i), x2, ff f, vv vs, x5, x6, x7, x8, x9] st = .nx [x0, some (.r i), x2, ff f, vv vs, x5, x6, x7, x8, x9] st := by
  subst hl
  have e1 := C.val.ok f vs ms st (by omega) hn hw hv
  have e2 := C.worth f vs ms st (by omega) (by decide) hw hv
  unfold t_law_b0_s3
  simp only [x_seq, x_then_nx, x_then_rt, x_then_ex, x_then_bk, x_then_ct, x_next, x_brk, x_cnt, x_toS_ok, x_toS_ex, x_bind_ok, x_bind_ex, x_set, x_rtn, x_rtnN, x_expr, x_raise, x_ifS, x_par, x_m2, x_call, x_cons, x_nil, x_C, x_D, x_var0, x_varS, x_T, x_toB, x_andT, x_orT, x_notT, x_andV, x_orV, x_notV, x_if, x_chain, x_neg, x_dneg, x_add, x_sub, x_lt, x_le, x_gt, x_ge, x_eq, x_ne, x_isN, x_tup, x_lst, x_N, x_isi, x_told, x_told_ok, x_isi_int_int, x_isi_int_bool, x_isi_int_str, x_isi_int_NoneType, x_isi_int_list, x_isi_int_tuple, x_isi_bool_int, x_isi_bool_bool, x_isi_bool_str, x_isi_bool_NoneType, x_isi_bool_list, x_isi_bool_tuple, x_isi_str_int, x_isi_str_bool, x_isi_str_str, x_isi_str_NoneType, x_isi_str_list, x_isi_str_tuple, x_isi_tuple_int, x_isi_tuple_bool, x_isi_tuple_str, x_isi_tuple_NoneType, x_isi_tuple_list, x_isi_tuple_tuple, x_isi_list_int, x_isi_list_bool, x_isi_list_str, x_isi_list_NoneType, x_isi_list_list, x_isi_list_tuple, x_run, x_fin_nx, x_fin_rt, x_fin_ex, x_div2, x_ixt0, x_ixt1, x_ixt2, x_ixt3, x_len_tup, x_len_list, List.length_cons, List.length_nil, cond_true, cond_false, decide_true, decide_false, Bool.not_true, Bool.not_false, List.set_cons_zero, List.set_cons_succ, e1, e2]
theorem isf_n (C : Cl cl) {d : PyData} (hn : n ≤ 2) (h : SeqAt.shaped d = true) : cl "is_formula" [.p (.int n), .p d] ms st = .ok (.p (.bool (isF 8 n d))) st := by
  have := C.isf (.int n) d ms st h rfl
  dsimp only at this
  rw [if_pos (by omega)] at this
  exact this
theorem x_isB {b : Bool} : dIs true (.p (.bool b)) (.p (.bool true)) st = .ok (.p (.bool (!b))) st := by cases b <;> rfl
theorem s4 (C : Cl cl) (hn : n ≤ 2) (hw : f.wf n) (hd : f.dep ≤ 6) : t_law_b0_s4 cl ms [x0, some (.r i), nn n, ff f, x4, x5, x6, x7, x8, x9] st = .nx [x0, some (.r i), nn n, ff f, x4, x5, x6, x7, x8, x9] st := by
  have e : isF 8 n f.enc = true := by rw [isF_enc hw, decide_eq_true (by omega)]
  unfold t_law_b0_s4
  simp only [x_seq, x_then_nx, x_then_rt, x_then_ex, x_then_bk, x_then_ct, x_next, x_brk, x_cnt, x_toS_ok, x_toS_ex, x_bind_ok, x_bind_ex, x_set, x_rtn, x_rtnN, x_expr, x_raise, x_ifS, x_par, x_m2, x_call, x_cons, x_nil, x_C, x_D, x_var0, x_varS, x_T, x_toB, x_andT, x_orT, x_notT, x_andV, x_orV, x_notV, x_if, x_chain, x_neg, x_dneg, x_add, x_sub, x_lt, x_le, x_gt, x_ge, x_eq, x_ne, x_isN, x_tup, x_lst, x_N, x_isi, x_told, x_told_ok, x_isi_int_int, x_isi_int_bool, x_isi_int_str, x_isi_int_NoneType, x_isi_int_list, x_isi_int_tuple, x_isi_bool_int, x_isi_bool_bool, x_isi_bool_str, x_isi_bool_NoneType, x_isi_bool_list, x_isi_bool_tuple, x_isi_str_int, x_isi_str_bool, x_isi_str_str, x_isi_str_NoneType, x_isi_str_list, x_isi_str_tuple, x_isi_tuple_int, x_isi_tuple_bool, x_isi_tuple_str, x_isi_tuple_NoneType, x_isi_tuple_list, x_isi_tuple_tuple, x_isi_list_int, x_isi_list_bool, x_isi_list_str, x_isi_list_NoneType, x_isi_list_list, x_isi_list_tuple, x_run, x_fin_nx, x_fin_rt, x_fin_ex, x_div2, x_ixt0, x_ixt1, x_ixt2, x_ixt3, x_len_tup, x_len_list, List.length_cons, List.length_nil, cond_true, cond_false, decide_true, decide_false, Bool.not_true, Bool.not_false, List.set_cons_zero, List.set_cons_succ, isf_n C hn (enc_shaped (by omega : f.dep ≤ 63)), e, x_isB]
theorem b1 (C : Cl cl) (l1 : 60 ≤ L) (l2 : L ≤ 2000000) (hk : k ≤ 100000) (hd : Die L i k st) (hq : q.wf 0) : ∃ (q' : Fm) (st' : List O), t_law_b1 cl ms [x0, some (.r i), x2, x3, x4, ff q, x6, x7, x8, x9] st = .nx [x0, some (.r i), x2, x3, x4, ff q', x6, x7, x8, x9] st' ∧ q'.wf 0 ∧ q'.dep = max 1 q.dep + 1 ∧ Die L i (k + 1) st' ∧ But i st st' := by
  obtain ⟨v, st1, e1, v0, v1, d1, q1⟩ := C.roll L i k 2 ms st l1 l2 (by omega) (by decide) (by decide) hd
  have el : mLst false (mCons (mTup (mCons (mC (.str "add")) (mCons (mVar 5) (mCons (mTup (mCons (mC (.str "num")) (mCons (mC (.int 1)) mNil))) mNil)))) (mCons (mTup (mCons (mC (.str "mul")) (mCons (mTup (mCons (mC (.str "num")) (mCons (mC (.int 2)) mNil))) (mCons (mVar 5) mNil)))) mNil)) ms [x0, some (.r i), x2, x3, x4, ff q, x6, x7, x8, x9] st = .ok (.p (.list [(Fm.op .add q (.num 1)).enc, (Fm.op .mul (.num 2) q).enc])) st := rfl
  have hv : v = 0 ∨ v = 1 := by omega
  unfold t_law_b1
  simp only [x_seq, x_set, x_m2, el, x_bind_ok, x_call, x_cons, x_nil, x_varS, x_var0, x_C, e1]
  rcases hv with rfl | rfl
  · exact ⟨.op .add q (.num 1), st1, rfl, ⟨hq, by simp [Fm.wf]⟩, by simp only [Fm.dep]; omega, d1, q1⟩
  · exact ⟨.op .mul (.num 2) q, st1, rfl, ⟨by simp [Fm.wf], hq⟩, by simp only [Fm.dep], d1, q1⟩
/-- what holds of the names before the cut -/
def Low (m : Nat) (o : Option D) : Prop := fgt m o = o
theorem low_p {m : Nat} {p : PyData} : Low m (some (.p p)) := rfl
theorem loop6 (C : Cl cl) (l1 : 60 ≤ L) (l2 : L ≤ 2000000) : ∀ (ds : List D) (k : Nat) (st : List O) (q : Fm) (x6 : Option D), k + ds.length ≤ 100000 → Die L i k st → q.wf 0 → 1 ≤ q.dep → ∃ (q' : Fm) (y : Option D) (st' : List O), (∀ P : Option D → Prop, (ds = [] → P x6) → (∀ d ∈ ds, P (some d)) → P y) ∧ mForL (.nm 6) (t_law_b1 cl) ds ms [x0, some (.r i), x2, x3, x4, ff q, x6, x7, x8, x9] st = .nx [x0, some (.r i), x2, x3, x4, ff q', y, x7, x8, x9] st' ∧ q'.wf 0 ∧ q'.dep = q.dep + ds.length ∧ Die L i (k + ds.length) st' ∧ But i st st'
  | [], k, st, q, x6, _, hd, hq, h1 => ⟨q, x6, st, fun P p1 _ => p1 rfl, rfl, hq, rfl, hd, .refl⟩
  | d :: ds, k, st, q, x6, hk, hd, hq, h1 => by
    rw [List.length_cons] at hk
    obtain ⟨q1, st1, e1, w1, p1, d1, b1⟩ := b1 (ms := ms) (x0 := x0) (x2 := x2) (x3 := x3) (x4 := x4) (x6 := some d) (x7 := x7) (x8 := x8) (x9 := x9) C l1 l2 (by omega) hd hq
    obtain ⟨q2, y, st2, hy, e2, w2, p2, d2, b2⟩ := loop6 C l1 l2 ds (k + 1) st1 q1 (some d) (by omega) d1 w1 (by omega)
    refine ⟨q2, y, st2, fun P p1 p2 => hy P (fun _ => p2 d List.mem_cons_self) (fun d' hd' => p2 d' (List.mem_cons_of_mem _ hd')), ?_, w2, by rw [List.length_cons, p2, p1]; omega, by rw [List.length_cons, show k + (ds.length + 1) = k + 1 + ds.length by omega]; exact d2, b1.trans b2⟩
    have ea : asg (.nm 6) d [x0, some (.r i), x2, x3, x4, ff q, x6, x7, x8, x9] = some [x0, some (.r i), x2, x3, x4, ff q, some d, x7, x8, x9] := rfl
    simp only [mForL, ea, e1]
    exact e2
theorem s6 (C : Cl cl) (l1 : 60 ≤ L) (l2 : L ≤ 2000000) (hk : k ≤ 10000) (hd : Die L i k st) : ∃ (q : Fm) (y : Option D) (st' : List O), (∀ m, Low m y) ∧ mSeq (t_law_b0_s5 cl) (t_law_b0_s6 cl) ms [x0, some (.r i), x2, x3, x4, x5, x6, x7, x8, x9] st = .nx [x0, some (.r i), x2, x3, x4, ff q, y, x7, x8, x9] st' ∧ q.wf 0 ∧ q.dep = 8 ∧ But i st st' := by
  obtain ⟨q, y, st1, hy, e, w, p, d, b⟩ := loop6 (ms := ms) (x0 := x0) (x2 := x2) (x3 := x3) (x4 := x4) (x7 := x7) (x8 := x8) (x9 := x9) C l1 l2 (rangeD 0 1 7) k st (.num 3) x6 (by rw [rangeD_len]; omega) hd (by simp [Fm.wf]) (by rw [Fm.dep]; omega)
  refine ⟨q, y, st1, ?_, ?_, w, by rw [p, rangeD_len]; rfl, b⟩
  · intro m
    refine hy (Low m) (fun h => ?_) fun d hd => ?_
    · have := congrArg List.length h
      rw [rangeD_len] at this
      cases this
    · unfold rangeD at hd
      obtain ⟨j, _, rfl⟩ := List.mem_map.mp hd
      exact low_p
  have e5 : t_law_b0_s5 cl ms [x0, some (.r i), x2, x3, x4, x5, x6, x7, x8, x9] st = .nx [x0, some (.r i), x2, x3, x4, ff (.num 3), x6, x7, x8, x9] st := rfl
  rw [x_seq, e5, x_then_nx]
  unfold t_law_b0_s6
  rw [x_for (ds := rangeD 0 1 7) (st' := st) (by kernel_rfl)]
  exact e
theorem s7 (C : Cl cl) (hq : q.wf 0) (hd : q.dep = 8) : t_law_b0_s7 cl ms [x0, some (.r i), x2, x3, x4, ff q, x6, x7, x8, x9] st = .nx [x0, some (.r i), x2, x3, x4, ff q, x6, x7, x8, x9] st := by
  have e1 := C.val.ok q [] ms st (by omega) (by decide) hq (by simp)
  have e2 := C.worth q [] ms st (by omega) (by decide) hq (by simp)
  have hw : (Fm.op .sub q q).wf 0 := ⟨hq, hq⟩
  have hp : (Fm.op .sub q q).dep = 9 := by rw [Fm.dep]; omega
  have e3 : isF 8 (0 : Nat) (Fm.op .sub q q).enc = false := by rw [isF_enc hw, hp]; rfl
  have e4 := isf_n (ms := ms) (st := st) (n := 0) C (by decide) (enc_shaped (f := .op .sub q q) (by omega))
  rw [e3] at e4
  have e4' : cl "is_formula" [.p (.int 0), .p (Fm.op .sub q q).enc] ms st = .ok (.p (.bool false)) st := e4
  have et : mTup (mCons (mC (.str "sub")) (mCons (mVar 5) (mCons (mVar 5) mNil))) ms [x0, some (.r i), x2, x3, x4, ff q, x6, x7, x8, x9] st = .ok (.p (Fm.op .sub q q).enc) st := rfl
  have et2 : mTup mNil ms [x0, some (.r i), x2, x3, x4, ff q, x6, x7, x8, x9] st = .ok (.p (.tuple (([] : List Int).map .int))) st := rfl
  unfold t_law_b0_s7
  simp only [x_ifS, x_orT, x_T, x_m2, x_call, x_cons, x_nil, x_varS, x_var0, x_C, x_bind_ok, et, et2, e1, e2, e4', x_ne, decide_true, Bool.not_true, x_toB, x_toS_ok, cond_false, x_next]
def bads (n : Nat) (d : PyData) : List PyData := [.none, .tuple [], .tuple [.str "in"], .tuple [.str "in", .int n], .tuple [.str "in", .int (-1)], .tuple [.str "num", .int 65536], .tuple [.str "num", .bool true],
  .list [.str "num", .int 1], .tuple [.str "div", d, d], .tuple [.str "add", d], .tuple [.str "add", .tuple [.str "num", .int 1], .none], .tuple [.str "num", .int 1, .int 2], .int 5, .str "num", .tuple [.int 1, .int 2, .int 3]]
theorem s810 : mSeq (t_law_b0_s8 cl) (mSeq (t_law_b0_s9 cl) (t_law_b0_s10 cl)) ms [x0, some (.r i), nn n, x3, x4, ff q, x6, x7, x8, x9] st = .nx [x0, some (.r i), nn n, x3, x4, ff q, x6, some (.p (.list (bads n q.enc))), x8, x9] st := by kernel_rfl
theorem sh3 {s : Str} {a b : PyData} (h : SeqAt.shaped (.str s) = true) (ha : SeqAt.shaped a = true) (hb : SeqAt.shaped b = true) (da : a.depth ≤ 63) (db : b.depth ≤ 63) : SeqAt.shaped (.tuple [.str s, a, b]) = true := by
  refine shaped_tup_of (fun x hx => ?_) fun x hx => ?_
  all_goals simp only [List.mem_cons, List.not_mem_nil, or_false] at hx
  · rcases hx with rfl | rfl | rfl <;> assumption
  · rcases hx with rfl | rfl | rfl
    · rw [PyData.depth]; omega
    · exact da
    · exact db
theorem sh2 {s : Str} {a : PyData} (h : SeqAt.shaped (.str s) = true) (ha : SeqAt.shaped a = true) (da : a.depth ≤ 63) : SeqAt.shaped (.tuple [.str s, a]) = true := by
  refine shaped_tup_of (fun x hx => ?_) fun x hx => ?_
  all_goals simp only [List.mem_cons, List.not_mem_nil, or_false] at hx
  · rcases hx with rfl | rfl <;> assumption
  · rcases hx with rfl | rfl
    · rw [PyData.depth]; omega
    · exact da
theorem bads_ok (hn : n ≤ 2) (hq : q.wf 0) (hd : q.dep = 8) : ∀ d ∈ bads n q.enc ++ [(Fm.op .sub q q).enc], SeqAt.shaped d = true ∧ isF 8 n d = false := by
  have hs : SeqAt.shaped q.enc = true := enc_shaped (by omega)
  have hp : q.enc.depth ≤ 63 := by rw [enc_depth]; omega
  intro d h
  rcases List.mem_append.mp h with h | h
  · have hn' : n = 0 ∨ n = 1 ∨ n = 2 := by omega
    unfold bads at h
    simp only [List.mem_cons, List.not_mem_nil, or_false] at h
    rcases h with rfl | rfl | rfl | rfl | rfl | rfl | rfl | rfl | rfl | rfl | rfl | rfl | rfl | rfl | rfl
    case inr.inr.inr.inr.inr.inr.inr.inr.inl =>
      exact ⟨sh3 (by decide +kernel) hs hs hp hp, by kernel_rfl⟩
    case inr.inr.inr.inr.inr.inr.inr.inr.inr.inl =>
      exact ⟨sh2 (by decide +kernel) hs hp, by kernel_rfl⟩
    all_goals clear hs hp hq hd h
    all_goals rcases hn' with rfl | rfl | rfl <;> exact ⟨by decide +kernel, by decide +kernel⟩
  · rw [List.mem_singleton] at h
    subst h
    have hp : (Fm.op .sub q q).dep = 9 := by rw [Fm.dep]; omega
    have hw : (Fm.op .sub q q).wf n := ⟨wf_more (Nat.zero_le _) hq, wf_more (Nat.zero_le _) hq⟩
    exact ⟨enc_shaped (by omega), by rw [isF_enc hw, hp]; rfl⟩
theorem need_bad {d : PyData} (hn : n ≤ 2) (hd : SeqAt.shaped d = true) (hf : isF 8 n d = false) : NB d (.int n) "InvalidFormula" := fun nf h ms st => by
  have := h d (.int n) ms st hd rfl
  dsimp only at this
  rw [if_pos (by omega), if_neg (by rw [hf]; decide)] at this
  exact this
theorem need_good (hn : n ≤ 2) (hw : f.wf n) (hd : f.dep ≤ 6) : NG f.enc (.int n) := fun nf h ms st => by
  have := h f.enc (.int n) ms st (enc_shaped (by omega)) rfl
  dsimp only at this
  rw [if_pos (by omega), if_pos (by rw [isF_enc hw, decide_eq_true (by omega)])] at this
  exact ⟨_, this⟩
theorem need_badV {d i : PyData} (hd : SeqAt.shaped d = true) (hi : noDict i = true) (hf : ∀ v, i = .int v → ¬ (0 ≤ v ∧ v ≤ 2)) : NB d i "InvalidValues" := fun nf h ms st => by
  rw [h d i ms st hd hi]
  cases i with
  | int v => exact if_neg (hf v rfl)
  | _ => rfl
theorem getO {x : O} : (st ++ [x])[st.length]? = some x := by simp
theorem setO {x y : O} : (st ++ [x]).set st.length y = st ++ [y] := by simp
theorem made3 {c : Str} (hc : c ∈ kinds18) {E : En} {m1 m2' m3 t : M D} (hE : E.length = 10) (h1 : ∀ E', E'.length = 10 → E'.take 9 = E.take 9 → ∀ st, m1 ms E' st = .ok (.p (errT c)) st) (h2 : ∀ E', E'.length = 10 → E'.take 9 = E.take 9 → ∀ st, m2' ms E' st = .ok (.p (errT c)) st)
    (h3 : ∀ E', E'.length = 10 → E'.take 9 = E.take 9 → ∀ st, m3 ms E' st = .ok (.p (errT c)) st) (ht : ∀ E' st, t ms E' st = .ok (.p (errT c)) st) :
    mSeq (mSet 9 (mLst true (mCons m1 mNil))) (mSeq (mExpr (mAppend (mVar 9) m2')) (mSeq (mIfS (mT (m2 dNe' (m2 (dAdd false) (mVar 9) (mLst false (mCons m3 mNil))) (m2 (dMul false) (mLst false (mCons t mNil)) (mC (.int 3))))) (mSeq (mRtn (mC (.bool false))) mNext) mNext) mNext)) ms E st = .nx (E.set 9 (some (.r st.length))) (st ++ [.lst [.p (errT c), .p (errT c)]]) := by
  have hl : (E.set 9 (some (.r st.length))).length = 10 := by rw [List.length_set]; exact hE
  have hT : (E.set 9 (some (.r st.length))).take 9 = E.take 9 := by rw [List.take_set_of_le (Nat.le_refl _)]
  have h9 : ∀ s : List O, mVar 9 ms (E.set 9 (some (.r st.length))) s = .ok (.r st.length) s := by
    intro s
    have : (E.set 9 (some (.r st.length)))[9]? = some (some (.r st.length)) := List.getElem?_set_self (by omega)
    unfold mVar
    rw [this]
  have ea : mAppend (mVar 9) m2' ms (E.set 9 (some (.r st.length))) (st ++ [.lst [.p (errT c)]]) = .ok (.p .none) (st ++ [.lst [.p (errT c), .p (errT c)]]) := by
    unfold mAppend mB
    rw [h9]
    simp only [R.bind, isLst, getL, getO, h2 _ hl hT, fAppend]
    rw [if_pos ⟨(show (1 : Nat) < sizeLine by decide), rfl⟩, setO]
    rfl
  have ed : dAdd false (.r st.length) (.p (.list [errT c])) (st ++ [.lst [.p (errT c), .p (errT c)]]) = .ok (.p (.list [errT c, errT c, errT c])) (st ++ [.lst [.p (errT c), .p (errT c)]]) := by
    unfold dAdd
    simp only [getL, getO]
    rw [if_pos (show ([D.p (errT c), D.p (errT c)].length + (asP [errT c]).length : Nat) ≤ sizeLine from (show (2 + 1 : Nat) ≤ sizeLine by decide))]
    rfl
  have em : ∀ s : List O, dMul false (.p (.list [errT c])) (.p (.int 3)) s = .ok (.p (.list [errT c, errT c, errT c])) s := fun s => by kernel_rfl
  have el : ∀ (E' : En) (s : List O) (m : M D), m ms E' s = .ok (.p (errT c)) s → mLst false (mCons m mNil) ms E' s = .ok (.p (.list [errT c])) s := by
    intro E' s m hm
    simp only [x_lst, x_cons, x_nil, hm, x_bind_ok]
    rfl
  have es : mLst true (mCons m1 mNil) ms E st = .ok (.r st.length) (st ++ [.lst [.p (errT c)]]) := by
    simp only [x_lst, x_cons, x_nil, h1 E hE rfl, x_bind_ok]
    rfl
  have en : ∀ s : List O, dNe' (.p (.list [errT c, errT c, errT c])) (.p (.list [errT c, errT c, errT c])) s = .ok (.p (.bool false)) s := by
    intro s
    unfold kinds18 at hc
    simp only [List.mem_cons, List.not_mem_nil, or_false] at hc
    rcases hc with rfl | rfl | rfl | rfl | rfl | rfl | rfl | rfl | rfl | rfl | rfl | rfl | rfl | rfl | rfl | rfl | rfl | rfl
    all_goals kernel_rfl
  simp only [x_seq, x_set, es, x_toS_ok, x_then_nx, x_expr, ea, x_ifS, x_T, x_m2, h9, x_bind_ok, el _ _ _ (h3 _ hl hT _), ed, el _ _ _ (ht _ _), x_C, em, en, x_toB, cond_false, x_next]
theorem take9 {E' : En} {y0 y1 y2 y3 y4 y5 y6 y7 y8 y9 : Option D} (h1 : E'.length = 10) (h2 : E'.take 9 = [y0, y1, y2, y3, y4, y5, y6, y7, y8, y9].take 9) : ∃ z, E' = [y0, y1, y2, y3, y4, y5, y6, y7, y8, z] := by
  match E', h1 with
  | [a, b, c, d, e, f, g, h, j, z], _ =>
    simp only [List.take_succ_cons, List.take_zero, List.cons.injEq, and_true] at h2
    obtain ⟨rfl, rfl, rfl, rfl, rfl, rfl, rfl, rfl, rfl⟩ := h2
    exact ⟨z, rfl⟩
theorem b2 (C : Cl cl) {d : PyData} (hi : i < st.length) (hn : n ≤ 2) (hw : f.wf n) (hd : f.dep ≤ 6) (hl : vs.length = n) (hv : ∀ v ∈ vs, 0 ≤ v ∧ v ≤ 65535) (hs : SeqAt.shaped d = true) (hf : isF 8 n d = false) (w0 : Low st.length x0) (w5 : Low st.length x5) (w6 : Low st.length x6) (w7 : Low st.length x7) :
    t_law_b2 cl ms [x0, some (.r i), nn n, ff f, vv vs, x5, x6, x7, some (.p d), x9] st = .nx [x0, some (.r i), nn n, ff f, vv vs, x5, x6, x7, some (.p d), none] st := by
  have e1 : ∀ ms st, cl "is_formula" [.p (.int n), .p d] ms st = .ok (.p (.bool false)) st := fun ms st => by rw [isf_n C hn hs, hf]
  have e2 : ∀ ms st, cl "value" [.p d, .p (.tuple (vs.map .int))] ms st = .ex "InvalidFormula" st := fun ms st => C.val.badF d (vs.map .int) ms st hs shaped_intsT (okV_ints (by omega) hv) (by rw [List.length_map, hl]; exact hf)
  have eb := need_bad hn hs hf
  have e3 : ∀ ms st, cl "normal" [.p d, .p (.int n)] ms st = .ex "InvalidFormula" st := fun ms st => C.norm _ _ _ _ _ eb
  have e4 : ∀ ms st, cl "degree" [.p d, .p (.int n)] ms st = .ex "InvalidFormula" st := fun ms st => C.deg _ _ _ _ _ eb
  have e5 : ∀ ms st, cl "parting" [.p d, .p f.enc, .p (.int n)] ms st = .ex "InvalidFormula" st := fun ms st => C.part _ _ _ _ _ _ eb
  have e6 : ∀ ms st, cl "same_function" [.p f.enc, .p d, .p (.int n)] ms st = .ex "InvalidFormula" st := fun ms st => C.same _ _ _ _ _ _ (need_good hn hw hd) eb
  have key := made3 (st := st) (ms := st.length :: ms) kF (E := [x0, some (.r i), nn n, ff f, vv vs, x5, x6, x7, some (.p d), x9])
    (m1 := mTold (mCall (cl "same_function") (mCons (mVar 3) (mCons (mVar 8) (mCons (mVar 2) mNil))))) (m2' := mTold (mCall (cl "parting") (mCons (mVar 8) (mCons (mVar 3) (mCons (mVar 2) mNil))))) (m3 := mTold (mCall (cl "degree") (mCons (mVar 8) (mCons (mVar 2) mNil))))
    (t := mTup (mCons (mC (.str "error")) (mCons (mC (.str "InvalidFormula")) mNil))) rfl
    (fun E' q1 q2 s => by obtain ⟨z, rfl⟩ := take9 q1 q2; simp only [x_told, x_call, x_cons, x_nil, x_varS, x_var0, x_bind_ok, e6, x_told_ex kF])
    (fun E' q1 q2 s => by obtain ⟨z, rfl⟩ := take9 q1 q2; simp only [x_told, x_call, x_cons, x_nil, x_varS, x_var0, x_bind_ok, e5, x_told_ex kF])
    (fun E' q1 q2 s => by obtain ⟨z, rfl⟩ := take9 q1 q2; simp only [x_told, x_call, x_cons, x_nil, x_varS, x_var0, x_bind_ok, e4, x_told_ex kF])
    (fun E' s => etF)
  have hu : (D.r i).under st.length = true := decide_eq_true hi
  have hu2 : (D.r st.length).under st.length = false := decide_eq_false (Nat.lt_irrefl _)
  have fin : (([x0, some (.r i), nn n, ff f, vv vs, x5, x6, x7, some (.p d), x9] : En).set 9 (some (.r st.length))).map (fgt st.length) = [x0, some (.r i), nn n, ff f, vv vs, x5, x6, x7, some (.p d), none] := by
    show [fgt _ x0, fgt _ (some (.r i)), fgt _ (nn n), fgt _ (ff f), fgt _ (vv vs), fgt _ x5, fgt _ x6, fgt _ x7, fgt _ (some (.p d)), fgt _ (some (.r st.length))] = _
    rw [show fgt st.length x0 = x0 from w0, show fgt st.length x5 = x5 from w5, show fgt st.length x6 = x6 from w6, show fgt st.length x7 = x7 from w7]
    have a1 : fgt st.length (some (.r i)) = some (.r i) := if_pos hu
    have a2 : fgt st.length (some (.r st.length)) = none := if_neg (by rw [hu2]; decide)
    rw [a1, a2]
    rfl
  have h3 : ∀ E : En, E = [x0, some (.r i), nn n, ff f, vv vs, x5, x6, x7, some (.p d), x9] → t_law_b2_s0 cl (st.length :: ms) E st = .nx E st ∧ t_law_b2_s1 cl (st.length :: ms) E st = .nx E st ∧ t_law_b2_s2 cl (st.length :: ms) E st = .nx E st := by
    intro E hE
    subst hE
    unfold t_law_b2_s0 t_law_b2_s1 t_law_b2_s2
    simp only [x_ifS, x_T, x_m2, x_told, x_call, x_cons, x_nil, x_varS, x_var0, x_C, x_bind_ok, e1, e2, e3, x_told_ex kF, etF, ne_err kF, x_toB, x_toS_ok, cond_false, x_next, and_self]
  obtain ⟨t0, t1, t2⟩ := h3 _ rfl
  unfold t_law_b2
  rw [x_cut (e := ([x0, some (.r i), nn n, ff f, vv vs, x5, x6, x7, some (.p d), x9] : En).set 9 (some (.r st.length))) (s := st ++ [.lst [.p (errT "InvalidFormula"), .p (errT "InvalidFormula")]]) (by rw [nx_seq t0, nx_seq t1, nx_seq t2]; exact key), fin, List.take_left]
theorem b3 (C : Cl cl) {d : PyData} (hd : SeqAt.shaped d = true) (hf : okV d = false) : t_law_b3 cl ms [x0, some (.r i), x2, x3, x4, x5, x6, x7, some (.p d), x9] st = .nx [x0, some (.r i), x2, x3, x4, x5, x6, x7, some (.p d), x9] st := by
  unfold t_law_b3
  simp only [x_seq, x_ifS, x_T, x_m2, x_told, x_call, x_cons, x_nil, x_varS, x_var0, x_C, x_bind_ok, C.val.badV _ d ms st hd hf, x_told_ex kV, etV, ne_err kV, x_toB, x_toS_ok, cond_false, x_next, x_then_nx]
theorem b4 (C : Cl cl) {d : PyData} (hi : i < st.length) (hd : f.dep ≤ 6) (hs : noDict d = true) (hf : ∀ v, d = .int v → ¬ (0 ≤ v ∧ v ≤ 2)) (w0 : Low st.length x0) (w2 : Low st.length x2) (w4 : Low st.length x4) (w5 : Low st.length x5) (w6 : Low st.length x6) (w7 : Low st.length x7) :
    t_law_b4 cl ms [x0, some (.r i), x2, ff f, x4, x5, x6, x7, some (.p d), x9] st = .nx [x0, some (.r i), x2, ff f, x4, x5, x6, x7, some (.p d), none] st := by
  have e1 : ∀ ms st, cl "is_formula" [.p d, .p f.enc] ms st = .ex "InvalidValues" st := fun ms st => by
    rw [C.isf d f.enc ms st (enc_shaped (by omega)) hs]
    cases d with
    | int v => exact if_neg (hf v rfl)
    | _ => rfl
  have eb : NB .none d "InvalidValues" := need_badV rfl hs hf
  have e3 : ∀ ms st, cl "normal" [.p .none, .p d] ms st = .ex "InvalidValues" st := fun ms st => C.norm _ _ _ _ _ eb
  have e5 : ∀ ms st, cl "parting" [.p .none, .p .none, .p d] ms st = .ex "InvalidValues" st := fun ms st => C.part _ _ _ _ _ _ eb
  have key := made3 (st := st) (ms := st.length :: ms) kV (E := [x0, some (.r i), x2, ff f, x4, x5, x6, x7, some (.p d), x9])
    (m1 := mTold (mCall (cl "is_formula") (mCons (mVar 8) (mCons (mVar 3) mNil)))) (m2' := mTold (mCall (cl "normal") (mCons (mC .none) (mCons (mVar 8) mNil)))) (m3 := mTold (mCall (cl "parting") (mCons (mC .none) (mCons (mC .none) (mCons (mVar 8) mNil)))))
    (t := mTup (mCons (mC (.str "error")) (mCons (mC (.str "InvalidValues")) mNil))) rfl
    (fun E' q1 q2 s => by obtain ⟨z, rfl⟩ := take9 q1 q2; simp only [x_told, x_call, x_cons, x_nil, x_varS, x_var0, x_bind_ok, e1, x_told_ex kV])
    (fun E' q1 q2 s => by obtain ⟨z, rfl⟩ := take9 q1 q2; simp only [x_told, x_call, x_cons, x_nil, x_C, x_varS, x_var0, x_bind_ok, e3, x_told_ex kV])
    (fun E' q1 q2 s => by obtain ⟨z, rfl⟩ := take9 q1 q2; simp only [x_told, x_call, x_cons, x_nil, x_C, x_varS, x_var0, x_bind_ok, e5, x_told_ex kV])
    (fun E' s => etV)
  have hu : (D.r i).under st.length = true := decide_eq_true hi
  have hu2 : (D.r st.length).under st.length = false := decide_eq_false (Nat.lt_irrefl _)
  have fin : (([x0, some (.r i), x2, ff f, x4, x5, x6, x7, some (.p d), x9] : En).set 9 (some (.r st.length))).map (fgt st.length) = [x0, some (.r i), x2, ff f, x4, x5, x6, x7, some (.p d), none] := by
    show [fgt _ x0, fgt _ (some (.r i)), fgt _ x2, fgt _ (ff f), fgt _ x4, fgt _ x5, fgt _ x6, fgt _ x7, fgt _ (some (.p d)), fgt _ (some (.r st.length))] = _
    rw [show fgt st.length x0 = x0 from w0, show fgt st.length x2 = x2 from w2, show fgt st.length x4 = x4 from w4, show fgt st.length x5 = x5 from w5, show fgt st.length x6 = x6 from w6, show fgt st.length x7 = x7 from w7]
    have a1 : fgt st.length (some (.r i)) = some (.r i) := if_pos hu
    have a2 : fgt st.length (some (.r st.length)) = none := if_neg (by rw [hu2]; decide)
    rw [a1, a2]
    rfl
  unfold t_law_b4
  rw [x_cut (e := ([x0, some (.r i), x2, ff f, x4, x5, x6, x7, some (.p d), x9] : En).set 9 (some (.r st.length))) (s := st ++ [.lst [.p (errT "InvalidValues"), .p (errT "InvalidValues")]]) key, fin, List.take_left]
theorem loop8 {b : MS} : ∀ {l : List PyData} {x8 x9 : Option D}, (∀ d ∈ l, ∀ x9, ∃ y, b ms [x0, some (.r i), x2, x3, x4, x5, x6, x7, some (.p d), x9] st = .nx [x0, some (.r i), x2, x3, x4, x5, x6, x7, some (.p d), y] st) → ∃ y z, mForL (.nm 8) b (l.map .p) ms [x0, some (.r i), x2, x3, x4, x5, x6, x7, x8, x9] st = .nx [x0, some (.r i), x2, x3, x4, x5, x6, x7, y, z] st
  | [], x8, x9, _ => ⟨x8, x9, rfl⟩
  | d :: l, x8, x9, h => by
    obtain ⟨w, ew⟩ := h d List.mem_cons_self x9
    obtain ⟨y, z, e⟩ := loop8 (l := l) (x8 := some (.p d)) (x9 := w) fun d' hd' => h d' (List.mem_cons_of_mem _ hd')
    refine ⟨y, z, ?_⟩
    rw [List.map_cons]
    have ea : asg (.nm 8) (.p d) [x0, some (.r i), x2, x3, x4, x5, x6, x7, x8, x9] = some [x0, some (.r i), x2, x3, x4, x5, x6, x7, some (.p d), x9] := rfl
    simp only [mForL, ea, ew]
    exact e
theorem s11 (C : Cl cl) (hi : i < st.length) (hn : n ≤ 2) (hw : f.wf n) (hd : f.dep ≤ 6) (hl : vs.length = n) (hv : ∀ v ∈ vs, 0 ≤ v ∧ v ≤ 65535) (hq : q.wf 0) (hp : q.dep = 8) (w0 : Low st.length x0) (w6 : Low st.length x6) :
    ∃ y z, t_law_b0_s11 cl ms [x0, some (.r i), nn n, ff f, vv vs, ff q, x6, some (.p (.list (bads n q.enc))), x8, x9] st = .nx [x0, some (.r i), nn n, ff f, vv vs, ff q, x6, some (.p (.list (bads n q.enc))), y, z] st := by
  unfold t_law_b0_s11
  rw [x_for (ds := (bads n q.enc ++ [(Fm.op .sub q q).enc]).map .p) (st' := st) (by kernel_rfl)]
  exact loop8 fun d hd' x9 => ⟨none, b2 C hi hn hw hd hl hv (bads_ok hn hq hp d hd').1 (bads_ok hn hq hp d hd').2 w0 low_p w6 low_p⟩
theorem s12 (C : Cl cl) : ∃ y z, t_law_b0_s12 cl ms [x0, some (.r i), x2, x3, x4, x5, x6, x7, x8, x9] st = .nx [x0, some (.r i), x2, x3, x4, x5, x6, x7, y, z] st := by
  unfold t_law_b0_s12
  rw [x_for (ds := [.none, .list [.int 1], .tuple [.int 65536], .tuple [.bool true], .tuple [.int 1, .int 2, .int 3], .int 5, .tuple [.str "1"]].map .p) (st' := st) (by kernel_rfl)]
  refine loop8 fun d hd x9 => ⟨x9, ?_⟩
  simp only [List.mem_cons, List.not_mem_nil, or_false] at hd
  rcases hd with rfl | rfl | rfl | rfl | rfl | rfl | rfl <;> exact b3 C (by decide +kernel) (by decide +kernel)
theorem s13 (C : Cl cl) (hi : i < st.length) (hd : f.dep ≤ 6) (w0 : Low st.length x0) (w2 : Low st.length x2) (w4 : Low st.length x4) (w5 : Low st.length x5) (w6 : Low st.length x6) (w7 : Low st.length x7) :
    ∃ y z, t_law_b0_s13 cl ms [x0, some (.r i), x2, ff f, x4, x5, x6, x7, x8, x9] st = .nx [x0, some (.r i), x2, ff f, x4, x5, x6, x7, y, z] st := by
  unfold t_law_b0_s13
  rw [x_for (ds := [.int (-1), .int 3, .bool true, .none, .str "1"].map .p) (st' := st) (by kernel_rfl)]
  refine loop8 fun d hd' x9 => ⟨none, ?_⟩
  simp only [List.mem_cons, List.not_mem_nil, or_false] at hd'
  rcases hd' with rfl | rfl | rfl | rfl | rfl
  · exact b4 C hi hd rfl (fun v h => by cases h; decide) w0 w2 w4 w5 w6 w7
  · exact b4 C hi hd rfl (fun v h => by cases h; decide) w0 w2 w4 w5 w6 w7
  · exact b4 C hi hd rfl (fun v h => by cases h) w0 w2 w4 w5 w6 w7
  · exact b4 C hi hd rfl (fun v h => by cases h) w0 w2 w4 w5 w6 w7
  · exact b4 C hi hd rfl (fun v h => by cases h) w0 w2 w4 w5 w6 w7
end
theorem seq2 {a b n : MS} {ms : List Nat} {env env' : En} {st st' : List O} (h : mSeq a b ms env st = .nx env' st') : mSeq a (mSeq b n) ms env st = n ms env' st' := by
  simp only [x_seq] at h ⊢
  revert h
  cases a ms env st <;> simp only [RS.then] <;> intro h <;> first | cases h | skip
  rw [h]
theorem seq3 {a b c n : MS} {ms : List Nat} {env env' : En} {st st' : List O} (h : mSeq a (mSeq b c) ms env st = .nx env' st') : mSeq a (mSeq b (mSeq c n)) ms env st = n ms env' st' := by
  simp only [x_seq] at h ⊢
  revert h
  cases a ms env st <;> simp only [RS.then] <;> intro h <;> first | cases h | skip
  revert h
  cases b ms _ _ <;> simp only [RS.then] <;> intro h <;> first | cases h | skip
  rw [h]
theorem round {cl : Str → Fn} (C : Cl cl) (ns : List Int) (L n i : Nat) (l1 : 60 ≤ L) (l2 : L ≤ 2000000) (hi : i < n) : RoundOk (t_law_b0 cl) 10 ns L n i := by
  intro env st c h1 h2 h3 h4 h5 h6
  match env, h1 with
  | [x0, x1, x2, x3, x4, x5, x6, x7, x8, x9], _ =>
    have hx0 : x0 = some (.s ns) := Option.some.inj h2
    have hx1 : x1 = some (.r i) := Option.some.inj h3
    subst hx0 hx1
    have w0 : ∀ m, Low m (some (.s ns)) := fun m => rfl
    have d0 : Die L i 0 st := ⟨c, 0, h5, h6, Int.le_refl _, Int.le_refl _⟩
    obtain ⟨m, st1, e0, hm, d1, q1⟩ := s0 (ms := [st.length]) (x0 := some (.s ns)) (x2 := x2) (x3 := x3) (x4 := x4) (x5 := x5) (x6 := x6) (x7 := x7) (x8 := x8) (x9 := x9) C l1 l2 (by decide) d0
    obtain ⟨f, st2, e1, hw, hd, d2, q2⟩ := s1 (ms := [st.length]) (x0 := some (.s ns)) (x3 := x3) (x4 := x4) (x5 := x5) (x6 := x6) (x7 := x7) (x8 := x8) (x9 := x9) C l1 l2 (by decide) hm d1
    obtain ⟨vs, st3, e2, hl, hv, d3, q3⟩ := s2 (ms := [st.length]) (x0 := some (.s ns)) (x3 := ff f) (x4 := x4) (x5 := x5) (x6 := x6) (x7 := x7) (x8 := x8) (x9 := x9) C l1 l2 (by decide) hm d2
    have e3 := s3 (ms := [st.length]) (i := i) (st := st3) (x0 := some (.s ns)) (x2 := nn m) (x5 := x5) (x6 := x6) (x7 := x7) (x8 := x8) (x9 := x9) C hl hv hm hw hd
    have e4 := s4 (ms := [st.length]) (i := i) (st := st3) (x0 := some (.s ns)) (x4 := vv vs) (x5 := x5) (x6 := x6) (x7 := x7) (x8 := x8) (x9 := x9) C hm hw hd
    obtain ⟨q, y6, st4, hy6, e6, hq, hp, q4⟩ := s6 (ms := [st.length]) (x0 := some (.s ns)) (x2 := nn m) (x3 := ff f) (x4 := vv vs) (x5 := x5) (x6 := x6) (x7 := x7) (x8 := x8) (x9 := x9) C l1 l2 (by decide) d3
    have e7 := s7 (ms := [st.length]) (i := i) (st := st4) (x0 := some (.s ns)) (x2 := nn m) (x3 := ff f) (x4 := vv vs) (x6 := y6) (x7 := x7) (x8 := x8) (x9 := x9) C hq hp
    have e8 := s810 (cl := cl) (ms := [st.length]) (i := i) (n := m) (q := q) (st := st4) (x0 := some (.s ns)) (x3 := ff f) (x4 := vv vs) (x6 := y6) (x7 := x7) (x8 := x8) (x9 := x9)
    have qq := ((q1.trans q2).trans q3).trans q4
    have hi4 : i < st4.length := by rw [qq.len, h4]; omega
    have w6 : Low st4.length y6 := hy6 _
    obtain ⟨y1, z1, e11⟩ := s11 (ms := [st.length]) (i := i) (x0 := some (.s ns)) (x6 := y6) (x8 := x8) (x9 := x9) C hi4 hm hw hd hl hv hq hp (w0 _) w6
    obtain ⟨y2, z2, e12⟩ := s12 (ms := [st.length]) (i := i) (st := st4) (x0 := some (.s ns)) (x2 := nn m) (x3 := ff f) (x4 := vv vs) (x5 := ff q) (x6 := y6) (x7 := some (.p (.list (bads m q.enc)))) (x8 := y1) (x9 := z1) C
    obtain ⟨y3, z3, e13⟩ := s13 (ms := [st.length]) (i := i) (st := st4) (f := f) (x0 := some (.s ns)) (x2 := nn m) (x4 := vv vs) (x5 := ff q) (x6 := y6) (x7 := some (.p (.list (bads m q.enc)))) (x8 := y2) (x9 := z2) C hi4 hd (w0 _) low_p low_p low_p w6 low_p
    refine ⟨_, _, .inl (x_cut (by rw [nx_seq e0, nx_seq e1, nx_seq e2, nx_seq e3, nx_seq e4, seq2 e6, nx_seq e7, seq3 e8, nx_seq e11, nx_seq e12, nx_seq e13, x_next])), rfl, rfl, ?_, ?_⟩
    · rw [List.length_take, qq.len, h4, Nat.min_self]
    · intro j j1 j2
      rw [List.getElem?_take_of_lt (by omega), qq.get j j1]
theorem e_rounds (k : Nat) : fnK T (k + 1) "_law_rounds" = runFn 3 (tRounds (fnK T k)) := by kernel_rfl
theorem e_cell (k : Nat) : fnK T (k + 1) "_law_cell" = runFn 2 tCell := by kernel_rfl
theorem e_roll (k : Nat) : fnK T (k + 1) "_law_roll" = runFn 3 (tRoll (fnK T k)) := by kernel_rfl
theorem e_drawn (k : Nat) : fnK T (k + 1) "_law_drawn" = runFn 3 tDrawn := by kernel_rfl
theorem sp_roll (k : Nat) : Roll (fnK T (k + 2) "_law_roll") := by rw [e_roll]; exact roll_is (e_drawn k)
theorem sp_is_whole (k : Nat) : IsWhole (fnK T (k + 1) "is_whole") := by rw [e_is_whole]; exact is_whole_ok
theorem sp_is_word (k : Nat) : IsWord (fnK T (k + 2) "is_word") := by rw [e_is_word]; exact is_word_ok (sp_is_whole k)
theorem sp_fw (k : Nat) : ∀ n, IsFw (fnK T (k + n + 3) "is_formula_within") n
  | 0 => by
    rw [e_is_formula_within]
    exact is_fw_ok (sp_is_whole (k + 1)) (sp_is_word k) fun m h => by cases h
  | n + 1 => by
    rw [show k + (n + 1) + 3 = (k + n + 3) + 1 by omega, e_is_formula_within]
    exact is_fw_ok (sp_is_whole (k + n + 2)) (sp_is_word (k + n + 1)) fun m h => by cases h; exact sp_fw k n
theorem sp_val (k : Nat) : ∀ n, ValOf (fnK T (k + n + 2) "value_of") n
  | 0 => by
    rw [e_value_of]
    exact val_of_ok (by rw [e_combined]; exact comb_ok) fun m h => by cases h
  | n + 1 => by
    rw [show k + (n + 1) + 2 = (k + n + 2) + 1 by omega, e_value_of]
    exact val_of_ok (by rw [e_combined]; exact comb_ok) fun m h => by cases h; exact sp_val k n
theorem sp_worth (k : Nat) : ∀ n, ValOf (fnK T (k + n + 1) "_law_worth") n
  | 0 => by
    rw [e__law_worth]
    exact worth_ok fun m h => by cases h
  | n + 1 => by
    rw [show k + (n + 1) + 1 = (k + n + 1) + 1 by omega, e__law_worth]
    exact worth_ok fun m h => by cases h; exact sp_worth k n
theorem sp_need (k : Nat) : NeedF (fnK T (k + 12) "need_formula") := by rw [e_need_formula]; exact need_f_ok (sp_is_whole (k + 10)) (sp_fw k 8)
theorem sp_word (k : Nat) : LawWord (fnK T (k + 3) "_law_word") := by rw [e__law_word]; exact law_word_ok (sp_roll k)
theorem sp_any (k : Nat) : ∀ n, AnyF (fnK T (k + n + 4) "_law_any_formula") (n + 1)
  | 0 => by
    rw [show k + 0 + 4 = (k + 3) + 1 by omega, e__law_any_formula]
    exact any_ok (sp_roll (k + 1)) (sp_word k) (by decide) fun m h => by omega
  | n + 1 => by
    rw [show k + (n + 1) + 4 = (k + n + 4) + 1 by omega, e__law_any_formula]
    exact any_ok (sp_roll (k + n + 2)) (sp_word (k + n + 1)) (by omega) fun m h => by
      obtain rfl : m = n := by omega
      exact sp_any k m
section
variable {cl : Str → Fn} {d e i : PyData} {c : Str} {ms : List Nat} {st : List O}
theorem norm_ex (h : cl "need_formula" [.p d, .p i] ms st = .ex c st) : runFn 2 (t_normal cl) [.p d, .p i] ms st = .ex c st := by
  rw [x_run]
  unfold t_normal
  simp only [List.map_cons, List.map_nil, List.length_cons, List.length_nil, List.cons_append, List.nil_append, x_seq, x_then_nx, x_then_rt, x_then_ex, x_then_bk, x_then_ct, x_next, x_brk, x_cnt, x_toS_ok, x_toS_ex, x_bind_ok, x_bind_ex, x_set, x_rtn, x_rtnN, x_expr, x_raise, x_ifS, x_par, x_m2, x_call, x_cons, x_nil, x_C, x_D, x_var0, x_varS, x_T, x_toB, x_andT, x_orT, x_notT, x_andV, x_orV, x_notV, x_if, x_chain, x_neg, x_dneg, x_add, x_sub, x_lt, x_le, x_gt, x_ge, x_eq, x_ne, x_isN, x_tup, x_lst, x_N, x_isi, x_told, x_told_ok, x_isi_int_int, x_isi_int_bool, x_isi_int_str, x_isi_int_NoneType, x_isi_int_list, x_isi_int_tuple, x_isi_bool_int, x_isi_bool_bool, x_isi_bool_str, x_isi_bool_NoneType, x_isi_bool_list, x_isi_bool_tuple, x_isi_str_int, x_isi_str_bool, x_isi_str_str, x_isi_str_NoneType, x_isi_str_list, x_isi_str_tuple, x_isi_tuple_int, x_isi_tuple_bool, x_isi_tuple_str, x_isi_tuple_NoneType, x_isi_tuple_list, x_isi_tuple_tuple, x_isi_list_int, x_isi_list_bool, x_isi_list_str, x_isi_list_NoneType, x_isi_list_list, x_isi_list_tuple, x_run, x_fin_nx, x_fin_rt, x_fin_ex, x_div2, x_ixt0, x_ixt1, x_ixt2, x_ixt3, x_len_tup, x_len_list, List.length_cons, List.length_nil, cond_true, cond_false, decide_true, decide_false, Bool.not_true, Bool.not_false, List.set_cons_zero, List.set_cons_succ, h]
theorem deg_ex (h : cl "need_formula" [.p d, .p i] ms st = .ex c st) : runFn 4 (t_degree cl) [.p d, .p i] ms st = .ex c st := by
  have e0 : List.replicate (4 - (0 + 1 + 1)) (none : Option D) = [none, none] := rfl
  rw [x_run]
  unfold t_degree
  simp only [List.map_cons, List.map_nil, List.length_cons, List.length_nil, List.cons_append, List.nil_append, e0, x_seq, x_expr, x_call, x_cons, x_nil, x_varS, x_var0, x_bind_ok, h, x_toS_ex, x_then_ex, x_fin_ex]
theorem part_ex (h : cl "need_formula" [.p d, .p i] ms st = .ex c st) : runFn 4 (t_parting cl) [.p d, .p e, .p i] ms st = .ex c st := by
  have e0 : List.replicate (4 - (0 + 1 + 1 + 1)) (none : Option D) = [none] := rfl
  rw [x_run]
  unfold t_parting
  simp only [List.map_cons, List.map_nil, List.length_cons, List.length_nil, List.cons_append, List.nil_append, e0, x_seq, x_expr, x_call, x_cons, x_nil, x_varS, x_var0, x_bind_ok, h, x_toS_ex, x_then_ex, x_fin_ex]
theorem same_ex {x : D} (h' : cl "need_formula" [.p d, .p i] ms st = .ok x st) (h : cl "need_formula" [.p e, .p i] ms st = .ex c st) : runFn 4 (t_same_function cl) [.p d, .p e, .p i] ms st = .ex c st := by
  have e0 : List.replicate (4 - (0 + 1 + 1 + 1)) (none : Option D) = [none] := rfl
  rw [x_run]
  unfold t_same_function
  simp only [List.map_cons, List.map_nil, List.length_cons, List.length_nil, List.cons_append, List.nil_append, e0, x_seq, x_expr, x_call, x_cons, x_nil, x_varS, x_var0, x_bind_ok, h', h, x_toS_ok, x_then_nx, x_toS_ex, x_then_ex, x_fin_ex]
end
theorem cl_ok : Cl (fnK T 23) where
  roll := sp_roll 21
  row := by rw [e__law_row]; exact law_row_ok (sp_word 19)
  any := fun n h1 h2 => by
    have hn : n = 0 + 1 ∨ n = 1 + 1 ∨ n = 2 + 1 ∨ n = 3 + 1 ∨ n = 4 + 1 ∨ n = 5 + 1 := by omega
    rcases hn with rfl | rfl | rfl | rfl | rfl | rfl
    · exact sp_any 19 0
    · exact sp_any 18 1
    · exact sp_any 17 2
    · exact sp_any 16 3
    · exact sp_any 15 4
    · exact sp_any 14 5
  isf := by rw [e_is_formula]; exact is_form_ok (sp_is_whole 21) (sp_fw 11 8)
  val := by rw [e_value]; exact value_ok (sp_is_word 20) (sp_need 10) (sp_val 12 8)
  worth := sp_worth 14 8
  norm := fun d i c ms st h => by rw [e_normal]; exact norm_ex (h _ (sp_need 10) ms st)
  deg := fun d i c ms st h => by rw [e_degree]; exact deg_ex (h _ (sp_need 10) ms st)
  part := fun d e i c ms st h => by rw [e_parting]; exact part_ex (h _ (sp_need 10) ms st)
  same := fun d e i c ms st h h' => by
    obtain ⟨x, hx⟩ := h _ (sp_need 10) ms st
    rw [e_same_function]
    exact same_ex hx (h' _ (sp_need 10) ms st)
theorem lawTrue : LawTrue T 24 := law_true (k := 21) (most := 5) (B := t_law_b0 (fnK T 23)) (e_law 23) (e_rounds 22) (e_cell 21) (by decide) (by decide) (by decide) fun ns L n i hn hL hL2 n1 n3 hi => round cl_ok ns L n i hL hL2 hi
end K07

set_option maxHeartbeats 0
namespace K07
open PySem PySem.Spec L2 Fk
abbrev Rr : PySem.W.OpenRow := PySem.W.OpenLaw.row PySem.Challenge.rw_flowkeep_k07_whole_formulas
abbrev hk : PySem.W.Hook := hookK 4 G sk
def ob (s : PySem.W.SharedT) : AlK := obsK 4 G sk (HandSHeadRun.getT s)
theorem ob_eq (s : PySem.W.SharedT) : ob s = hk.obs s.abs := obsK_eq (HandSHeadRun.getT_eq s)
def loose : List Str := [("FlowError" : Str), ("InvalidNumber" : Str), ("InvalidRow" : Str), ("InvalidFormula" : Str), ("InvalidGraph" : Str), ("InvalidBlock" : Str), ("InvalidName" : Str), ("InvalidValues" : Str), ("InvalidWay" : Str), ("InvalidText" : Str), ("InvalidPass" : Str), ("InvalidPaper" : Str), ("NotCounted" : Str), ("NotOdd" : Str), ("NotSingle" : Str), ("NotPlain" : Str), ("NoLoop" : Str), ("TooMany" : Str), ("NothingToUndo" : Str), ("is_whole" : Str), ("is_word" : Str), ("twos_in" : Str), ("inverse_of" : Str), ("power" : Str), ("is_formula_within" : Str), ("need_formula" : Str), ("is_formula" : Str), ("combined" : Str), ("value_of" : Str), ("value" : Str)] ++ [("points" : Str), ("differences" : Str), ("lines_along" : Str), ("spread_of" : Str), ("odd_part" : Str), ("divided" : Str), ("normal_of" : Str), ("normal" : Str), ("same_function" : Str), ("parting" : Str), ("degree" : Str), ("_law_cell" : Str), ("_law_drawn" : Str), ("_law_roll" : Str), ("_law_rounds" : Str), ("_law_term" : Str), ("_law_told" : Str), ("_law_word" : Str), ("_law_row" : Str), ("_law_any_formula" : Str), ("_law_worth" : Str), ("BITS" : Str), ("SIZE" : Str), ("STEPS" : Str)]
theorem run (w : World) : HandSHeadRun.RunEq Rr (PySem.W.view Rr.prog [59]) hk ob 6000 loose w := by
  intro os
  kernel_rfl
end K07
open PySem PySem.W PySem.Calls PyProof.Rows
theorem K07.holds (hT : Fk.LawTrue (Fk.tabOf K07.G K07.sk) 24) : PySem.Challenge.rw_flowkeep_k07_whole_formulas.Holds := by
  w_on; o_law
  refine HandSHeadRun.head_any (r := OpenLaw.row PySem.Challenge.rw_flowkeep_k07_whole_formulas) (q := view (OpenLaw.row PySem.Challenge.rw_flowkeep_k07_whole_formulas).prog [59]) (H := K07.hk) (ob := K07.ob) (M := 6000) (loose := K07.loose) (d := HandSHeadRun.topDef (OpenLaw.row PySem.Challenge.rw_flowkeep_k07_whole_formulas).prog 59) (kwd := []) K07.ob_eq
    (by kernel_rfl) (fun s => by kernel_rfl) K07.run (by kernel_rfl) (by kernel_rfl) (by kernel_rfl) (by rfl) (by first | assumption | decide +kernel) (by decide +kernel) ⟨rfl, rfl, rfl, rfl, rfl, by decide +kernel⟩ ?hw ?hc
  case hw => w_witness2
  case hc =>
    exact Fk.walk_fk (l := PySem.Challenge.rw_flowkeep_k07_whole_formulas) (k := 24) (s := K07.k_law) (n := 4) rfl (by kernel_rfl) ⟨rfl, by decide, by decide⟩ (by kernel_rfl) K07.sk_ok K07.binds K07.told_ok (by rfl) rfl hT

theorem PySem.Challenge.cw_flowkeep_k07_whole_formulas_holds : PySem.Challenge.rw_flowkeep_k07_whole_formulas.Holds :=
  K07.holds K07.lawTrue
