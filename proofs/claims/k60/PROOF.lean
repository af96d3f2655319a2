import PyProof.Rows.All
import Wide.All
import OpenK.AllK
import Wide.FinOn
import HandS.ForMost
import HandS.ForExc
import HandS.Wide
import HandS.TupAny
import HandS.Deep
import HandS.IsInst
import HandS.FStr
import HandS.Conv
import HandS.RaiseFrom
import HandS.SuiteRaise
import HandS.Defaults
import HandS.SetFor
import HandS.Strs
import HandS.Head0
import HandS.Head1
import HandS.Head2
import HandS.HeadEnd
import HandS.HeadHook1
import HandS.HeadHook2
import HandS.HeadHook3
import HandS.HeadHook4
import HandS.Text
import PySem.Challenge.RW_everyweather_k60_texts_of_farms
set_option Elab.async false
set_option linter.all false
set_option maxRecDepth 100000
set_option maxHeartbeats 4000000
/-! Pv1: plain values over the hand layer: what stands for what, steps of the heap, judgements with a plain function. -/
namespace PV
open PySem L2

/-- a plain value; box: a changing thing by its number -/
inductive P where
  | non | bl (b : Bool) | int (i : Int) | str (x : Str) | tup (xs : List P) | lst (xs : List P) | box (i : Nat) | fro (xs : List Int)
deriving Inhabited
/-- what stands in a box -/
inductive Cell where
  | lst (xs : List P)
  | ins (C : Str) (fs : List (Str × P))
deriving Inhabited
abbrev Bx := List Cell
/-- an own error: its class by name, its fields -/
structure Xn where
  cls : Str
  fs : List (Str × P)
inductive Out (α : Type) where
  | ok (a : α) (b : Bx)
  | ex (e : Xn) (b : Bx)
  | no
def Out.bind {α β : Type} (o : Out α) (f : α → Bx → Out β) : Out β := match o with
  | .ok a b => f a b
  | .ex e b => .ex e b
  | .no => .no
@[simp] theorem Out.bind_ok {α β : Type} (a : α) (b : Bx) (f : α → Bx → Out β) : (Out.ok a b).bind f = f a b := rfl
@[simp] theorem Out.bind_ex {α β : Type} (e : Xn) (b : Bx) (f : α → Bx → Out β) : (Out.ex e b : Out α).bind f = .ex e b := rfl
@[simp] theorem Out.bind_no {α β : Type} (f : α → Bx → Out β) : (Out.no : Out α).bind f = .no := rfl
/-- a slot of a frame: unset, a value, a list of its own -/
inductive Slot where
  | un
  | va (p : P)
  | ow (xs : List P)
deriving Inhabited
abbrev Env := List Slot
abbrev FE := Env → Bx → Out P
abbrev FT := Env → Bx → Out Bool
abbrev FA := Env → Bx → Out (List P)
inductive SOut where
  | nx (e : Env) (b : Bx)
  | rt (p : P) (b : Bx)
  | bk (e : Env) (b : Bx)
  | ct (e : Env) (b : Bx)
  | ex (x : Xn) (e : Env) (b : Bx)
  | no
abbrev FS := Env → Bx → SOut

abbrev Frag := PySem.W.Frag
abbrev Mg := Str → Option Value
abbrev Ad := Addr → Prop

/-! ### what stands for a plain value -/
/-- a list that nobody changes: locked, or of the written part -/
def FroOk (K : Frag) (H : Hp) (a : Addr) (xs : List V) : Prop := (∃ o, H a = some (.frz o (.lst xs))) ∨
    ∃ (o : Obj) (its : Array Value) (n : Nat), K.lookup a = some o ∧ o.cls = .type "list" ∧ o.dict = none ∧ o.data = .seq its n ∧ its.size ≤ sizeLine ∧ Vals xs its.toList
theorem FroOk.seq {K : Frag} {H : Hp} {a : Addr} {xs : List V} (h : FroOk K H a xs) : SqL K H a xs := h.elim (fun ⟨o, h⟩ => .inl (.inr ⟨o, h⟩)) .inr
mutual
def Rep (K : Frag) (rhx : List Addr) (M : Ad) (H : Hp) : P → V → Prop
  | .non, v => v = .non
  | .bl b, v => v = .bl b
  | .int i, v => v = .int i
  | .str x, v => v = .str x
  | .tup ps, v => ∃ a vs, v = .ref a ∧ SqT K H a vs ∧ Reps K rhx M H ps vs
  | .lst ps, v => ∃ a vs, v = .ref a ∧ H a = some (.lst vs) ∧ ¬ M a ∧ Reps K rhx M H ps vs
  | .box i, v => ∃ a, v = .ref a ∧ rhx[i]? = some a
  | .fro ns, v => ∃ a, v = .ref a ∧ FroOk K H a (ns.map V.int)
def Reps (K : Frag) (rhx : List Addr) (M : Ad) (H : Hp) : List P → List V → Prop
  | [], vs => vs = []
  | p :: ps, vs => ∃ v r, vs = v :: r ∧ Rep K rhx M H p v ∧ Reps K rhx M H ps r
end
def RepF (K : Frag) (rhx : List Addr) (M : Ad) (H : Hp) : List (Str × P) → List (Str × V) → Prop
  | [], gs => gs = []
  | (f, p) :: fs, gs => ∃ v r, gs = (f, v) :: r ∧ Rep K rhx M H p v ∧ RepF K rhx M H fs r
def CellOk (K : Frag) (mg : Mg) (rhx : List Addr) (M : Ad) (H : Hp) (a : Addr) : Cell → Prop
  | .lst ps => ∃ vs, H a = some (.lst vs) ∧ Reps K rhx M H ps vs
  | .ins C fs => ∃ c dx gs, mg C = some (.ref c) ∧ H a = some (.ins c dx gs) ∧ RepF K rhx M H fs gs
/-- the heap against the boxes: their addresses rhx, all changing things M -/
structure Wd (K : Frag) (mg : Mg) (H : Hp) (rhx : List Addr) (M : Ad) (b : Bx) : Prop where
  len : rhx.length = b.length
  nd : rhx.Nodup
  mu : ∀ x, M x → Mut (H x)
  box : ∀ x, x ∈ rhx → M x
  cel : ∀ (i : Nat) a c, rhx[i]? = some a → b[i]? = some c → CellOk K mg rhx M H a c
def RepX (K : Frag) (mg : Mg) (rhx : List Addr) (M : Ad) (H : Hp) (e : Xn) (cls : Value) (d : Option Addr) : Prop :=
  ∃ c, mg e.cls = some (.ref c) ∧ cls = .ref c ∧ ((e.fs = [] ∧ d = none) ∨ ∃ dd gs, d = some dd ∧ H dd = some (.xd gs) ∧ RepF K rhx M H e.fs gs)

/-- an expression's step: boxes may change, all else that was known stays -/
structure StepE (H : Hp) (rhx : List Addr) (M : Ad) (H' : Hp) (rhx' : List Addr) (M' : Ad) : Prop where
  keepR : ∀ x o, H x = some o → x ∉ rhx → H' x = some o
  pre : ∃ l, rhx' = rhx ++ l
  fresh : ∀ x, x ∈ rhx' → x ∉ rhx → H x = none
  dom : ∀ x, H' x = none → H x = none
  new : ∀ x, M' x → M x ∨ H x = none
  mono : ∀ x, M x → M' x
/-- a statement's step: own lists may change too -/
structure StepS (H : Hp) (rhx : List Addr) (M : Ad) (H' : Hp) (rhx' : List Addr) (M' : Ad) : Prop where
  keep : ∀ x o, H x = some o → ¬ M x → H' x = some o
  pre : ∃ l, rhx' = rhx ++ l
  dom : ∀ x, H' x = none → H x = none
  new : ∀ x, M' x → M x ∨ H x = none
section
variable {K : Frag} {mg : Mg} {H H1 H2 : Hp} {rhx rhx1 rhx2 : List Addr} {M M1 M2 : Ad} {b b1 : Bx}
theorem StepE.refl : StepE H rhx M H rhx M := ⟨fun _ _ h _ => h, ⟨[], by simp⟩, fun _ h n => (n h).elim, fun _ h => h, fun _ h => .inl h, fun _ h => h⟩
theorem StepS.refl : StepS H rhx M H rhx M := ⟨fun _ _ h _ => h, ⟨[], by simp⟩, fun _ h => h, fun _ h => .inl h⟩
theorem none_of_dom (h : ∀ x, H1 x = none → H x = none) {x : Addr} (e : H1 x = none) : H x = none := h x e
theorem StepE.trans (a : StepE H rhx M H1 rhx1 M1) (c : StepE H1 rhx1 M1 H2 rhx2 M2) : StepE H rhx M H2 rhx2 M2 := by
  refine ⟨fun x o h n => ?_, ?_, fun x h n => ?_, fun x h => a.dom x (c.dom x h), fun x h => ?_, fun x h => c.mono x (a.mono x h)⟩
  · refine c.keepR x o (a.keepR x o h n) fun h1 => ?_
    have := a.fresh x h1 n
    rw [h] at this; cases this
  · obtain ⟨l, rfl⟩ := a.pre
    obtain ⟨l', rfl⟩ := c.pre
    exact ⟨l ++ l', by rw [List.append_assoc]⟩
  · by_cases h1 : x ∈ rhx1
    · exact a.fresh x h1 n
    · exact a.dom x (c.fresh x h h1)
  · rcases c.new x h with h | h
    · exact a.new x h
    · exact .inr (a.dom x h)
theorem StepS.trans (a : StepS H rhx M H1 rhx1 M1) (c : StepS H1 rhx1 M1 H2 rhx2 M2) : StepS H rhx M H2 rhx2 M2 := by
  refine ⟨fun x o h n => c.keep x o (a.keep x o h n) fun h1 => ?_, ?_, fun x h => a.dom x (c.dom x h), fun x h => ?_⟩
  · rcases a.new x h1 with h2 | h2
    · exact n h2
    · rw [h] at h2; cases h2
  · obtain ⟨l, rfl⟩ := a.pre
    obtain ⟨l', rfl⟩ := c.pre
    exact ⟨l ++ l', by rw [List.append_assoc]⟩
  · rcases c.new x h with h | h
    · exact a.new x h
    · exact .inr (a.dom x h)
theorem StepE.toS (wb : ∀ x, x ∈ rhx → M x) (a : StepE H rhx M H1 rhx1 M1) : StepS H rhx M H1 rhx1 M1 := ⟨fun x o h n => a.keepR x o h fun z => n (wb x z), a.pre, a.dom, a.new⟩
theorem not_mut (mu : ∀ x, M x → Mut (H x)) {a : Addr} {o : HO} (h : H a = some o) (n : ¬ Mut (some o)) : ¬ M a := fun m => by
  have := mu a m
  rw [h] at this
  exact n this
theorem rd_step (k : ∀ x o, H x = some o → ¬ M x → H1 x = some o) {a : Addr} {u : HO} (n : ¬ M a) (h : Rd H a u) : Rd H1 a u := by
  rcases h with h | ⟨o, h⟩
  · exact .inl (k _ _ h n)
  · exact .inr ⟨o, k _ _ h n⟩
theorem sqT_step (mu : ∀ x, M x → Mut (H x)) (k : ∀ x o, H x = some o → ¬ M x → H1 x = some o) {a : Addr} {xs : List V} (h : SqT K H a xs) : SqT K H1 a xs := by
  rcases h with h | h
  · refine .inl (rd_step k ?_ h)
    rcases h with h | ⟨o, h⟩
    · exact not_mut mu h id
    · exact not_mut mu h id
  · exact .inr h
theorem rd_some {a : Addr} {u : HO} (h : Rd H a u) : ∃ o, H a = some o := by
  rcases h with h | ⟨o, h⟩
  · exact ⟨_, h⟩
  · exact ⟨_, h⟩
mutual
theorem Rep.step (mu : ∀ x, M x → Mut (H x)) (st : StepS H rhx M H1 rhx1 M1) : ∀ (p : P) (v : V), Rep K rhx M H p v → Rep K rhx1 M1 H1 p v
  | .non, _, h => h
  | .bl _, _, h => h
  | .int _, _, h => h
  | .str _, _, h => h
  | .tup ps, _, h => by
    obtain ⟨a, vs, e, s, r⟩ := h
    exact ⟨a, vs, e, sqT_step mu st.keep s, Reps.step mu st ps vs r⟩
  | .lst ps, _, h => by
    obtain ⟨a, vs, e, s, n, r⟩ := h
    refine ⟨a, vs, e, st.keep _ _ s n, fun z => ?_, Reps.step mu st ps vs r⟩
    rcases st.new a z with q | q
    · exact n q
    · rw [s] at q; cases q
  | .box i, _, h => by
    obtain ⟨a, e, g⟩ := h
    obtain ⟨l, rfl⟩ := st.pre
    refine ⟨a, e, ?_⟩
    have hi : i < rhx.length := (List.getElem?_eq_some_iff.mp g).1
    rw [List.getElem?_append_left hi]
    exact g
  | .fro ns, _, h => by
    obtain ⟨a, e, g⟩ := h
    rcases g with ⟨o, g⟩ | g
    · exact ⟨a, e, .inl ⟨o, st.keep _ _ g (not_mut mu g id)⟩⟩
    · exact ⟨a, e, .inr g⟩
theorem Reps.step (mu : ∀ x, M x → Mut (H x)) (st : StepS H rhx M H1 rhx1 M1) : ∀ (ps : List P) (vs : List V), Reps K rhx M H ps vs → Reps K rhx1 M1 H1 ps vs
  | [], _, h => h
  | p :: ps, _, h => by
    obtain ⟨v, r, e, h1, h2⟩ := h
    exact ⟨v, r, e, Rep.step mu st p v h1, Reps.step mu st ps r h2⟩
end
theorem RepF.step (mu : ∀ x, M x → Mut (H x)) (st : StepS H rhx M H1 rhx1 M1) : ∀ (ps : List (Str × P)) (vs : List (Str × V)), RepF K rhx M H ps vs → RepF K rhx1 M1 H1 ps vs
  | [], _, h => h
  | (f, p) :: ps, _, h => by
    obtain ⟨v, r, e, h1, h2⟩ := h
    exact ⟨v, r, e, Rep.step mu st p v h1, RepF.step mu st ps r h2⟩
theorem Reps.length : ∀ {ps : List P} {vs : List V}, Reps K rhx M H ps vs → vs.length = ps.length
  | [], _, h => by cases h; rfl
  | p :: ps, _, h => by
    obtain ⟨v, r, e, h1, h2⟩ := h
    cases e
    simp [Reps.length h2]
theorem Reps.get : ∀ {ps : List P} {vs : List V} {i : Nat} {p : P}, Reps K rhx M H ps vs → ps[i]? = some p → ∃ v, vs[i]? = some v ∧ Rep K rhx M H p v
  | [], _, _, _, _, h => by simp at h
  | p :: ps, _, 0, _, h, e => by
    obtain ⟨v, r, e1, h1, h2⟩ := h
    cases e1
    simp at e; subst e
    exact ⟨v, rfl, h1⟩
  | p :: ps, _, i + 1, _, h, e => by
    obtain ⟨v, r, e1, h1, h2⟩ := h
    cases e1
    exact Reps.get (i := i) h2 (by simpa using e)
theorem Reps.append : ∀ {ps qs : List P} {vs ws : List V}, Reps K rhx M H ps vs → Reps K rhx M H qs ws → Reps K rhx M H (ps ++ qs) (vs ++ ws)
  | [], _, _, _, h, h' => by cases h; exact h'
  | p :: ps, _, _, _, h, h' => by
    obtain ⟨v, r, e1, h1, h2⟩ := h
    cases e1
    exact ⟨v, r ++ _, rfl, h1, Reps.append h2 h'⟩
theorem Reps.one {p : P} {v : V} (h : Rep K rhx M H p v) : Reps K rhx M H [p] [v] := ⟨v, [], rfl, h, rfl⟩
theorem Reps.take : ∀ (n : Nat) {ps : List P} {vs : List V}, Reps K rhx M H ps vs → Reps K rhx M H (ps.take n) (vs.take n)
  | 0, _, _, _ => by simp; rfl
  | n + 1, [], _, h => by cases h; exact rfl
  | n + 1, p :: ps, _, h => by
    obtain ⟨v, r, e1, h1, h2⟩ := h
    cases e1
    exact ⟨v, _, rfl, h1, Reps.take n h2⟩
theorem Reps.drop : ∀ (n : Nat) {ps : List P} {vs : List V}, Reps K rhx M H ps vs → Reps K rhx M H (ps.drop n) (vs.drop n)
  | 0, _, _, h => by simpa using h
  | n + 1, [], _, h => by cases h; exact rfl
  | n + 1, p :: ps, _, h => by
    obtain ⟨v, r, e1, h1, h2⟩ := h
    cases e1
    exact Reps.drop n h2
theorem Reps.set {q : P} {w : V} (hq : Rep K rhx M H q w) : ∀ (n : Nat) {ps : List P} {vs : List V}, Reps K rhx M H ps vs → Reps K rhx M H (ps.set n q) (vs.set n w)
  | _, [], _, h => by cases h; exact rfl
  | 0, p :: ps, _, h => by
    obtain ⟨v, r, e1, h1, h2⟩ := h
    cases e1
    exact ⟨w, _, rfl, hq, h2⟩
  | n + 1, p :: ps, _, h => by
    obtain ⟨v, r, e1, h1, h2⟩ := h
    cases e1
    exact ⟨v, _, rfl, h1, Reps.set hq n h2⟩
mutual
theorem Rep.less (l : ∀ x, M1 x → M x) : ∀ (p : P) (v : V), Rep K rhx M H p v → Rep K rhx M1 H p v
  | .non, _, h => h
  | .bl _, _, h => h
  | .int _, _, h => h
  | .str _, _, h => h
  | .tup ps, _, h => by
    obtain ⟨a, vs, e, s, r⟩ := h
    exact ⟨a, vs, e, s, Reps.less l ps vs r⟩
  | .lst ps, _, h => by
    obtain ⟨a, vs, e, s, n, r⟩ := h
    exact ⟨a, vs, e, s, fun z => n (l a z), Reps.less l ps vs r⟩
  | .box i, _, h => h
  | .fro _, _, h => h
theorem Reps.less (l : ∀ x, M1 x → M x) : ∀ (ps : List P) (vs : List V), Reps K rhx M H ps vs → Reps K rhx M1 H ps vs
  | [], _, h => h
  | p :: ps, _, h => by
    obtain ⟨v, r, e, h1, h2⟩ := h
    exact ⟨v, r, e, Rep.less l p v h1, Reps.less l ps r h2⟩
end
theorem RepF.less (l : ∀ x, M1 x → M x) : ∀ (ps : List (Str × P)) (vs : List (Str × V)), RepF K rhx M H ps vs → RepF K rhx M1 H ps vs
  | [], _, h => h
  | (f, p) :: ps, _, h => by
    obtain ⟨v, r, e, h1, h2⟩ := h
    exact ⟨v, r, e, Rep.less l p v h1, RepF.less l ps r h2⟩
theorem CellOk.step (mu : ∀ x, M x → Mut (H x)) (st : StepS H rhx M H1 rhx1 M1) {a : Addr} {c : Cell} (e : H1 a = H a) (h : CellOk K mg rhx M H a c) : CellOk K mg rhx1 M1 H1 a c := by
  cases c with
  | lst ps => obtain ⟨vs, h1, r⟩ := h; exact ⟨vs, by rw [e]; exact h1, Reps.step mu st _ _ r⟩
  | ins C fs => obtain ⟨c, dx, gs, g, h1, r⟩ := h; exact ⟨c, dx, gs, g, by rw [e]; exact h1, RepF.step mu st _ _ r⟩
theorem CellOk.less (l : ∀ x, M1 x → M x) {a : Addr} {c : Cell} (h : CellOk K mg rhx M H a c) : CellOk K mg rhx M1 H a c := by
  cases c with
  | lst ps => obtain ⟨vs, h1, r⟩ := h; exact ⟨vs, h1, Reps.less l _ _ r⟩
  | ins C fs => obtain ⟨c, dx, gs, g, h1, r⟩ := h; exact ⟨c, dx, gs, g, h1, RepF.less l _ _ r⟩
theorem Wd.fresh (w : Wd K mg H rhx M b) {p : Addr} (h : H p = none) : ¬ M p := fun m => by
  have := w.mu p m
  rw [h] at this
  exact this
theorem Wd.nrho (w : Wd K mg H rhx M b) {p : Addr} (h : H p = none) : p ∉ rhx := fun m => w.fresh h (w.box p m)
/-- a new thing that is no box: laid, changing or not -/
theorem StepE.newO (w : Wd K mg H rhx M b) {p : Addr} {o : HO} (h : H p = none) : StepE H rhx M (upd H p o) rhx M :=
  ⟨fun x u e _ => by rw [upd_ne (ne_of_none e h)]; exact e, ⟨[], by simp⟩, fun x h n => (n h).elim, fun x e => by
    by_cases hx : x = p
    · rw [hx]; exact h
    · rw [upd_ne hx] at e; exact e, fun _ h => .inl h, fun _ h => h⟩
theorem Wd.stepE (w : Wd K mg H rhx M b) (st : StepE H rhx M H1 rhx M1) (mu : ∀ x, M1 x → Mut (H1 x)) (same : ∀ x, x ∈ rhx → H1 x = H x) : Wd K mg H1 rhx M1 b :=
  ⟨w.len, w.nd, mu, fun x h => st.mono x (w.box x h), fun i a c h1 h2 => CellOk.step w.mu (st.toS w.box) (same a (List.mem_of_getElem? h1)) (w.cel i a c h1 h2)⟩
theorem Wd.newO (w : Wd K mg H rhx M b) {p : Addr} {o : HO} (h : H p = none) : Wd K mg (upd H p o) rhx M b :=
  w.stepE (StepE.newO w h) (fun x m => by
    have n : x ≠ p := fun e => by rw [e] at m; exact w.fresh h m
    rw [upd_ne n]; exact w.mu x m) fun x m => upd_ne fun e => by rw [e] at m; exact w.nrho h m
end
end PV

namespace PV
open PySem L2

/-- the frame's slots against the plain environment; N0: what was not there at the entry -/
structure EnvOk (K : Frag) (rhx : List Addr) (M : Ad) (H : Hp) (N0 : Ad) (sgm : L2.St) (env : Env) : Prop where
  len : sgm.length = env.length
  val : ∀ (i : Nat) p, env[i]? = some (.va p) → ∃ v, sgm[i]? = some (some v) ∧ Rep K rhx M H p v
  own : ∀ (i : Nat) ps, env[i]? = some (.ow ps) → ∃ a vs, sgm[i]? = some (some (.ref a)) ∧ H a = some (.lst vs) ∧ Reps K rhx M H ps vs ∧ M a ∧ a ∉ rhx ∧ N0 a
  inj : ∀ (i j : Nat) ps qs a, env[i]? = some (.ow ps) → env[j]? = some (.ow qs) → sgm[i]? = some (some (.ref a)) → sgm[j]? = some (some (.ref a)) → i = j
theorem EnvOk.step {K : Frag} {mg : Mg} {rhx rhx1 : List Addr} {M M1 : Ad} {H H1 : Hp} {N0 : Ad} {sgm : L2.St} {env : Env} {b : Bx} (w : Wd K mg H rhx M b) (st : StepE H rhx M H1 rhx1 M1) (e : EnvOk K rhx M H N0 sgm env) : EnvOk K rhx1 M1 H1 N0 sgm env := by
  have sS := st.toS w.box
  refine ⟨e.len, fun i p h => ?_, fun i ps h => ?_, e.inj⟩
  · obtain ⟨v, h1, r⟩ := e.val i p h
    exact ⟨v, h1, Rep.step w.mu sS _ _ r⟩
  · obtain ⟨a, vs, h1, h2, r, m, n, z⟩ := e.own i ps h
    refine ⟨a, vs, h1, st.keepR a _ h2 n, Reps.step w.mu sS _ _ r, st.mono a m, fun q => ?_, z⟩
    have := st.fresh a q n
    rw [h2] at this; cases this

def Post (K : Frag) (mg : Mg) (W : WX) (sgm : L2.St) (H : Hp) (rhx : List Addr) (M : Ad) {α β : Type} (R : List Addr → Ad → Hp → α → β → Prop) (o : Out α) (Q : β → Hp → Prop) : Prop := match o with
  | .ok a b' => ∀ v H' rhx' M', StepE H rhx M H' rhx' M' → Wd K mg H' rhx' M' b' → R rhx' M' H' a v → Q v H'
  | .ex e b' => ∀ cls d H' rhx' M', StepE H rhx M H' rhx' M' → Wd K mg H' rhx' M' b' → RepX K mg rhx' M' H' e cls d → W cls d sgm H'
  | .no => False
abbrev rV (K : Frag) : List Addr → Ad → Hp → P → V → Prop := fun rhx M H p v => Rep K rhx M H p v
abbrev rVs (K : Frag) : List Addr → Ad → Hp → List P → List V → Prop := fun rhx M H p v => Reps K rhx M H p v
abbrev rB : List Addr → Ad → Hp → Bool → Bool → Prop := fun _ _ _ a b => a = b
section
variable {K : Frag} {mg : Mg} {W : WX} {sgm : L2.St} {H H1 : Hp} {rhx rhx1 : List Addr} {M M1 : Ad} {α β α' β' : Type} {R : List Addr → Ad → Hp → α → β → Prop} {R' : List Addr → Ad → Hp → α' → β' → Prop}
theorem Post.later {o : Out α} {Q : β → Hp → Prop} (st : StepE H rhx M H1 rhx1 M1) (h : Post K mg W sgm H rhx M R o Q) : Post K mg W sgm H1 rhx1 M1 R o Q := by
  cases o with
  | ok a b' => exact fun v H' rhx' M' s w r => h v H' rhx' M' (st.trans s) w r
  | ex e b' => exact fun c d H' rhx' M' s w r => h c d H' rhx' M' (st.trans s) w r
  | no => exact h
theorem Post.bind {o : Out α} {f : α → Bx → Out α'} {Q : β' → Hp → Prop} {Q1 : β → Hp → Prop} (h : Post K mg W sgm H rhx M R' (o.bind f) Q)
    (k : ∀ a b' v H' rhx' M', StepE H rhx M H' rhx' M' → Wd K mg H' rhx' M' b' → R rhx' M' H' a v → Post K mg W sgm H' rhx' M' R' (f a b') Q → Q1 v H') : Post K mg W sgm H rhx M R o Q1 := by
  cases o with
  | ok a b' => exact fun v H' rhx' M' s w r => k a b' v H' rhx' M' s w r (h.later s)
  | ex e b' => exact h
  | no => exact h.elim
end

def SemE (K : Frag) (mg : Mg) (W : WX) (t : TE) (f : FE) : Prop := ∀ (N0 : Ad) (sgm : L2.St) (env : Env) (b : Bx) (H : Hp) (rhx : List Addr) (M : Ad) (Q : VK), Wd K mg H rhx M b → EnvOk K rhx M H N0 sgm env → Post K mg W sgm H rhx M (rV K) (f env b) Q → t sgm H Q
def SemT (K : Frag) (mg : Mg) (W : WX) (t : TT) (f : FT) : Prop := ∀ (N0 : Ad) (sgm : L2.St) (env : Env) (b : Bx) (H : Hp) (rhx : List Addr) (M : Ad) (Q : Bool → Hp → Prop), Wd K mg H rhx M b → EnvOk K rhx M H N0 sgm env → Post K mg W sgm H rhx M rB (f env b) Q → t sgm H Q
def SemA (K : Frag) (mg : Mg) (W : WX) (t : TA) (f : FA) : Prop := ∀ (N0 : Ad) (sgm : L2.St) (env : Env) (b : Bx) (H : Hp) (rhx : List Addr) (M : Ad) (Q : List V → Hp → Prop), Wd K mg H rhx M b → EnvOk K rhx M H N0 sgm env → Post K mg W sgm H rhx M (rVs K) (f env b) Q → t sgm H Q
structure PU (K : Frag) (mg : Mg) (W : WX) (X : Cx) (e : Expr) (t : TE) (f : FE) : Prop where
  pe : PE X e t
  sem : SemE K mg W t f
structure TU (K : Frag) (mg : Mg) (W : WX) (X : Cx) (e : Expr) (t : TT) (f : FT) : Prop where
  pe : PT X e t
  sem : SemT K mg W t f
structure TWU (K : Frag) (mg : Mg) (W : WX) (X : Cx) (e : Expr) (t : TT) (f : FT) : Prop where
  pe : PW X e t
  sem : SemT K mg W t f
structure AU (K : Frag) (mg : Mg) (W : WX) (X : Cx) (es : List Expr) (t : TA) (f : FA) : Prop where
  pe : PA X es t
  sem : SemA K mg W t f

/-! ### plain functions of expressions -/
def ofO {α : Type} (o : Option α) (b : Bx) : Out α := match o with
  | some p => .ok p b
  | none => .no
@[simp] theorem ofO_some {α : Type} (p : α) (b : Bx) : ofO (some p) b = .ok p b := rfl
@[simp] theorem ofO_none {α : Type} (b : Bx) : ofO (none : Option α) b = .no := rfl
def eVar (i : Nat) : FE := fun env b => match env[i]? with
  | some (.va p) => .ok p b
  | _ => .no
def eC (p : P) : FE := fun _ b => .ok p b
def eOp2 (g : Bx → P → P → Option P) (fa fb : FE) : FE := fun env b => (fa env b).bind fun p b1 => (fb env b1).bind fun q b2 => ofO (g b2 p q) b2
def eOp1 (g : Bx → P → Option P) (fa : FE) : FE := fun env b => (fa env b).bind fun p b1 => ofO (g b1 p) b1
def eCall (g : Bx → List P → Option P) (fa : FA) : FE := fun env b => (fa env b).bind fun ps b1 => ofO (g b1 ps) b1
def eMeth (g : P → List P → Option P) (fo : FE) (fa : FA) : FE := fun env b => (fo env b).bind fun p b0 => (fa env b0).bind fun ps b1 => ofO (g p ps) b1
def eFn (d : List P → Bx → Out P) (fa : FA) : FE := fun env b => (fa env b).bind fun ps b1 => d ps b1
def aNil : FA := fun _ b => .ok [] b
def aCons (fa : FE) (fr : FA) : FA := fun env b => (fa env b).bind fun p b1 => (fr env b1).bind fun ps b2 => .ok (p :: ps) b2
def eAnd (fa fb : FE) : FE := fun env b => (fa env b).bind fun p b1 => match p with
  | .bl true => fb env b1
  | .bl false => .ok (.bl false) b1
  | _ => .no
def eOr (fa fb : FE) : FE := fun env b => (fa env b).bind fun p b1 => match p with
  | .bl true => .ok (.bl true) b1
  | .bl false => fb env b1
  | _ => .no
def notP : Bx → P → Option P
  | _, .bl c => some (.bl (!c))
  | _, _ => none
def eIf (ft : FT) (fa fb : FE) : FE := fun env b => (ft env b).bind fun c b1 => if c = true then fa env b1 else fb env b1
def tVal (fa : FE) : FT := fun env b => (fa env b).bind fun p b1 => match p with
  | .bl c => .ok c b1
  | _ => .no
def tAndF (fa fb : FT) : FT := fun env b => (fa env b).bind fun c b1 => if c = true then fb env b1 else .ok false b1
def tOrF (fa fb : FT) : FT := fun env b => (fa env b).bind fun c b1 => if c = true then .ok true b1 else fb env b1
def tNotF (fa : FT) : FT := fun env b => (fa env b).bind fun c b1 => .ok (!c) b1
/-- a two-place rule of the layer computes g -/
def OpG (K : Frag) (r : R2) (g : Bx → P → P → Option P) : Prop := ∀ (mg : Mg) (H : Hp) (rhx : List Addr) (M : Ad) (b : Bx) (x y : V) (p q z : P) (Q : VK), Wd K mg H rhx M b → Rep K rhx M H p x → Rep K rhx M H q y → g b p q = some z →
  (∀ v H', StepE H rhx M H' rhx M → Wd K mg H' rhx M b → Rep K rhx M H' z v → Q v H') → r x y H Q
def UnG (K : Frag) (r : V → Hp → VK → Prop) (g : Bx → P → Option P) : Prop := ∀ (mg : Mg) (H : Hp) (rhx : List Addr) (M : Ad) (b : Bx) (x : V) (p z : P) (Q : VK), Wd K mg H rhx M b → Rep K rhx M H p x → g b p = some z →
  (∀ v H', StepE H rhx M H' rhx M → Wd K mg H' rhx M b → Rep K rhx M H' z v → Q v H') → r x H Q
def CallG (K : Frag) (r : List V → Hp → VK → Prop) (g : Bx → List P → Option P) : Prop := ∀ (mg : Mg) (H : Hp) (rhx : List Addr) (M : Ad) (b : Bx) (xs : List V) (ps : List P) (z : P) (Q : VK), Wd K mg H rhx M b → Reps K rhx M H ps xs → g b ps = some z →
  (∀ v H', StepE H rhx M H' rhx M → Wd K mg H' rhx M b → Rep K rhx M H' z v → Q v H') → r xs H Q
def MtG (K : Frag) (T : String) (r : V → List V → Hp → VK → Prop) (g : P → List P → Option P) : Prop := ∀ (mg : Mg) (H : Hp) (rhx : List Addr) (M : Ad) (b : Bx) (x : V) (xs : List V) (p : P) (ps : List P) (z : P) (Q : VK), Wd K mg H rhx M b → Rep K rhx M H p x → Reps K rhx M H ps xs → g p ps = some z →
  (∀ v H', StepE H rhx M H' rhx M → Wd K mg H' rhx M b → Rep K rhx M H' z v → Q v H') → r x xs H Q
/-- what a def's promise is: it computes d -/
def spP (K : Frag) (mg : Mg) (d : List P → Bx → Out P) : Sp := fun vs H Q E => ∃ ps b rhx M, Wd K mg H rhx M b ∧ Reps K rhx M H ps vs ∧ Post K mg (fun c x _ H' => E c x H') [] H rhx M (rV K) (d ps b) Q

section
variable {K : Frag} {mg : Mg} {W : WX} {X : Cx} {a c e o : Expr} {ta tb tc te : TE} {fa fb fc fe : FE} {pos : Pos} {tA tB' : TT} {gA gB : FT}
theorem pu_var (i : Nat) {x : Str} (hN : X.N[i]? = some x := by rfl) (hv : Vis X.env.scope x := by first | exact Or.inl rfl | exact Or.inr (Or.inl rfl) | exact Or.inr (Or.inr rfl)) (hd : (x == ("__debug__" : Str)) = false := by decide)
    (hcd : (x == ("__classdict__" : Str)) = false := by decide) : PU K mg W X (.Name x pos) (tVar i) (eVar i) := ⟨pe_var hN hv hd hcd, fun N0 sgm env b H rhx M Q w e h => by
  unfold eVar at h
  cases q : env[i]? with
  | none => rw [q] at h; exact h.elim
  | some s =>
    rw [q] at h
    cases s with
    | un => exact h.elim
    | ow ps => exact h.elim
    | va p =>
      obtain ⟨v, h1, r⟩ := e.val i p q
      exact ⟨v, h1, h v H rhx M .refl w r⟩⟩
theorem semC {v : V} {p : P} (h : ∀ rhx M H, Rep K rhx M H p v) : SemE K mg W (tC v) (eC p) := fun N0 sgm env b H rhx M Q w e q => q v H rhx M .refl w (h rhx M H)
theorem pu_int {i : Int} {j : Nat} : PU K mg W X (.Constant (.int i) j pos) (tC (.int i)) (eC (.int i)) := ⟨pe_int, semC fun _ _ _ => rfl⟩
theorem pu_bl {i : Bool} {j : Nat} : PU K mg W X (.Constant (.bool i) j pos) (tC (.bl i)) (eC (.bl i)) := ⟨pe_bl, semC fun _ _ _ => rfl⟩
theorem pu_non {j : Nat} : PU K mg W X (.Constant .none j pos) (tC .non) (eC .non) := ⟨pe_non, semC fun _ _ _ => rfl⟩
theorem pu_str {x : Str} {j : Nat} : PU K mg W X (.Constant (.str x) j pos) (tC (.str x)) (eC (.str x)) := ⟨pe_str, semC fun _ _ _ => rfl⟩
/-- a module's constant -/
def ConstOk (K : Frag) (u : Value) (v : V) (p : P) : Prop := RelV v u ∧ ∀ rhx M H, Rep K rhx M H p v
theorem pu_glob {x : Str} {u : Value} {v : V} {p : P} (hm : X.mg x = some u) (hc : ConstOk K u v p) (hg : Gl X x := by rfl) (hd : (x == ("__debug__" : Str)) = false := by decide) : PU K mg W X (.Name x pos) (tC v) (eC p) :=
  ⟨pe_glob hg hm hc.1 hd, semC hc.2⟩
theorem sem2 {ta tb : TE} {r : R2} {g : Bx → P → P → Option P} (hg : OpG K r g) (sa : SemE K mg W ta fa) (sb : SemE K mg W tb fb) : SemE K mg W (tOp r ta tb) (eOp2 g fa fb) := fun N0 sgm env b H rhx M Q w e h => by
  refine sa N0 sgm env b H rhx M _ w e (Post.bind h fun p b1 x H1 rhx1 M1 st w1 r1 h1 => ?_)
  refine sb N0 sgm env b1 H1 rhx1 M1 _ w1 (e.step w st) (Post.bind h1 fun q b2 y H2 rhx2 M2 st2 w2 r2 h2 => ?_)
  cases hz : g b2 p q with
  | none => rw [hz] at h2; exact h2.elim
  | some z =>
    rw [hz] at h2
    exact hg mg H2 rhx2 M2 b2 x y p q z Q w2 (Rep.step w1.mu (st2.toS w1.box) _ _ r1) r2 hz fun v H' st3 w3 r3 => h2 v H' rhx2 M2 st3 w3 r3
theorem pu_bin {op : Operator} {r : R2} {g : Bx → P → P → Option P} (ho : OpR X (binaryOp op) r) (hg : OpG K r g) (ha : PU K mg W X a ta fa) (hb : PU K mg W X c tb fb) : PU K mg W X (.BinOp a op c pos) (tOp r ta tb) (eOp2 g fa fb) :=
  ⟨pe_op ho ha.pe hb.pe, sem2 hg ha.sem hb.sem⟩
theorem pu_cmp {op : CmpOp} {r : R2} {g : Bx → P → P → Option P} (ho : OpR X (compareOp op) r) (hg : OpG K r g) (ha : PU K mg W X a ta fa) (hb : PU K mg W X c tb fb) (hm : behindInMarks op c = false := by first | exact nomark _ | rfl) : PU K mg W X (.Compare a [op] [c] pos) (tOp r ta tb) (eOp2 g fa fb) :=
  ⟨pe_cmpR ho ha.pe hb.pe hm, sem2 hg ha.sem hb.sem⟩
theorem pu_ix {r : R2} {g : Bx → P → P → Option P} (ho : IxR X r) (hg : OpG K r g) (ha : PU K mg W X a ta fa) (hb : PU K mg W X c tb fb) (hs : PlainIx c := by exact fun _ _ => rfl) : PU K mg W X (.Subscript a c pos) (tOp r ta tb) (eOp2 g fa fb) :=
  ⟨pe_ix ho ha.pe hb.pe hs, sem2 hg ha.sem hb.sem⟩
theorem pu_un {op : UnaryOp} {r : V → Hp → VK → Prop} {g : Bx → P → Option P} (ho : UnR X (unaryOp op) r) (hg : UnG K r g) (ha : PU K mg W X a ta fa) : PU K mg W X (.UnaryOp op a pos) (tUn r ta) (eOp1 g fa) :=
  ⟨pe_un ho ha.pe, fun N0 sgm env b H rhx M Q w e h => by
    refine ha.sem N0 sgm env b H rhx M _ w e (Post.bind h fun p b1 x H1 rhx1 M1 st w1 r1 h1 => ?_)
    cases hz : g b1 p with
    | none => rw [hz] at h1; exact h1.elim
    | some z =>
      rw [hz] at h1
      exact hg mg H1 rhx1 M1 b1 x p z Q w1 r1 hz fun v H' st3 w3 r3 => h1 v H' rhx1 M1 st3 w3 r3⟩
/-- a test of a comparison -/
theorem tu_cmp {op : CmpOp} {r : R2} {g : Bx → P → P → Option P} (ho : OpR X (compareOp op) r) (hg : OpG K r g) (ha : PU K mg W X a ta fa) (hb : PU K mg W X c tb fb) (hm : behindInMarks op c = false := by first | exact nomark _ | rfl) : TU K mg W X (.Compare a [op] [c] pos) (tTest (tOp r ta tb)) (tVal (eOp2 g fa fb)) :=
  ⟨pt_cmpR ho ha.pe hb.pe hm, fun N0 sgm env b H rhx M Q w e h => by
    refine sem2 hg ha.sem hb.sem N0 sgm env b H rhx M _ w e (Post.bind h fun p b1 x H1 rhx1 M1 st w1 r1 h1 => ?_)
    cases p with
    | bl k => exact ⟨k, r1, h1 k H1 rhx1 M1 .refl w1 rfl⟩
    | _ => exact h1.elim⟩
theorem tu_val (he : PU K mg W X a ta fa) (hi : ∀ whole, isTrue a X.env whole = (do let v ← whole; standAt a.pos; holding [v] (truthy v)) := by intro _; rfl) : TU K mg W X a (L2.tB ta) (tVal fa) :=
  ⟨pt_val he.pe hi, fun N0 sgm env b H rhx M Q w e h => by
    refine he.sem N0 sgm env b H rhx M _ w e (Post.bind h fun p b1 x H1 rhx1 M1 st w1 r1 h1 => ?_)
    cases p with
    | bl k => exact ⟨k, r1, h1 k H1 rhx1 M1 .refl w1 rfl⟩
    | _ => exact h1.elim⟩
theorem tu_not (ha : TU K mg W X a tA gA) : TU K mg W X (.UnaryOp .Not a pos) (L2.tNot tA) (tNotF gA) :=
  ⟨pt_not ha.pe, fun N0 sgm env b H rhx M Q w e h => by
    refine ha.sem N0 sgm env b H rhx M _ w e (Post.bind h fun k b1 x H1 rhx1 M1 st w1 r1 h1 => ?_)
    cases r1
    exact h1 _ H1 rhx1 M1 .refl w1 rfl⟩
theorem tw_and1 (ha : TU K mg W X a tA gA) : TWU K mg W X (.BoolOp .And [a] pos) tA gA := ⟨pw_and1 ha.pe, ha.sem⟩
theorem tw_or1 (ha : TU K mg W X a tA gA) : TWU K mg W X (.BoolOp .Or [a] pos) tA gA := ⟨pw_or1 ha.pe, ha.sem⟩
theorem tw_and {rest : List Expr} (ha : TU K mg W X a tA gA) (hb : TWU K mg W X (.BoolOp .And (c :: rest) pos) tB' gB) : TWU K mg W X (.BoolOp .And (a :: c :: rest) pos) (L2.tAnd tA tB') (tAndF gA gB) :=
  ⟨pw_and ha.pe hb.pe, fun N0 sgm env b H rhx M Q w e h => by
    refine ha.sem N0 sgm env b H rhx M _ w e (Post.bind h fun k b1 x H1 rhx1 M1 st w1 r1 h1 => ?_)
    cases r1
    cases k with
    | true => exact hb.sem N0 sgm env b1 H1 rhx1 M1 _ w1 (e.step w st) h1
    | false => exact h1 _ H1 rhx1 M1 .refl w1 rfl⟩
theorem tw_or {rest : List Expr} (ha : TU K mg W X a tA gA) (hb : TWU K mg W X (.BoolOp .Or (c :: rest) pos) tB' gB) : TWU K mg W X (.BoolOp .Or (a :: c :: rest) pos) (L2.tOr tA tB') (tOrF gA gB) :=
  ⟨pw_or ha.pe hb.pe, fun N0 sgm env b H rhx M Q w e h => by
    refine ha.sem N0 sgm env b H rhx M _ w e (Post.bind h fun k b1 x H1 rhx1 M1 st w1 r1 h1 => ?_)
    cases r1
    cases k with
    | true => exact h1 _ H1 rhx1 M1 .refl w1 rfl
    | false => exact hb.sem N0 sgm env b1 H1 rhx1 M1 _ w1 (e.step w st) h1⟩
theorem tu_w (h : TWU K mg W X a tA gA) : TU K mg W X a tA gA := ⟨h.pe.pt, h.sem⟩
/-- and, or, not as values -/
theorem pu_one {op : BoolOp} (h : PU K mg W X a ta fa) : PU K mg W X (.BoolOp op [a] pos) ta fa := ⟨pe_one h.pe, h.sem⟩
theorem pu_and {rest : List Expr} (ha : PU K mg W X a ta fa) (hb : PU K mg W X (.BoolOp .And (c :: rest) pos) tb fb) : PU K mg W X (.BoolOp .And (a :: c :: rest) pos) (L2.tAndV ta tb) (eAnd fa fb) :=
  ⟨pe_and ha.pe hb.pe, fun N0 sgm env b H rhx M Q w e h => by
    refine ha.sem N0 sgm env b H rhx M _ w e (Post.bind h fun p b1 x H1 rhx1 M1 st w1 r1 h1 => ?_)
    cases p with
    | bl k =>
      refine ⟨k, r1, ?_⟩
      cases k with
      | true => exact hb.sem N0 sgm env b1 H1 rhx1 M1 _ w1 (e.step w st) h1
      | false => exact h1 _ H1 rhx1 M1 .refl w1 rfl
    | _ => exact h1.elim⟩
theorem pu_or {rest : List Expr} (ha : PU K mg W X a ta fa) (hb : PU K mg W X (.BoolOp .Or (c :: rest) pos) tb fb) : PU K mg W X (.BoolOp .Or (a :: c :: rest) pos) (L2.tOrV ta tb) (eOr fa fb) :=
  ⟨pe_or ha.pe hb.pe, fun N0 sgm env b H rhx M Q w e h => by
    refine ha.sem N0 sgm env b H rhx M _ w e (Post.bind h fun p b1 x H1 rhx1 M1 st w1 r1 h1 => ?_)
    cases p with
    | bl k =>
      refine ⟨k, r1, ?_⟩
      cases k with
      | true => exact h1 _ H1 rhx1 M1 .refl w1 rfl
      | false => exact hb.sem N0 sgm env b1 H1 rhx1 M1 _ w1 (e.step w st) h1
    | _ => exact h1.elim⟩
theorem pu_not (ha : PU K mg W X a ta fa) : PU K mg W X (.UnaryOp .Not a pos) (L2.tNotV ta) (eOp1 notP fa) :=
  ⟨pe_not ha.pe, fun N0 sgm env b H rhx M Q w e h => by
    refine ha.sem N0 sgm env b H rhx M _ w e (Post.bind h fun p b1 x H1 rhx1 M1 st w1 r1 h1 => ?_)
    cases p with
    | bl k => exact ⟨k, r1, h1 _ H1 rhx1 M1 .refl w1 rfl⟩
    | _ => exact h1.elim⟩
theorem pu_if (ht : TU K mg W X c tA gA) (ha : PU K mg W X a ta fa) (hb : PU K mg W X e tb fb) : PU K mg W X (.IfExp c a e pos) (L2.tIf tA ta tb) (eIf gA fa fb) :=
  ⟨pe_ifExp ht.pe ha.pe hb.pe, fun N0 sgm env b H rhx M Q w e h => by
    refine ht.sem N0 sgm env b H rhx M _ w e (Post.bind h fun k b1 x H1 rhx1 M1 st w1 r1 h1 => ?_)
    cases r1
    cases k with
    | true => exact ha.sem N0 sgm env b1 H1 rhx1 M1 _ w1 (e.step w st) h1
    | false => exact hb.sem N0 sgm env b1 H1 rhx1 M1 _ w1 (e.step w st) h1⟩
/-- arguments -/
theorem au_nil : AU K mg W X [] tNil aNil := ⟨pa_nil, fun N0 sgm env b H rhx M Q w e h => h [] H rhx M .refl w rfl⟩
theorem au_cons {es : List Expr} {t : TA} {fr : FA} (ha : PU K mg W X a ta fa) (hr : AU K mg W X es t fr) (hs : starEach (a :: es) X.env = (false, eval a X.env) :: starEach es X.env := by rfl) : AU K mg W X (a :: es) (tCons ta t) (aCons fa fr) :=
  ⟨pa_cons ha.pe hr.pe hs, fun N0 sgm env b H rhx M Q w e h => by
    refine ha.sem N0 sgm env b H rhx M _ w e (Post.bind h fun p b1 x H1 rhx1 M1 st w1 r1 h1 => ?_)
    refine hr.sem N0 sgm env b1 H1 rhx1 M1 _ w1 (e.step w st) (Post.bind h1 fun ps b2 xs H2 rhx2 M2 st2 w2 r2 h2 => ?_)
    exact h2 (x :: xs) H2 rhx2 M2 .refl w2 ⟨x, xs, rfl, Rep.step w1.mu (st2.toS w1.box) _ _ r1, r2⟩⟩
theorem semCall {t : TA} {f : FA} {r : List V → Hp → VK → Prop} {g : Bx → List P → Option P} (hg : CallG K r g) (ha : SemA K mg W t f) : SemE K mg W (tCB r t) (eCall g f) := fun N0 sgm env b H rhx M Q w e h => by
  refine ha N0 sgm env b H rhx M _ w e (Post.bind h fun ps b1 xs H1 rhx1 M1 st w1 r1 h1 => ?_)
  cases hz : g b1 ps with
  | none => rw [hz] at h1; exact h1.elim
  | some z =>
    rw [hz] at h1
    exact hg mg H1 rhx1 M1 b1 xs ps z Q w1 r1 hz fun v H' st3 w3 r3 => h1 v H' rhx1 M1 st3 w3 r3
/-- a built-in function's call -/
theorem pu_callB {es : List Expr} {t : TA} {f : FA} {r : List V → Hp → VK → Prop} {g : Bx → List P → Option P} {x : Str} {id : String} {p : Pos} (hc : CallR X (.builtin id) r) (hg : CallG K r g) (hm : X.mg x = none) (ha : AU K mg W X (a :: es) t f) (hv : bootBuiltins x = some (.builtin id) := by decide +kernel) (hgl : Gl X x := by rfl) (hn : x ≠ "__name__" := by decide) (hdb : (x == ("__debug__" : Str)) = false := by decide)
    (he : starEach (a :: es) X.env = (false, eval a X.env) :: starEach es X.env := by rfl) (hpl : (backTo pos (starEach es X.env)).any (·.1) = false := by rfl) : PU K mg W X (.Call (.Name x p) (a :: es) [] pos) (tCB r t) (eCall g f) :=
  ⟨pe_callB hc hgl hm hv ha.pe hn hdb he hpl, semCall hg ha.sem⟩
theorem pu_callT {es : List Expr} {t : TA} {f : FA} {r : List V → Hp → VK → Prop} {g : Bx → List P → Option P} {x : Str} {id : String} {p : Pos} (hc : CallR X (.type id) r) (hg : CallG K r g) (hm : X.mg x = none) (ha : AU K mg W X (a :: es) t f) (hv : bootBuiltins x = some (.type id) := by decide +kernel) (hgl : Gl X x := by rfl) (hn : x ≠ "__name__" := by decide) (hdb : (x == ("__debug__" : Str)) = false := by decide)
    (he : starEach (a :: es) X.env = (false, eval a X.env) :: starEach es X.env := by rfl) (hpl : (backTo pos (starEach es X.env)).any (·.1) = false := by rfl) : PU K mg W X (.Call (.Name x p) (a :: es) [] pos) (tCB r t) (eCall g f) :=
  ⟨pe_callTy hc hgl hm hv ha.pe hn hdb he hpl, semCall hg ha.sem⟩
/-- a def's call -/
theorem pu_call {es : List Expr} {t : TA} {f : FA} {x : Str} {p : Pos} {k : Nat} {fA : Addr} {fd : FuncData} {ps : List Str} {d : List P → Bx → Out P} (tk : Takes X W) (F : FnOk X.prog X.w X.K X.mg X.base (L2.CX X.prog X.w) k fA fd ps (spP K mg d)) (hr : Room k X.A)
    (hm : X.mg x = some (.ref fA)) (hk : PySem.W.keepIn X.K (.ref fA) = true) (hb : Binds X.K fd ps []) (ha : AU K mg W X (a :: es) t f)
    (hgl : Gl X x := by rfl) (hdb : (x == ("__debug__" : Str)) = false := by decide) (he : starEach (a :: es) X.env = (false, eval a X.env) :: starEach es X.env := by rfl) (hpl : (backTo pos (starEach es X.env)).any (·.1) = false := by rfl) :
    PU K mg W X (.Call (.Name x p) (a :: es) [] pos) (tCallS (spP K mg d) (WE W) t) (eFn d f) :=
  ⟨pe_callS F hr hgl hm hk hb (fun sgm => passAt tk sgm) ha.pe hdb he hpl, fun N0 sgm env b H rhx M Q w e h =>
    ha.sem N0 sgm env b H rhx M _ w e (Post.bind h fun ps b1 xs H1 rhx1 M1 st w1 r1 h1 => ⟨ps, b1, rhx1, M1, w1, r1, h1⟩)⟩
/-- displays -/
def eTup (fa : FA) : FE := fun env b => (fa env b).bind fun ps b1 => if ps.length ≤ 1000 then .ok (.tup ps) b1 else .no
theorem small_line {n : Nat} (h : n ≤ 1000) : n ≤ sizeLine := Nat.le_trans h (by decide)
theorem newTup {b : Bx} {H : Hp} {rhx : List Addr} {M : Ad} (w : Wd K mg H rhx M b) {ps : List P} {vs : List V} (r : Reps K rhx M H ps vs) {p : Addr} (hp : H p = none) : Rep K rhx M (upd H p (.tup vs)) (.tup ps) (.ref p) :=
  ⟨p, vs, rfl, SqT.of upd_same, Reps.step w.mu ((StepE.newO w hp).toS w.box) _ _ r⟩
theorem pu_tup {es : List Expr} {t : TA} {f : FA} {x1 : Nat} (ha : AU K mg W X es t f) : PU K mg W X (.Tuple es x1 pos) (tTup t) (eTup f) := ⟨pe_tup ha.pe, fun N0 sgm env b H rhx M Q w e h => by
  refine ha.sem N0 sgm env b H rhx M _ w e (Post.bind h fun ps b1 xs H1 rhx1 M1 st w1 r1 h1 => ?_)
  by_cases hl : ps.length ≤ 1000
  · rw [if_pos hl] at h1
    exact ⟨by rw [r1.length]; exact small_line hl, fun p hp => h1 _ _ rhx1 M1 (StepE.newO w1 hp) (w1.newO hp) (newTup w1 r1 hp)⟩
  · rw [if_neg hl] at h1; exact h1.elim⟩
/-- a new list in a box -/
theorem StepE.newB {b : Bx} {H : Hp} {rhx : List Addr} {M : Ad} (w : Wd K mg H rhx M b) {p : Addr} {o : HO} (h : H p = none) : StepE H rhx M (upd H p o) (rhx ++ [p]) (fun x => M x ∨ x = p) :=
  ⟨fun x u e _ => by rw [upd_ne (ne_of_none e h)]; exact e, ⟨[p], rfl⟩, fun x hx n => by
    rcases List.mem_append.mp hx with q | q
    · exact (n q).elim
    · rw [List.mem_singleton.mp q]; exact h, fun x e => by
    by_cases hx : x = p
    · rw [hx]; exact h
    · rw [upd_ne hx] at e; exact e, fun x hx => hx.imp id fun e => by rw [e]; exact h, fun _ h => .inl h⟩
theorem Wd.newB {b : Bx} {H : Hp} {rhx : List Addr} {M : Ad} (w : Wd K mg H rhx M b) {p : Addr} {o : HO} {c : Cell} (h : H p = none) (ho : Mut (some o)) (hc : CellOk K mg (rhx ++ [p]) (fun x => M x ∨ x = p) (upd H p o) p c) : Wd K mg (upd H p o) (rhx ++ [p]) (fun x => M x ∨ x = p) (b ++ [c]) := by
  have st := StepE.newB (o := o) w h
  have sS := st.toS w.box
  refine ⟨by simp [w.len], ?_, fun x hx => ?_, fun x hx => ?_, fun i a c' h1 h2 => ?_⟩
  · refine List.nodup_append.mpr ⟨w.nd, by simp, fun x hx y hy => ?_⟩
    rw [List.mem_singleton.mp hy]
    intro e
    rw [e] at hx
    exact w.nrho h hx
  · by_cases q : x = p
    · rw [q, upd_same]; exact ho
    · rw [upd_ne q]
      exact w.mu x (hx.resolve_right q)
  · rcases List.mem_append.mp hx with q | q
    · exact .inl (w.box x q)
    · exact .inr (List.mem_singleton.mp q)
  · by_cases hi : i < rhx.length
    · rw [List.getElem?_append_left hi] at h1
      rw [List.getElem?_append_left (by rw [← w.len]; exact hi)] at h2
      have ha : a ≠ p := fun e => w.nrho h (by rw [← e]; exact List.mem_of_getElem? h1)
      exact CellOk.step w.mu sS (upd_ne ha) (w.cel i a c' h1 h2)
    · have e1 : i = rhx.length := by
        have := (List.getElem?_eq_some_iff.mp h1).1
        simp at this; omega
      subst e1
      rw [List.getElem?_append_right (Nat.le_refl _)] at h1
      rw [List.getElem?_append_right (by rw [w.len]; exact Nat.le_refl _)] at h2
      simp at h1
      rw [w.len] at h2
      simp at h2
      subst h1
      subst h2
      exact hc
end
/-! ### new lists: owned by whoever made them -/
abbrev FO := Env → Bx → Out (List P)
/-- the value v is a list that was not there in H; it counts among the changing things -/
def rO (K : Frag) (H : Hp) : List Addr → Ad → Hp → List P → V → Prop := fun rhx' M' H' ps v => ∃ p vs, v = .ref p ∧ H p = none ∧ H' p = some (.lst vs) ∧ M' p ∧ p ∉ rhx' ∧ Reps K rhx' M' H' ps vs
def SemO (K : Frag) (mg : Mg) (W : WX) (t : TE) (f : FO) : Prop := ∀ (N0 : Ad) (sgm : L2.St) (env : Env) (b : Bx) (H : Hp) (rhx : List Addr) (M : Ad) (Q : VK), Wd K mg H rhx M b → EnvOk K rhx M H N0 sgm env → Post K mg W sgm H rhx M (rO K H) (f env b) Q → t sgm H Q
structure OU (K : Frag) (mg : Mg) (W : WX) (X : Cx) (e : Expr) (t : TE) (f : FO) : Prop where
  pe : PE X e t
  sem : SemO K mg W t f
def eFrz (f : FO) : FE := fun env b => (f env b).bind fun ps b1 => .ok (.lst ps) b1
def eBox (f : FO) : FE := fun env b => (f env b).bind fun ps b1 => .ok (.box b1.length) (b1 ++ [.lst ps])
section
variable {K : Frag} {mg : Mg} {W : WX} {X : Cx} {a c e o : Expr} {ta tb tc te : TE} {fa fb fc fe : FE} {fo : FO} {pos : Pos}
theorem Wd.less {H : Hp} {rhx : List Addr} {M M1 : Ad} {b : Bx} (w : Wd K mg H rhx M b) (l : ∀ x, M1 x → M x) (hb : ∀ x, x ∈ rhx → M1 x) : Wd K mg H rhx M1 b :=
  ⟨w.len, w.nd, fun x h => w.mu x (l x h), hb, fun i a c h1 h2 => (w.cel i a c h1 h2).less l⟩
/-- frozen: a value like any other -/
theorem frz_out {H H1 : Hp} {rhx rhx1 : List Addr} {M M1 : Ad} {b b1 : Bx} {ps : List P} {v : V} (w : Wd K mg H rhx M b) (st : StepE H rhx M H1 rhx1 M1) (w1 : Wd K mg H1 rhx1 M1 b1) (r : rO K H rhx1 M1 H1 ps v) :
    ∃ M2, StepE H rhx M H1 rhx1 M2 ∧ Wd K mg H1 rhx1 M2 b1 ∧ Rep K rhx1 M2 H1 (.lst ps) v := by
  obtain ⟨p, vs, rfl, hp, h1, mp, np, r⟩ := r
  refine ⟨fun x => M1 x ∧ x ≠ p, ⟨st.keepR, st.pre, st.fresh, st.dom, fun x h => st.new x h.1, fun x h => ⟨st.mono x h, fun e => w.fresh hp (e ▸ h)⟩⟩, w1.less (fun x h => h.1) fun x h => ⟨w1.box x h, fun e => np (e ▸ h)⟩, p, vs, rfl, h1, fun h => h.2 rfl, Reps.less (fun x h => h.1) _ _ r⟩
theorem pu_frz (h : OU K mg W X e te fo) : PU K mg W X e te (eFrz fo) := ⟨h.pe, fun N0 sgm env b H rhx M Q w en q => by
  refine h.sem N0 sgm env b H rhx M _ w en ?_
  unfold eFrz at q
  cases hf : fo env b with
  | ok ps b1 =>
    rw [hf] at q
    intro v H1 rhx1 M1 st w1 r1
    obtain ⟨M2, st2, w2, r2⟩ := frz_out w st w1 r1
    exact q v H1 rhx1 M2 st2 w2 r2
  | ex x b1 => rw [hf] at q; exact q
  | no => rw [hf] at q; exact q⟩
theorem box_out {H H1 : Hp} {rhx rhx1 : List Addr} {M M1 : Ad} {b b1 : Bx} {ps : List P} {v : V} (w : Wd K mg H rhx M b) (st : StepE H rhx M H1 rhx1 M1) (w1 : Wd K mg H1 rhx1 M1 b1) (r : rO K H rhx1 M1 H1 ps v) :
    ∃ rhx2, StepE H rhx M H1 rhx2 M1 ∧ Wd K mg H1 rhx2 M1 (b1 ++ [.lst ps]) ∧ Rep K rhx2 M1 H1 (.box b1.length) v := by
  obtain ⟨p, vs, rfl, hp, h1, mp, np, r⟩ := r
  have sS : StepS H1 rhx1 M1 H1 (rhx1 ++ [p]) M1 := ⟨fun _ _ h _ => h, ⟨[p], rfl⟩, fun _ h => h, fun _ h => .inl h⟩
  refine ⟨rhx1 ++ [p], ⟨st.keepR, ?_, fun x hx n => ?_, st.dom, st.new, st.mono⟩, ⟨by simp [w1.len], ?_, w1.mu, fun x hx => ?_, fun i a c h2 h3 => ?_⟩, p, rfl, ?_⟩
  · obtain ⟨l, e⟩ := st.pre
    exact ⟨l ++ [p], by rw [e, List.append_assoc]⟩
  · rcases List.mem_append.mp hx with q | q
    · exact st.fresh x q n
    · rw [List.mem_singleton.mp q]; exact hp
  · refine List.nodup_append.mpr ⟨w1.nd, by simp, fun x hx y hy e => ?_⟩
    rw [List.mem_singleton.mp hy] at e
    rw [e] at hx
    exact np hx
  · rcases List.mem_append.mp hx with q | q
    · exact w1.box x q
    · rw [List.mem_singleton.mp q]; exact mp
  · by_cases hi : i < rhx1.length
    · rw [List.getElem?_append_left hi] at h2
      rw [List.getElem?_append_left (by rw [← w1.len]; exact hi)] at h3
      exact CellOk.step w1.mu sS rfl (w1.cel i a c h2 h3)
    · have e1 : i = rhx1.length := by
        have := (List.getElem?_eq_some_iff.mp h2).1
        simp at this; omega
      subst e1
      rw [List.getElem?_append_right (Nat.le_refl _)] at h2
      rw [List.getElem?_append_right (by rw [w1.len]; exact Nat.le_refl _)] at h3
      simp at h2
      rw [w1.len] at h3
      simp at h3
      subst h2
      subst h3
      exact ⟨vs, h1, Reps.step w1.mu sS _ _ r⟩
  · rw [← w1.len]; simp
theorem pu_box (h : OU K mg W X e te fo) : PU K mg W X e te (eBox fo) := ⟨h.pe, fun N0 sgm env b H rhx M Q w en q => by
  refine h.sem N0 sgm env b H rhx M _ w en ?_
  unfold eBox at q
  cases hf : fo env b with
  | ok ps b1 =>
    rw [hf] at q
    intro v H1 rhx1 M1 st w1 r1
    obtain ⟨rhx2, st2, w2, r2⟩ := box_out w st w1 r1
    exact q v H1 rhx2 M1 st2 w2 r2
  | ex x b1 => rw [hf] at q; exact q
  | no => rw [hf] at q; exact q⟩
/-- a new list is laid -/
theorem rO.new {H0 H : Hp} {rhx : List Addr} {M : Ad} {b : Bx} {ps : List P} {vs : List V} (w : Wd K mg H rhx M b) (dom : ∀ x, H x = none → H0 x = none) (r : Reps K rhx M H ps vs) {p : Addr} (hp : H p = none) :
    StepE H rhx M (upd H p (.lst vs)) rhx (fun x => M x ∨ x = p) ∧ Wd K mg (upd H p (.lst vs)) rhx (fun x => M x ∨ x = p) b ∧ rO K H0 rhx (fun x => M x ∨ x = p) (upd H p (.lst vs)) ps (.ref p) := by
  have st : StepE H rhx M (upd H p (.lst vs)) rhx (fun x => M x ∨ x = p) := ⟨(StepE.newO w hp).keepR, ⟨[], by simp⟩, fun x h n => (n h).elim, (StepE.newO (o := .lst vs) w hp).dom, fun x h => h.imp id fun (e : x = p) => by rw [e]; exact hp, fun x h => .inl h⟩
  refine ⟨st, w.stepE st (fun x hx => ?_) fun x m => upd_ne fun e => by rw [e] at m; exact w.nrho hp m, p, vs, rfl, dom p hp, upd_same, .inr rfl, w.nrho hp, Reps.step w.mu (st.toS w.box) _ _ r⟩
  by_cases q : x = p
  · rw [q, upd_same]; trivial
  · rw [upd_ne q]; exact w.mu x (hx.resolve_right q)
def oLst (fa : FA) : FO := fun env b => (fa env b).bind fun ps b1 => if ps.length ≤ 1000 then .ok ps b1 else .no
theorem ou_lst {es : List Expr} {t : TA} {f : FA} (ha : AU K mg W X es t f) : OU K mg W X (.List es pos) (tLst t) (oLst f) := ⟨pe_lst ha.pe, fun N0 sgm env b H rhx M Q w e h => by
  refine ha.sem N0 sgm env b H rhx M _ w e ?_
  unfold oLst at h
  cases hf : f env b with
  | ok ps b1 =>
    rw [hf] at h
    intro xs H1 rhx1 M1 st w1 r1
    by_cases hl : ps.length ≤ 1000
    · simp only [Out.bind_ok, if_pos hl] at h
      refine ⟨by rw [r1.length]; exact small_line hl, fun p hp => ?_⟩
      obtain ⟨s2, w2, r2⟩ := rO.new (H0 := H) w1 st.dom r1 hp
      exact h _ _ _ _ (st.trans s2) w2 r2
    · simp only [Out.bind_ok, if_neg hl] at h; exact h.elim
  | ex x b1 => rw [hf] at h; exact h
  | no => rw [hf] at h; exact h⟩
/-- an operator, a call, a method, a slice that make a new list: r hands back any new address -/
def LstG (K : Frag) (r : List V → Hp → VK → Prop) (g : Bx → List P → Option (List P)) : Prop := ∀ (mg : Mg) (H : Hp) (rhx : List Addr) (M : Ad) (b : Bx) (xs : List V) (ps zs : List P) (Q : VK), Wd K mg H rhx M b → Reps K rhx M H ps xs → g b ps = some zs →
  (∀ vs p, Reps K rhx M H zs vs → H p = none → Q (.ref p) (upd H p (.lst vs))) → r xs H Q
def oCall (g : Bx → List P → Option (List P)) (fa : FA) : FO := fun env b => (fa env b).bind fun ps b1 => ofO (g b1 ps) b1
def oOp2 (g : Bx → List P → Option (List P)) (fa fb : FE) : FO := fun env b => (fa env b).bind fun p b1 => (fb env b1).bind fun q b2 => ofO (g b2 [p, q]) b2
def oMeth (g : Bx → List P → Option (List P)) (fo : FE) (fa : FA) : FO := fun env b => (fo env b).bind fun p b0 => (fa env b0).bind fun ps b1 => ofO (g b1 (p :: ps)) b1
theorem lstG_end {r : List V → Hp → VK → Prop} {g : Bx → List P → Option (List P)} (hg : LstG K r g) {H0 H : Hp} {rhx0 rhx : List Addr} {M0 M : Ad} {b : Bx} {xs : List V} {ps : List P} {sgm : L2.St} {Q : VK} (st : StepE H0 rhx0 M0 H rhx M) (w : Wd K mg H rhx M b) (rs : Reps K rhx M H ps xs)
    (h : Post K mg W sgm H0 rhx0 M0 (rO K H0) (ofO (g b ps) b) Q) : r xs H Q := by
  cases hz : g b ps with
  | none => rw [hz] at h; exact h.elim
  | some z =>
    rw [hz] at h
    refine hg mg H rhx M b xs ps z Q w rs hz fun vs p rv hp => ?_
    obtain ⟨s2, w2, r2⟩ := rO.new (H0 := H0) w st.dom rv hp
    exact h _ _ _ _ (st.trans s2) w2 r2
theorem semCallO {t : TA} {f : FA} {r : List V → Hp → VK → Prop} {g : Bx → List P → Option (List P)} (hg : LstG K r g) (ha : SemA K mg W t f) : SemO K mg W (tCB r t) (oCall g f) := fun N0 sgm env b H rhx M Q w e h => by
  refine ha N0 sgm env b H rhx M _ w e ?_
  unfold oCall at h
  cases hf : f env b with
  | ok ps b1 => rw [hf] at h; exact fun xs H1 rhx1 M1 st w1 r1 => lstG_end hg st w1 r1 h
  | ex x b1 => rw [hf] at h; exact h
  | no => rw [hf] at h; exact h
theorem ou_callB {es : List Expr} {t : TA} {f : FA} {r : List V → Hp → VK → Prop} {g : Bx → List P → Option (List P)} {x : Str} {id : String} {p : Pos} (hc : CallR X (.builtin id) r) (hg : LstG K r g) (hm : X.mg x = none) (ha : AU K mg W X (a :: es) t f) (hv : bootBuiltins x = some (.builtin id) := by decide +kernel) (hgl : Gl X x := by rfl) (hn : x ≠ "__name__" := by decide) (hdb : (x == ("__debug__" : Str)) = false := by decide)
    (he : starEach (a :: es) X.env = (false, eval a X.env) :: starEach es X.env := by rfl) (hpl : (backTo pos (starEach es X.env)).any (·.1) = false := by rfl) : OU K mg W X (.Call (.Name x p) (a :: es) [] pos) (tCB r t) (oCall g f) :=
  ⟨pe_callB hc hgl hm hv ha.pe hn hdb he hpl, semCallO hg ha.sem⟩
theorem ou_callT {es : List Expr} {t : TA} {f : FA} {r : List V → Hp → VK → Prop} {g : Bx → List P → Option (List P)} {x : Str} {id : String} {p : Pos} (hc : CallR X (.type id) r) (hg : LstG K r g) (hm : X.mg x = none) (ha : AU K mg W X (a :: es) t f) (hv : bootBuiltins x = some (.type id) := by decide +kernel) (hgl : Gl X x := by rfl) (hn : x ≠ "__name__" := by decide) (hdb : (x == ("__debug__" : Str)) = false := by decide)
    (he : starEach (a :: es) X.env = (false, eval a X.env) :: starEach es X.env := by rfl) (hpl : (backTo pos (starEach es X.env)).any (·.1) = false := by rfl) : OU K mg W X (.Call (.Name x p) (a :: es) [] pos) (tCB r t) (oCall g f) :=
  ⟨pe_callTy hc hgl hm hv ha.pe hn hdb he hpl, semCallO hg ha.sem⟩
theorem ou_bin {op : Operator} {r : R2} {g : Bx → List P → Option (List P)} (ho : OpR X (binaryOp op) r) (hg : LstG K (fun xs H Q => ∃ x y, xs = [x, y] ∧ r x y H Q) g) (ha : PU K mg W X a ta fa) (hb : PU K mg W X c tb fb) : OU K mg W X (.BinOp a op c pos) (tOp r ta tb) (oOp2 g fa fb) :=
  ⟨pe_op ho ha.pe hb.pe, fun N0 sgm env b H rhx M Q w e h => by
    refine ha.sem N0 sgm env b H rhx M _ w e ?_
    unfold oOp2 at h
    cases hf : fa env b with
    | ok p b1 =>
      rw [hf] at h
      intro x H1 rhx1 M1 st w1 r1
      refine hb.sem N0 sgm env b1 H1 rhx1 M1 _ w1 (e.step w st) ?_
      cases hf2 : fb env b1 with
      | ok q b2 =>
        simp only [Out.bind_ok, hf2] at h
        intro y H2 rhx2 M2 st2 w2 r2
        obtain ⟨x', y', e1, q'⟩ := lstG_end hg (st.trans st2) w2 (show Reps K rhx2 M2 H2 [p, q] [x, y] from ⟨x, [y], rfl, Rep.step w1.mu (st2.toS w1.box) _ _ r1, y, [], rfl, r2, rfl⟩) h
        cases e1
        exact q'
      | ex x b2 =>
        simp only [Out.bind_ok, hf2] at h
        exact fun c d H' rhx' M' s w r => h c d H' rhx' M' (st.trans s) w r
      | no => simp only [Out.bind_ok, hf2] at h; exact h
    | ex x b1 => rw [hf] at h; exact h
    | no => rw [hf] at h; exact h⟩
end
end PV

namespace PV
open PySem L2

/-- the entry of the def that runs -/
structure Ent where
  H : Hp
  rhx : List Addr
  M : Ad
structure Sta (K : Frag) (mg : Mg) (Z : Ent) (sgm : L2.St) (env : Env) (b : Bx) (H : Hp) (rhx : List Addr) (M : Ad) : Prop where
  st : StepE Z.H Z.rhx Z.M H rhx M
  wd : Wd K mg H rhx M b
  en : EnvOk K rhx M H (fun a => Z.H a = none) sgm env
  zm : ∀ x, Z.M x → ∃ o, Z.H x = some o
def SPost (K : Frag) (mg : Mg) (W : WX) (Z : Ent) (H : Hp) (rhx : List Addr) (M : Ad) (o : SOut) (D : Ends) : Prop := match o with
  | .nx env' b' => ∀ sgm' H' rhx' M', StepS H rhx M H' rhx' M' → Sta K mg Z sgm' env' b' H' rhx' M' → D.nx sgm' H'
  | .bk env' b' => ∀ sgm' H' rhx' M', StepS H rhx M H' rhx' M' → Sta K mg Z sgm' env' b' H' rhx' M' → D.bk sgm' H'
  | .ct env' b' => ∀ sgm' H' rhx' M', StepS H rhx M H' rhx' M' → Sta K mg Z sgm' env' b' H' rhx' M' → D.ct sgm' H'
  | .rt p b' => ∀ v H' rhx' M', StepE Z.H Z.rhx Z.M H' rhx' M' → Wd K mg H' rhx' M' b' → Rep K rhx' M' H' p v → D.rt v H'
  | .ex x env' b' => ∀ c d sgm' H' rhx' M', StepS H rhx M H' rhx' M' → Sta K mg Z sgm' env' b' H' rhx' M' → RepX K mg rhx' M' H' x c d → W c d sgm' H'
  | .no => False
def SemS (K : Frag) (mg : Mg) (W : WX) (t : TS) (f : FS) : Prop := ∀ (Z : Ent) (sgm : L2.St) (env : Env) (b : Bx) (H : Hp) (rhx : List Addr) (M : Ad) (D : Ends), Sta K mg Z sgm env b H rhx M → SPost K mg W Z H rhx M (f env b) D → t D sgm H
structure SU (K : Frag) (mg : Mg) (W : WX) (X : Cx) (s : Stmt) (t : TS) (f : FS) : Prop where
  pe : PS X s t
  sem : SemS K mg W t f
structure SSU (K : Frag) (mg : Mg) (W : WX) (X : Cx) (ss : List Stmt) (t : TS) (f : FS) : Prop where
  pe : PSs X ss t
  sem : SemS K mg W t f

def Out.st {α : Type} (o : Out α) (env : Env) (k : α → Bx → SOut) : SOut := match o with
  | .ok a b => k a b
  | .ex x b => .ex x env b
  | .no => .no
@[simp] theorem Out.st_ok {α : Type} (a : α) (b : Bx) (env : Env) (k : α → Bx → SOut) : (Out.ok a b).st env k = k a b := rfl
@[simp] theorem Out.st_ex {α : Type} (x : Xn) (b : Bx) (env : Env) (k : α → Bx → SOut) : (Out.ex x b : Out α).st env k = .ex x env b := rfl
@[simp] theorem Out.st_no {α : Type} (env : Env) (k : α → Bx → SOut) : (Out.no : Out α).st env k = .no := rfl
def sSkip : FS := fun env b => .nx env b
def sSeq (f g : FS) : FS := fun env b => match f env b with
  | .nx e b1 => g e b1
  | o => o
def sSet (i : Nat) (fe : FE) : FS := fun env b => (fe env b).st env fun p b1 => .nx (env.set i (.va p)) b1
def sSetO (i : Nat) (fo : FO) : FS := fun env b => (fo env b).st env fun ps b1 => .nx (env.set i (.ow ps)) b1
def sRet (fe : FE) : FS := fun env b => (fe env b).st env fun p b1 => .rt p b1
def sRetN : FS := fun env b => .rt .non b
def sExpr (fe : FE) : FS := fun env b => (fe env b).st env fun p b1 => .nx env b1
def sIf (ft : FT) (f g : FS) : FS := fun env b => (ft env b).st env fun c b1 => if c = true then f env b1 else g env b1
def sBreak : FS := fun env b => .bk env b
def sCont : FS := fun env b => .ct env b
def sNever : FS := fun _ _ => .no
/-- a list of its own becomes a value -/
def frzE (env : Env) (i : Nat) : Env := match env[i]? with
  | some (.ow ps) => env.set i (.va (.lst ps))
  | _ => env
def sFrz (i : Nat) (f : FS) : FS := fun env b => f (frzE env i) b
/-- targets -/
abbrev FG := P → Env → Option Env
def gNm (i : Nat) : FG := fun p env => some (env.set i (.va p))
def gAll : List FG → List P → Env → Option Env
  | [], [], env => some env
  | g :: gs, p :: ps, env => (g p env).bind fun e => gAll gs ps e
  | _, _, _ => none
def gTp (gs : List FG) : FG := fun p env => match p with
  | .tup ps => gAll gs ps env
  | _ => none
def sAsg (g : FG) (fe : FE) : FS := fun env b => (fe env b).st env fun p b1 => match g p env with
  | some e => .nx e b1
  | none => .no
def sAppend (i : Nat) (fe : FE) : FS := fun env b => match env[i]? with
  | some (.ow xs) => (fe env b).st env fun p b1 => if xs.length < 1000000 then .nx (env.set i (.ow (xs ++ [p]))) b1 else .no
  | _ => .no
def sExtend (i : Nat) (fe : FE) : FS := fun env b => match env[i]? with
  | some (.ow xs) => (fe env b).st env fun p b1 => match p with
    | .lst ps => if xs.length + ps.length < 1000000 then .nx (env.set i (.ow (xs ++ ps))) b1 else .no
    | _ => .no
  | _ => .no
abbrev FI := Env → Bx → Out (List P)
def forL (g : FG) (f : FS) : List P → Env → Bx → SOut
  | [], env, b => .nx env b
  | p :: ps, env, b => match g p env with
    | none => .no
    | some e1 => match f e1 b with
      | .nx e2 b2 => forL g f ps e2 b2
      | .ct e2 b2 => forL g f ps e2 b2
      | .bk e2 b2 => .nx e2 b2
      | .rt q b2 => .rt q b2
      | .ex x e2 b2 => .ex x e2 b2
      | .no => .no
def sFor (fi : FI) (g : FG) (f : FS) : FS := fun env b => (fi env b).st env fun items b1 => forL g f items env b1

section
variable {K : Frag} {mg : Mg} {W : WX} {Z : Ent} {sgm : L2.St} {env : Env} {b b1 : Bx} {H H1 H2 : Hp} {rhx rhx1 rhx2 : List Addr} {M M1 M2 : Ad} {D : Ends}
theorem Sta.step (S : Sta K mg Z sgm env b H rhx M) (st : StepE H rhx M H1 rhx1 M1) (w : Wd K mg H1 rhx1 M1 b1) : Sta K mg Z sgm env b1 H1 rhx1 M1 := ⟨S.st.trans st, w, S.en.step S.wd st, S.zm⟩
theorem SPost.later {o : SOut} (st : StepS H rhx M H1 rhx1 M1) (h : SPost K mg W Z H rhx M o D) : SPost K mg W Z H1 rhx1 M1 o D := by
  cases o with
  | nx e b => exact fun sgm' H' rhx' M' s q => h sgm' H' rhx' M' (st.trans s) q
  | bk e b => exact fun sgm' H' rhx' M' s q => h sgm' H' rhx' M' (st.trans s) q
  | ct e b => exact fun sgm' H' rhx' M' s q => h sgm' H' rhx' M' (st.trans s) q
  | rt p b => exact h
  | ex x e b => exact fun c d sgm' H' rhx' M' s q r => h c d sgm' H' rhx' M' (st.trans s) q r
  | no => exact h
theorem SPost.post {α β : Type} {R : List Addr → Ad → Hp → α → β → Prop} {o : Out α} {k : α → Bx → SOut} {Q1 : β → Hp → Prop} (S : Sta K mg Z sgm env b H rhx M) (h : SPost K mg W Z H rhx M (o.st env k) D)
    (q : ∀ a b1 v H1 rhx1 M1, o = .ok a b1 → StepE H rhx M H1 rhx1 M1 → Wd K mg H1 rhx1 M1 b1 → R rhx1 M1 H1 a v → SPost K mg W Z H1 rhx1 M1 (k a b1) D → Q1 v H1) : Post K mg W sgm H rhx M R o Q1 := by
  cases o with
  | ok a b1 => exact fun v H1 rhx1 M1 st w r => q a b1 v H1 rhx1 M1 rfl st w r (SPost.later (st.toS S.wd.box) h)
  | ex x b1 => exact fun c d H1 rhx1 M1 st w r => h c d sgm H1 rhx1 M1 (st.toS S.wd.box) (S.step st w) r
  | no => exact h
theorem EnvOk.setVal {N0 : Ad} (e : EnvOk K rhx M H N0 sgm env) {p : P} {v : V} (r : Rep K rhx M H p v) (i : Nat) : EnvOk K rhx M H N0 (sgm.set i (some v)) (env.set i (.va p)) := by
  have back : ∀ (j : Nat) ps, (env.set i (.va p))[j]? = some (.ow ps) → env[j]? = some (.ow ps) ∧ j ≠ i := fun j ps h => by
    by_cases hj : i = j
    · subst hj
      rw [List.getElem?_set_self'] at h
      cases hq : env[i]? with
      | none => rw [hq] at h; simp at h
      | some s => rw [hq] at h; simp at h
    · rw [List.getElem?_set_ne hj] at h
      exact ⟨h, fun z => hj z.symm⟩
  refine ⟨by simp [e.len], fun j q h => ?_, fun j ps h => ?_, fun j k ps qs a h1 h2 h3 h4 => ?_⟩
  · by_cases hj : i = j
    · subst hj
      have hi : i < env.length := by
        have := (List.getElem?_eq_some_iff.mp h).1
        simpa using this
      rw [List.getElem?_set_self hi] at h
      cases h
      exact ⟨v, by rw [List.getElem?_set_self (by rw [e.len]; exact hi)], r⟩
    · rw [List.getElem?_set_ne hj] at h ⊢
      exact e.val j q h
  · obtain ⟨h1, hj⟩ := back j ps h
    rw [List.getElem?_set_ne (Ne.symm hj)]
    exact e.own j ps h1
  · obtain ⟨g1, n1⟩ := back j ps h1
    obtain ⟨g2, n2⟩ := back k qs h2
    rw [List.getElem?_set_ne (Ne.symm n1)] at h3
    rw [List.getElem?_set_ne (Ne.symm n2)] at h4
    exact e.inj j k ps qs a g1 g2 h3 h4
theorem EnvOk.setOwn {N0 : Ad} (e : EnvOk K rhx M H N0 sgm env) {ps : List P} {vs : List V} {a : Addr} (i : Nat) (ha : H a = some (.lst vs)) (r : Reps K rhx M H ps vs) (m : M a) (n : a ∉ rhx) (z : N0 a)
    (ne : ∀ (j : Nat) qs, j ≠ i → env[j]? = some (.ow qs) → sgm[j]? ≠ some (some (.ref a))) : EnvOk K rhx M H N0 (sgm.set i (some (.ref a))) (env.set i (.ow ps)) := by
  refine ⟨by simp [e.len], fun j q h => ?_, fun j qs h => ?_, fun j k qs rs a' h1 h2 h3 h4 => ?_⟩
  · by_cases hj : i = j
    · subst hj
      rw [List.getElem?_set_self'] at h
      cases hq : env[i]? with
      | none => rw [hq] at h; simp at h
      | some s => rw [hq] at h; simp at h
    · rw [List.getElem?_set_ne hj] at h ⊢
      exact e.val j q h
  · by_cases hj : i = j
    · subst hj
      have hi : i < env.length := by
        have := (List.getElem?_eq_some_iff.mp h).1
        simpa using this
      rw [List.getElem?_set_self hi] at h
      cases h
      exact ⟨a, vs, by rw [List.getElem?_set_self (by rw [e.len]; exact hi)], ha, r, m, n, z⟩
    · rw [List.getElem?_set_ne hj] at h ⊢
      exact e.own j qs h
  · by_cases hj : i = j
    · by_cases hk : i = k
      · exact hj.symm.trans hk
      · subst hj
        have hi : i < env.length := by
          have := (List.getElem?_eq_some_iff.mp h1).1
          simpa using this
        rw [List.getElem?_set_ne hk] at h2 h4
        rw [List.getElem?_set_self (by rw [e.len]; exact hi)] at h3
        cases h3
        exact (ne k rs (Ne.symm hk) h2 h4).elim
    · rw [List.getElem?_set_ne hj] at h1 h3
      by_cases hk : i = k
      · subst hk
        have hi : i < env.length := by
          have := (List.getElem?_eq_some_iff.mp h2).1
          simpa using this
        rw [List.getElem?_set_self (by rw [e.len]; exact hi)] at h4
        cases h4
        exact (ne j qs (Ne.symm hj) h1 h3).elim
      · rw [List.getElem?_set_ne hk] at h2 h4
        exact e.inj j k qs rs a' h1 h2 h3 h4
/-- a list of its own is written -/
theorem Sta.write (S : Sta K mg Z sgm env b H rhx M) {i : Nat} {xs ys : List P} {a : Addr} {vs : List V} (h : env[i]? = some (.ow xs)) (hs : sgm[i]? = some (some (.ref a))) (r : Reps K rhx M H ys vs) :
    StepS H rhx M (upd H a (.lst vs)) rhx M ∧ Sta K mg Z sgm (env.set i (.ow ys)) b (upd H a (.lst vs)) rhx M := by
  obtain ⟨a', ws, h1, h2, r2, m, n, z⟩ := S.en.own i xs h
  rw [hs] at h1
  cases h1
  have sS : StepS H rhx M (upd H a (.lst vs)) rhx M := ⟨fun x o hx nx => by rw [upd_ne (fun e => nx (by rw [e]; exact m))]; exact hx, ⟨[], by simp⟩, fun x e => by
    by_cases hx : x = a
    · rw [hx, upd_same] at e; cases e
    · rw [upd_ne hx] at e; exact e, fun x hx => .inl hx⟩
  have mu : ∀ x, M x → Mut (upd H a (.lst vs) x) := fun x hx => by
    by_cases q : x = a
    · rw [q, upd_same]; trivial
    · rw [upd_ne q]; exact S.wd.mu x hx
  have wd : Wd K mg (upd H a (.lst vs)) rhx M b := ⟨S.wd.len, S.wd.nd, mu, S.wd.box, fun j c cl g1 g2 => CellOk.step S.wd.mu sS (upd_ne fun e => n (by rw [← e]; exact List.mem_of_getElem? g1)) (S.wd.cel j c cl g1 g2)⟩
  have hisgm : i < sgm.length := (List.getElem?_eq_some_iff.mp hs).1
  have esgm : sgm.set i (some (.ref a)) = sgm := by
    apply List.ext_getElem?
    intro j
    by_cases hj : i = j
    · subst hj; rw [List.getElem?_set_self hisgm, hs]
    · rw [List.getElem?_set_ne hj]
  refine ⟨sS, ⟨⟨fun x o hx nx => ?_, S.st.pre, S.st.fresh, fun x e => S.st.dom x (sS.dom x e), S.st.new, S.st.mono⟩, wd, ?_, S.zm⟩⟩
  · rw [upd_ne fun e => by rw [e, z] at hx; cases hx]
    exact S.st.keepR x o hx nx
  · -- the other slots
    have e1 : EnvOk K rhx M (upd H a (.lst vs)) (fun a => Z.H a = none) sgm (env.set i .un) := by
      refine ⟨by simp [S.en.len], fun j q hq => ?_, fun j qs hq => ?_, fun j k qs rs c g1 g2 g3 g4 => ?_⟩
      · by_cases hj : i = j
        · subst hj
          rw [List.getElem?_set_self'] at hq
          rw [h] at hq; simp at hq
        · rw [List.getElem?_set_ne hj] at hq
          obtain ⟨v, q1, q2⟩ := S.en.val j q hq
          exact ⟨v, q1, Rep.step S.wd.mu sS _ _ q2⟩
      · by_cases hj : i = j
        · subst hj
          rw [List.getElem?_set_self'] at hq
          rw [h] at hq; simp at hq
        · rw [List.getElem?_set_ne hj] at hq
          obtain ⟨c, us, q1, q2, q3, q4, q5, q6⟩ := S.en.own j qs hq
          have ca : c ≠ a := fun e => hj (S.en.inj i j xs qs a h hq hs (by rw [← e]; exact q1))
          exact ⟨c, us, q1, by rw [upd_ne ca]; exact q2, Reps.step S.wd.mu sS _ _ q3, q4, q5, q6⟩
      · have back : ∀ (j : Nat) ps, (env.set i .un)[j]? = some (.ow ps) → env[j]? = some (.ow ps) := fun j ps hq => by
          by_cases hj : i = j
          · subst hj
            rw [List.getElem?_set_self', h] at hq; simp at hq
          · rw [List.getElem?_set_ne hj] at hq; exact hq
        exact S.en.inj j k qs rs c (back j qs g1) (back k rs g2) g3 g4
    have e2 := e1.setOwn (a := a) (ps := ys) (vs := vs) i upd_same (Reps.step S.wd.mu sS _ _ r) m n z (fun j qs hj hq => ?_)
    · rw [esgm, List.set_set] at e2
      exact e2
    · rw [List.getElem?_set_ne (Ne.symm hj)] at hq
      exact fun g => hj (S.en.inj j i qs xs a hq h g hs)
theorem Sta.frz (S : Sta K mg Z sgm env b H rhx M) (i : Nat) : ∃ M2, StepS H rhx M H rhx M2 ∧ Sta K mg Z sgm (frzE env i) b H rhx M2 := by
  unfold frzE
  cases h : env[i]? with
  | none => exact ⟨M, .refl, S⟩
  | some s =>
    cases s with
    | un => exact ⟨M, .refl, S⟩
    | va p => exact ⟨M, .refl, S⟩
    | ow ps =>
      obtain ⟨a, vs, h1, h2, r, m, n, z⟩ := S.en.own i ps h
      have hz : ¬ Z.M a := fun q => by
        obtain ⟨o, e⟩ := S.zm a q
        rw [z] at e; cases e
      have l : ∀ x, (M x ∧ x ≠ a) → M x := fun x q => q.1
      have hisgm : i < sgm.length := (List.getElem?_eq_some_iff.mp h1).1
      have esgm : sgm.set i (some (.ref a)) = sgm := by
        apply List.ext_getElem?
        intro j
        by_cases hj : i = j
        · subst hj; rw [List.getElem?_set_self hisgm, h1]
        · rw [List.getElem?_set_ne hj]
      refine ⟨fun x => M x ∧ x ≠ a, ⟨fun x o q _ => q, ⟨[], by simp⟩, fun x q => q, fun x q => .inl q.1⟩, ⟨S.st.keepR, S.st.pre, S.st.fresh, S.st.dom, fun x q => S.st.new x q.1, fun x q => ⟨S.st.mono x q, fun e => hz (by rw [← e]; exact q)⟩⟩,
        S.wd.less l fun x q => ⟨S.wd.box x q, fun e => n (by rw [← e]; exact q)⟩, ?_, S.zm⟩
      have e1 : EnvOk K rhx (fun x => M x ∧ x ≠ a) H (fun a => Z.H a = none) sgm (env.set i .un) := by
        have back : ∀ (j : Nat) ps, (env.set i .un)[j]? = some (.ow ps) → env[j]? = some (.ow ps) ∧ j ≠ i := fun j ps hq => by
          by_cases hj : i = j
          · subst hj
            rw [List.getElem?_set_self', h] at hq; simp at hq
          · rw [List.getElem?_set_ne hj] at hq; exact ⟨hq, Ne.symm hj⟩
        refine ⟨by simp [S.en.len], fun j q hq => ?_, fun j qs hq => ?_, fun j k qs rs c g1 g2 g3 g4 => S.en.inj j k qs rs c (back j qs g1).1 (back k rs g2).1 g3 g4⟩
        · by_cases hj : i = j
          · subst hj
            rw [List.getElem?_set_self', h] at hq; simp at hq
          · rw [List.getElem?_set_ne hj] at hq
            obtain ⟨v, q1, q2⟩ := S.en.val j q hq
            exact ⟨v, q1, Rep.less l _ _ q2⟩
        · obtain ⟨hq', hj⟩ := back j qs hq
          obtain ⟨c, us, q1, q2, q3, q4, q5, q6⟩ := S.en.own j qs hq'
          have ca : c ≠ a := fun e => hj (S.en.inj j i qs ps a hq' h (by rw [← e]; exact q1) h1)
          exact ⟨c, us, q1, q2, Reps.less l _ _ q3, ⟨q4, ca⟩, q5, q6⟩
      have e2 := e1.setVal (p := .lst ps) (v := .ref a) ⟨a, vs, rfl, h2, fun q => q.2 rfl, Reps.less l _ _ r⟩ i
      rw [esgm, List.set_set] at e2
      exact e2
end
end PV

namespace PV
open PySem L2
section
variable {K : Frag} {mg : Mg} {W : WX} {X : Cx} {a c e o : Expr} {ta tb tc te : TE} {fa fb fc fe : FE} {fo : FO} {pos : Pos} {tA : TT} {gA : FT} {s : Stmt} {ss : List Stmt} {t u : TS} {f g : FS} {i : Nat} {x : Str}
theorem ssu_nil : SSU K mg W X [] tNext sSkip := ⟨pss_nil, fun Z sgm env b H rhx M D S h => h sgm H rhx M .refl S⟩
theorem ssu_cons (h1 : SU K mg W X s t f) (h2 : SSU K mg W X ss u g) : SSU K mg W X (s :: ss) (tSeq t u) (sSeq f g) := ⟨pss_cons h1.pe h2.pe, fun Z sgm env b H rhx M D S h => by
  refine h1.sem Z sgm env b H rhx M _ S ?_
  unfold sSeq at h
  cases hf : f env b with
  | nx e1 b1 => rw [hf] at h; exact fun sgm' H' rhx' M' st S' => h2.sem Z sgm' e1 b1 H' rhx' M' D S' (h.later st)
  | bk e1 b1 => rw [hf] at h; exact h
  | ct e1 b1 => rw [hf] at h; exact h
  | rt p b1 => rw [hf] at h; exact h
  | ex x e1 b1 => rw [hf] at h; exact h
  | no => rw [hf] at h; exact h⟩
theorem ssu_one (h : SU K mg W X s t f) : SSU K mg W X [s] t f := ⟨pss_one h.pe, h.sem⟩
theorem su_frz (j : Nat) (h : SU K mg W X s t f) : SU K mg W X s t (sFrz j f) := ⟨h.pe, fun Z sgm env b H rhx M D S q => by
  obtain ⟨M2, st, S2⟩ := S.frz j
  exact h.sem Z sgm _ b H rhx M2 D S2 (SPost.later (o := f (frzE env j) b) st q)⟩
theorem su_never : SU K mg W X s tNever sNever := ⟨ps_never, fun Z sgm env b H rhx M D S h => h⟩
theorem su_doc {x : Str} {j : Nat} {pos' : Pos} : SU K mg W X (.Expr (.Constant (.str x) j pos) pos') tNext sSkip := ⟨ps_doc, fun Z sgm env b H rhx M D S h => h sgm H rhx M .refl S⟩
theorem su_pass : SU K mg W X (.Pass pos) tNext sSkip := ⟨ps_pass, fun Z sgm env b H rhx M D S h => h sgm H rhx M .refl S⟩
theorem su_break : SU K mg W X (.Break pos) tBreak sBreak := ⟨ps_break, fun Z sgm env b H rhx M D S h => h sgm H rhx M .refl S⟩
theorem su_continue : SU K mg W X (.Continue pos) tCont sCont := ⟨ps_continue, fun Z sgm env b H rhx M D S h => h sgm H rhx M .refl S⟩
theorem su_set (i : Nat) {pos' : Pos} (hN : X.N.Nodup) (he : PU K mg W X e te fe) (hi : X.N[i]? = some x := by rfl) (hx : Loc X.env.scope x := by first | exact Or.inl rfl | exact Or.inr rfl) (hs : swapsWith e (some (.Name x pos')) pos.line X.env = pure false := by rfl) (hf : X.fn x = true ∨ X.env.scope.names.lookup x = some .local := by first | exact Or.inr rfl | exact Or.inl rfl) :
    SU K mg W X (.Assign [.Name x pos'] e pos) (tAsg te (gName i)) (sSet i fe) := ⟨ps_set hN hi hx he.pe hs hf, fun Z sgm env b H rhx M D S h => by
  refine he.sem _ sgm env b H rhx M _ S.wd S.en (SPost.post S h fun p b1 v H1 rhx1 M1 _ st w1 r1 h1 => ?_)
  have S1 := S.step st w1
  exact h1 _ H1 rhx1 M1 .refl ⟨S1.st, S1.wd, S1.en.setVal r1 i, S1.zm⟩⟩
theorem su_setO (i : Nat) {pos' : Pos} (hN : X.N.Nodup) (he : OU K mg W X e te fo) (hi : X.N[i]? = some x := by rfl) (hx : Loc X.env.scope x := by first | exact Or.inl rfl | exact Or.inr rfl) (hs : swapsWith e (some (.Name x pos')) pos.line X.env = pure false := by rfl) (hf : X.fn x = true ∨ X.env.scope.names.lookup x = some .local := by first | exact Or.inr rfl | exact Or.inl rfl) :
    SU K mg W X (.Assign [.Name x pos'] e pos) (tAsg te (gName i)) (sSetO i fo) := ⟨ps_set hN hi hx he.pe hs hf, fun Z sgm env b H rhx M D S h => by
  refine he.sem _ sgm env b H rhx M _ S.wd S.en (SPost.post S h fun ps b1 v H1 rhx1 M1 _ st w1 r1 h1 => ?_)
  have S1 := S.step st w1
  obtain ⟨p, vs, rfl, hp, h2, mp, np, r⟩ := r1
  exact h1 _ H1 rhx1 M1 .refl ⟨S1.st, S1.wd, S1.en.setOwn i h2 r mp np (S.st.dom p hp) (fun j qs hj hq g => by
    obtain ⟨a', ws, g1, g2, _⟩ := S.en.own j qs hq
    rw [g] at g1; cases g1
    rw [hp] at g2; cases g2), S1.zm⟩⟩
theorem su_ret (he : PU K mg W X e te fe) : SU K mg W X (.Return (some e) pos) (tRet te) (sRet fe) := ⟨ps_ret he.pe, fun Z sgm env b H rhx M D S h => by
  refine he.sem _ sgm env b H rhx M _ S.wd S.en (SPost.post S h fun p b1 v H1 rhx1 M1 _ st w1 r1 h1 => ?_)
  exact h1 v H1 rhx1 M1 (S.st.trans st) w1 r1⟩
theorem su_retN : SU K mg W X (.Return none pos) tRetN sRetN := ⟨ps_retN, fun Z sgm env b H rhx M D S h => h .non H rhx M S.st S.wd rfl⟩
theorem su_expr (he : PU K mg W X e te fe) (hs : swapsWith e none pos.line X.env = pure false := by rfl) : SU K mg W X (.Expr e pos) (tDrop te) (sExpr fe) := ⟨ps_expr he.pe hs, fun Z sgm env b H rhx M D S h => by
  refine he.sem _ sgm env b H rhx M _ S.wd S.en (SPost.post S h fun p b1 v H1 rhx1 M1 _ st w1 r1 h1 => ?_)
  exact h1 sgm H1 rhx1 M1 .refl (S.step st w1)⟩
theorem su_if {ss2 : List Stmt} (hc : TU K mg W X c tA gA) (ha : SSU K mg W X ss t f) (hb : SSU K mg W X ss2 u g) : SU K mg W X (.If c ss ss2 pos) (tIfS tA t u) (sIf gA f g) := ⟨ps_if hc.pe ha.pe hb.pe, fun Z sgm env b H rhx M D S h => by
  refine hc.sem _ sgm env b H rhx M _ S.wd S.en (SPost.post S h fun k b1 v H1 rhx1 M1 _ st w1 r1 h1 => ?_)
  cases r1
  cases k with
  | true => exact ha.sem Z sgm env b1 H1 rhx1 M1 D (S.step st w1) h1
  | false => exact hb.sem Z sgm env b1 H1 rhx1 M1 D (S.step st w1) h1⟩
/-- x.append(e), x a list of the def's own -/
theorem su_append (i : Nat) {apos cpos pos1 : Pos} (he : PU K mg W X e te fe) (hK : X.K = K := by rfl) (hN : X.N[i]? = some x := by rfl) (hv : Vis X.env.scope x := by first | exact Or.inl rfl | exact Or.inr (Or.inl rfl) | exact Or.inr (Or.inr rfl)) (hd : (x == ("__debug__" : Str)) = false := by decide)
    (hcd : (x == ("__classdict__" : Str)) = false := by decide) (hs0 : starEach [e] X.env = (false, eval e X.env) :: starEach [] X.env := by rfl)
    (hbase : attributeBase (.Name x pos1) "append" X.env (eval (.Name x pos1) X.env) = eval (.Name x pos1) X.env := by rfl)
    (hfew : ((backTo cpos (starEach [e] X.env)).all (fun x => !x.1) && (backToKw cpos (keywordEach [] X.env)).all (fun x => x.1.isSome)
      && decide ([e].length + ([] : List Keyword).length + (if ([] : List Keyword).isEmpty then 0 else 1) < 30)) = true := by rfl)
    (hline : (apos.endLine == cpos.line) = true := by rfl) (hpl : (backTo cpos (starEach [] X.env)).any (·.1) = false := by rfl) (hs : swapsWith (.Call (.Attribute (.Name x pos1) "append" apos) [e] [] cpos) none pos.line X.env = pure false := by rfl) :
    SU K mg W X (.Expr (.Call (.Attribute (.Name x pos1) "append" apos) [e] [] cpos) pos) (tDrop (tBM K "list" rAppend (tVar i) (tCons te tNil))) (sAppend i fe) := by
  subst hK
  refine ⟨ps_expr (pe_bm PySem.F.plainAttrs_list PySem.F.slot_list_append PySem.F.type_list_append mt_append (pe_var hN hv hd hcd) (pa_cons he.pe pa_nil hs0) hbase hfew hline hs0 hpl) hs, fun Z sgm env b H rhx M D S h => ?_⟩
  unfold sAppend at h
  cases hx : env[i]? with
  | none => rw [hx] at h; exact h.elim
  | some sl =>
    cases sl with
    | un => rw [hx] at h; exact h.elim
    | va p => rw [hx] at h; exact h.elim
    | ow xs =>
      rw [hx] at h
      obtain ⟨p, vs, h1, h2, r, m, n, z⟩ := S.en.own i xs hx
      refine ⟨.ref p, h1, .inl ⟨rfl, vs, SqL.of h2⟩, ?_⟩
      refine he.sem _ sgm env b H rhx M _ S.wd S.en (SPost.post S h fun q b1 v H1 rhx1 M1 _ st w1 r1 h3 => ?_)
      have S1 := S.step st w1
      by_cases hl : xs.length < 1000000
      · rw [if_pos hl] at h3
        obtain ⟨p', vs', g1, g2, r', m', n', z'⟩ := S1.en.own i xs hx
        rw [h1] at g1; cases g1
        obtain ⟨sS, S2⟩ := S1.write hx h1 (r'.append (Reps.one r1))
        refine ⟨p, vs', v, rfl, rfl, g2, ?_, h3 sgm _ rhx1 M1 sS S2⟩
        rw [r'.length]
        exact Nat.lt_of_lt_of_le hl (by decide)
      · rw [if_neg hl] at h3; exact h3.elim
theorem su_extend (i : Nat) {apos cpos pos1 : Pos} (he : PU K mg W X e te fe) (hK : X.K = K := by rfl) (hN : X.N[i]? = some x := by rfl) (hv : Vis X.env.scope x := by first | exact Or.inl rfl | exact Or.inr (Or.inl rfl) | exact Or.inr (Or.inr rfl)) (hd : (x == ("__debug__" : Str)) = false := by decide)
    (hcd : (x == ("__classdict__" : Str)) = false := by decide) (hs0 : starEach [e] X.env = (false, eval e X.env) :: starEach [] X.env := by rfl)
    (hbase : attributeBase (.Name x pos1) "extend" X.env (eval (.Name x pos1) X.env) = eval (.Name x pos1) X.env := by rfl)
    (hfew : ((backTo cpos (starEach [e] X.env)).all (fun x => !x.1) && (backToKw cpos (keywordEach [] X.env)).all (fun x => x.1.isSome)
      && decide ([e].length + ([] : List Keyword).length + (if ([] : List Keyword).isEmpty then 0 else 1) < 30)) = true := by rfl)
    (hline : (apos.endLine == cpos.line) = true := by rfl) (hpl : (backTo cpos (starEach [] X.env)).any (·.1) = false := by rfl) (hs : swapsWith (.Call (.Attribute (.Name x pos1) "extend" apos) [e] [] cpos) none pos.line X.env = pure false := by rfl) :
    SU K mg W X (.Expr (.Call (.Attribute (.Name x pos1) "extend" apos) [e] [] cpos) pos) (tDrop (tBM K "list" rExtend (tVar i) (tCons te tNil))) (sExtend i fe) := by
  subst hK
  refine ⟨ps_expr (pe_bm PySem.F.plainAttrs_list PySem.F.slot_list_extend PySem.F.type_list_extend mt_extend (pe_var hN hv hd hcd) (pa_cons he.pe pa_nil hs0) hbase hfew hline hs0 hpl) hs, fun Z sgm env b H rhx M D S h => ?_⟩
  unfold sExtend at h
  cases hx : env[i]? with
  | none => rw [hx] at h; exact h.elim
  | some sl =>
    cases sl with
    | un => rw [hx] at h; exact h.elim
    | va p => rw [hx] at h; exact h.elim
    | ow xs =>
      rw [hx] at h
      obtain ⟨p, vs, h1, h2, r, m, n, z⟩ := S.en.own i xs hx
      refine ⟨.ref p, h1, .inl ⟨rfl, vs, SqL.of h2⟩, ?_⟩
      refine he.sem _ sgm env b H rhx M _ S.wd S.en (SPost.post S h fun q b1 v H1 rhx1 M1 _ st w1 r1 h3 => ?_)
      have S1 := S.step st w1
      cases q with
      | lst ps =>
        by_cases hl : xs.length + ps.length < 1000000
        · simp only [if_pos hl] at h3
          obtain ⟨p', vs', g1, g2, r', m', n', z'⟩ := S1.en.own i xs hx
          rw [h1] at g1; cases g1
          obtain ⟨q, ws, rfl, hq, nq, rq⟩ := r1
          obtain ⟨sS, S2⟩ := S1.write hx h1 (r'.append rq)
          refine ⟨p, q, vs', ws, rfl, rfl, g2, hq, ?_, h3 sgm _ rhx1 M1 sS S2⟩
          rw [r'.length, rq.length]
          exact Nat.le_of_lt (Nat.lt_of_lt_of_le hl (by decide))
        · simp only [if_neg hl] at h3; exact h3.elim
      | _ => exact h3.elim

/-! ### targets -/
def Off (sl : List Nat) (sgm sgm' : L2.St) : Prop := sgm'.length = sgm.length ∧ ∀ j, j ∉ sl → sgm'[j]? = sgm[j]?
def SemG (K : Frag) (t : TG) (sl : List Nat) (g : FG) : Prop := ∀ (mg : Mg) (N0 : Ad) (sgm : L2.St) (env env' : Env) (b : Bx) (H : Hp) (rhx : List Addr) (M : Ad) (p : P) (v : V) (Q : L2.St → Hp → Prop), Wd K mg H rhx M b → EnvOk K rhx M H N0 sgm env → Rep K rhx M H p v → g p env = some env' →
  (∀ sgm', EnvOk K rhx M H N0 sgm' env' → Off sl sgm sgm' → Q sgm' H) → t v sgm H Q
def SemGs (K : Frag) (t : TGs) (sl : List Nat) (gs : List FG) : Prop := ∀ (mg : Mg) (N0 : Ad) (sgm : L2.St) (env env' : Env) (b : Bx) (H : Hp) (rhx : List Addr) (M : Ad) (ps : List P) (vs : List V) (Q : L2.St → Hp → Prop), Wd K mg H rhx M b → EnvOk K rhx M H N0 sgm env → Reps K rhx M H ps vs → gAll gs ps env = some env' →
  (∀ sgm', EnvOk K rhx M H N0 sgm' env' → Off sl sgm sgm' → Q sgm' H) → t vs sgm H Q
structure GU (K : Frag) (X : Cx) (e : Expr) (t : TG) (sl : List Nat) (g : FG) : Prop where
  pe : PG X e t
  sem : SemG K t sl g
structure GsU (K : Frag) (X : Cx) (es : List Expr) (t : TGs) (sl : List Nat) (gs : List FG) : Prop where
  pe : PGs X es t
  sem : SemGs K t sl gs
theorem gu_name (i : Nat) (hN : X.N.Nodup) (hi : X.N[i]? = some x := by rfl) (hx : Loc X.env.scope x := by first | exact Or.inl rfl | exact Or.inr rfl) (hf : X.fn x = true ∨ X.env.scope.names.lookup x = some .local := by first | exact Or.inr rfl | exact Or.inl rfl) :
    GU K X (.Name x pos) (gName i) [i] (gNm i) := ⟨pg_name hN hi hx hf, fun mg N0 sgm env env' b H rhx M p v Q w en r h q => by
  cases h
  exact q _ (en.setVal r i) ⟨by simp, fun j hj => List.getElem?_set_ne (fun e => hj (by rw [e]; exact List.mem_singleton.mpr rfl))⟩⟩
theorem gsu_nil : GsU K X [] gNil [] [] := ⟨pgs_nil, fun mg N0 sgm env env' b H rhx M ps vs Q w en r h q => by
  cases ps with
  | nil => cases h; cases r; exact ⟨rfl, q sgm en ⟨rfl, fun _ _ => rfl⟩⟩
  | cons p ps => cases h⟩
theorem gsu_cons {es : List Expr} {t : TG} {u : TGs} {sl sl' : List Nat} {g : FG} {gs : List FG} (h1 : GU K X e t sl g) (h2 : GsU K X es u sl' gs) (hs : (assignEach (e :: es) X.env).map (·.2) = assign e X.env :: (assignEach es X.env).map (·.2) := by rfl) : GsU K X (e :: es) (gCons t u) (sl ++ sl') (g :: gs) :=
  ⟨pgs_cons h1.pe h2.pe hs, fun mg N0 sgm env env' b H rhx M ps vs Q w en r h q => by
  cases ps with
  | nil => cases h
  | cons p ps =>
    obtain ⟨v, vs', rfl, r1, r2⟩ := r
    have h' : (g p env).bind (fun e => gAll gs ps e) = some env' := h
    cases hg : g p env with
    | none => rw [hg] at h'; cases h'
    | some e1 =>
      rw [hg] at h'
      refine ⟨v, vs', rfl, h1.sem mg N0 sgm env e1 b H rhx M p v _ w en r1 hg fun sgm1 en1 k1 => ?_⟩
      refine h2.sem mg N0 sgm1 e1 env' b H rhx M ps vs' Q w en1 r2 h' fun sgm2 en2 k2 => q sgm2 en2 ⟨k2.1.trans k1.1, fun j hj => ?_⟩
      rw [k2.2 j fun z => hj (List.mem_append_right _ z), k1.2 j fun z => hj (List.mem_append_left _ z)]⟩
theorem gAll_len : ∀ {gs : List FG} {ps : List P} {env env' : Env}, gAll gs ps env = some env' → ps.length = gs.length
  | [], [], _, _, _ => rfl
  | [], _ :: _, _, _, h => by cases h
  | _ :: _, [], _, _, h => by cases h
  | g :: gs, p :: ps, env, env', h => by
    have h' : (g p env).bind (fun e => gAll gs ps e) = some env' := h
    cases hg : g p env with
    | none => rw [hg] at h'; cases h'
    | some e1 =>
      rw [hg] at h'
      simp [gAll_len (show gAll gs ps e1 = some env' from h')]
theorem gu_tup {es : List Expr} {k n : Nat} {t : TGs} {sl : List Nat} {gs : List FG} (hc : X.calm = true) (h : GsU K X es t sl gs) (hK : X.K = K := by rfl) (hn : (assignEach es X.env).length = n := by rfl) (hst : (assignEach es X.env).findIdx? (·.1) = none := by rfl) (hl : gs.length = n := by rfl) :
    GU K X (.Tuple es k pos) (gTup K n t) sl (gTp gs) := by
  subst hK
  refine ⟨pg_tup hc h.pe hn hst, fun mg N0 sgm env env' b H rhx M p v Q w en r hh q => ?_⟩
  cases p with
  | tup ps =>
    obtain ⟨a, vs, rfl, hs, r2⟩ := r
    exact ⟨a, vs, rfl, hs, by rw [r2.length, gAll_len hh, hl], h.sem mg N0 sgm env env' b H rhx M ps vs Q w en r2 hh q⟩
  | _ => cases hh
theorem su_asg {tg : Expr} {gt : TG} {sl : List Nat} {gf : FG} (hg : GU K X tg gt sl gf) (he : PU K mg W X e te fe) (hs : swapsWithSole [tg] e pos.line X.env = pure false := by rfl) (hw : swappedStores [tg] e X.env = pure none := by rfl) (h1 : (assignEach [tg] X.env).map (·.2) = [assign tg X.env] := by rfl) : SU K mg W X (.Assign [tg] e pos) (tAsg te gt) (sAsg gf fe) :=
  ⟨ps_asg he.pe hg.pe hs hw h1, fun Z sgm env b H rhx M D S h => by
  refine he.sem _ sgm env b H rhx M _ S.wd S.en (SPost.post S h fun p b1 v H1 rhx1 M1 _ st w1 r1 h1 => ?_)
  have S1 := S.step st w1
  cases hq : gf p env with
  | none => rw [hq] at h1; exact h1.elim
  | some e1 =>
    rw [hq] at h1
    exact hg.sem mg _ sgm env e1 b1 H1 rhx1 M1 p v _ w1 S1.en r1 hq fun sgm' en' _ => h1 sgm' H1 rhx1 M1 .refl ⟨S1.st, w1, en', S1.zm⟩⟩

/-! ### what is walked -/
/-- J walks over the items wherever nothing frozen has changed -/
def Src (K : Frag) (mg : Mg) (H : Hp) (rhx : List Addr) (M : Ad) (J : It) (items : List P) : Prop := ∀ (b : Bx) H2 rhx2 M2, StepS H rhx M H2 rhx2 M2 → Wd K mg H2 rhx2 M2 b →
  (∀ (i : Nat) p, items[i]? = some p → J.go i H2 ∧ ∀ x H', J.yld i H2 x H' → StepE H2 rhx2 M2 H' rhx2 M2 ∧ Wd K mg H' rhx2 M2 b ∧ Rep K rhx2 M2 H' p x) ∧ J.stop items.length H2
def SemI (K : Frag) (mg : Mg) (W : WX) (wi : TI) (f : FI) : Prop := ∀ (N0 : Ad) (sgm : L2.St) (env : Env) (b : Bx) (H : Hp) (rhx : List Addr) (M : Ad) (Q : It → Hp → Prop), Wd K mg H rhx M b → EnvOk K rhx M H N0 sgm env → Post K mg W sgm H rhx M (fun rhx' M' H' items J => Src K mg H' rhx' M' J items) (f env b) Q → wi sgm H Q
structure IU (K : Frag) (mg : Mg) (W : WX) (X : Cx) (tg iter : Expr) (wi : TI) (f : FI) : Prop where
  pe : PI X tg iter wi
  sem : SemI K mg W wi f
theorem su_for {tg iter : Expr} {body : List Stmt} {wi : TI} {fi : FI} {gt : TG} {sl : List Nat} {gf : FG} (hp : PassesOwn (model X.prog X.w) X.A X.env X.xe) (hc : X.calm = true) (hi : IU K mg W X tg iter wi fi) (hg : GU K X tg gt sl gf) (hb : SSU K mg W X body t f)
    (hs : ∀ x, foldedSetIterable iter X.env x = pure x := by intro _; rfl) : SU K mg W X (.For tg iter body [] pos) (tFor wi gt t) (sFor fi gf f) :=
  ⟨ps_for hp hc hi.pe hg.pe hb.pe hs, fun Z sgm env b H rhx M D S h => by
  refine hi.sem _ sgm env b H rhx M _ S.wd S.en (SPost.post S h fun items b1 J H1 rhx1 M1 _ st w1 src h1 => ?_)
  have S1 := S.step st w1
  let Wi : Nat → Nat → L2.St → Hp → Prop := fun i m sgm2 H2 => m = items.length - i ∧ i ≤ items.length ∧ ∃ env2 b2 rhx2 M2, Sta K mg Z sgm2 env2 b2 H2 rhx2 M2 ∧ StepS H1 rhx1 M1 H2 rhx2 M2 ∧ SPost K mg W Z H2 rhx2 M2 (forL gf f (items.drop i) env2 b2) D
  refine ⟨Wi, ⟨items.length, by simp, Nat.zero_le _, env, b1, rhx1, M1, S1, .refl, h1⟩, ?_⟩
  rintro i m sgm2 H2 ⟨rfl, hi, env2, b2, rhx2, M2, S2, sS, q2⟩
  obtain ⟨go, stop⟩ := src b2 H2 rhx2 M2 sS S2.wd
  by_cases hlt : i < items.length
  · obtain ⟨g1, g2⟩ := go i items[i] (List.getElem?_eq_getElem hlt)
    refine .inr ⟨g1, fun sgm' H' => ∃ m', m' < items.length - i ∧ Wi (i + 1) m' sgm' H', fun sgm' H' q => q, fun x H' y => ?_⟩
    obtain ⟨st3, w3, r3⟩ := g2 x H' y
    have S3 := S2.step st3 w3
    have sS3 := sS.trans (st3.toS S2.wd.box)
    have q3 : SPost K mg W Z H' rhx2 M2 (forL gf f (items.drop i) env2 b2) D := SPost.later (st3.toS S2.wd.box) q2
    rw [List.drop_eq_getElem_cons hlt] at q3
    unfold forL at q3
    cases hq : gf items[i] env2 with
    | none => rw [hq] at q3; exact q3.elim
    | some e1 =>
      rw [hq] at q3
      refine hg.sem mg _ sgm2 env2 e1 b2 H' rhx2 M2 items[i] x _ w3 S3.en r3 hq fun sgm4 en4 _ => ?_
      have S4 : Sta K mg Z sgm4 e1 b2 H' rhx2 M2 := ⟨S3.st, w3, en4, S3.zm⟩
      refine hb.sem Z sgm4 e1 b2 H' rhx2 M2 _ S4 ?_
      have nxt : ∀ e5 b5, SPost K mg W Z H' rhx2 M2 (forL gf f (items.drop (i + 1)) e5 b5) D → ∀ sgm5 H5 rhx5 M5, StepS H' rhx2 M2 H5 rhx5 M5 → Sta K mg Z sgm5 e5 b5 H5 rhx5 M5 → ∃ m', m' < items.length - i ∧ Wi (i + 1) m' sgm5 H5 := fun e5 b5 q5 sgm5 H5 rhx5 M5 st5 S5 =>
        ⟨items.length - (i + 1), by omega, rfl, hlt, e5, b5, rhx5, M5, S5, sS3.trans st5, SPost.later st5 q5⟩
      cases hf : f e1 b2 with
      | nx e5 b5 => simp only [hf] at q3; exact nxt e5 b5 q3
      | ct e5 b5 => simp only [hf] at q3; exact nxt e5 b5 q3
      | bk e5 b5 => simp only [hf] at q3; exact q3
      | rt p5 b5 => simp only [hf] at q3; exact q3
      | ex x5 e5 b5 => simp only [hf] at q3; exact q3
      | no => simp only [hf] at q3; exact q3
  · have e : i = items.length := by omega
    subst e
    rw [List.drop_length] at q2
    exact .inl ⟨stop, q2 sgm2 H2 rhx2 M2 .refl S2⟩⟩

/-! ### comprehensions -/
def wipeE (env : Env) : List Nat → Env
  | [] => env
  | v :: vs => (wipeE env vs).set v .un
def compL (gf : FG) (ft : FT) (fe : FE) (env : Env) : List P → Bx → Out (List P)
  | [], b => .ok [] b
  | p :: ps, b => match gf p env with
    | none => .no
    | some e1 => (ft e1 b).bind fun c b1 => if c = true then (fe e1 b1).bind fun q b2 => (compL gf ft fe env ps b2).bind fun qs b3 => .ok (q :: qs) b3 else compL gf ft fe env ps b1
def noEx {α : Type} (o : Out α) : Out α := match o with
  | .ok a b => .ok a b
  | _ => .no
def oComp (fi : FI) (gf : FG) (ft : FT) (fe : FE) (vs : List Nat) : FO := fun env b => (fi env b).bind fun items b1 => if items.length < 1000000 then noEx (compL gf ft fe (wipeE env vs) items b1) else .no
def tYesF : FT := fun _ b => .ok true b
abbrev W0 : WX := fun _ _ _ _ => False
theorem EnvOk.unset {N0 : Ad} {sgm : L2.St} {env : Env} {H : Hp} {rhx : List Addr} {M : Ad} (e : EnvOk K rhx M H N0 sgm env) (i : Nat) : EnvOk K rhx M H N0 (sgm.set i none) (env.set i .un) := by
  have back : ∀ (j : Nat) s, s ≠ Slot.un → (env.set i .un)[j]? = some s → env[j]? = some s ∧ j ≠ i := fun j s hs h => by
    by_cases hj : i = j
    · subst hj
      rw [List.getElem?_set_self'] at h
      cases hq : env[i]? with
      | none => rw [hq] at h; simp at h
      | some s => rw [hq] at h; simp at h; exact (hs h.symm).elim
    · rw [List.getElem?_set_ne hj] at h
      exact ⟨h, fun z => hj z.symm⟩
  refine ⟨by simp [e.len], fun j q h => ?_, fun j ps h => ?_, fun j k ps qs a h1 h2 h3 h4 => ?_⟩
  · obtain ⟨h1, n⟩ := back j _ (by intro z; cases z) h
    rw [List.getElem?_set_ne (Ne.symm n)]
    exact e.val j q h1
  · obtain ⟨h1, n⟩ := back j _ (by intro z; cases z) h
    rw [List.getElem?_set_ne (Ne.symm n)]
    exact e.own j ps h1
  · obtain ⟨g1, n1⟩ := back j _ (by intro z; cases z) h1
    obtain ⟨g2, n2⟩ := back k _ (by intro z; cases z) h2
    rw [List.getElem?_set_ne (Ne.symm n1)] at h3
    rw [List.getElem?_set_ne (Ne.symm n2)] at h4
    exact e.inj j k ps qs a g1 g2 h3 h4
theorem EnvOk.wipe {N0 : Ad} {sgm : L2.St} {env : Env} {H : Hp} {rhx : List Addr} {M : Ad} (e : EnvOk K rhx M H N0 sgm env) : ∀ vs : List Nat, EnvOk K rhx M H N0 (L2.wipe sgm vs) (wipeE env vs)
  | [] => e
  | v :: vs => (EnvOk.wipe e vs).unset v
theorem wipe_at {sgm : L2.St} {j : Nat} : ∀ {vs : List Nat}, (L2.wipe sgm vs)[j]? = if j ∈ vs then (sgm[j]?).map (fun _ => none) else sgm[j]?
  | [] => by simp [L2.wipe]
  | v :: vs => by
    unfold L2.wipe
    by_cases h : v = j
    · subst h
      rw [List.getElem?_set_self', wipe_at (vs := vs)]
      by_cases hv : v ∈ vs
      · simp [hv]; rfl
      · simp [hv]; rfl
    · rw [List.getElem?_set_ne h, wipe_at (vs := vs)]
      simp [Ne.symm h]
theorem wipe_eq {sgm sgm' : L2.St} {vs : List Nat} (hl : sgm'.length = sgm.length) (h : ∀ j, j ∉ vs → sgm'[j]? = sgm[j]?) : L2.wipe sgm' vs = L2.wipe sgm vs := by
  apply List.ext_getElem?
  intro j
  rw [wipe_at, wipe_at]
  by_cases hj : j ∈ vs
  · rw [if_pos hj, if_pos hj]
    by_cases q : j < sgm.length
    · rw [List.getElem?_eq_getElem q, List.getElem?_eq_getElem (by rw [hl]; exact q)]; rfl
    · rw [List.getElem?_eq_none (by omega), List.getElem?_eq_none (by omega)]
  · rw [if_neg hj, if_neg hj]; exact h j hj
theorem semComp {wi : TI} {g : TG} {tt : TT} {te : TE} {fi : FI} {gf : FG} {ft : FT} {fe : FE} {vs sl : List Nat} (si : SemI K mg W wi fi) (sg : SemG K g sl gf) (stt : SemT K mg W0 tt ft) (se : SemE K mg W0 te fe) (hsl : ∀ j, j ∈ sl → j ∈ vs) : SemO K mg W (tLc wi g tt te vs) (oComp fi gf ft fe vs) := fun N0 sgm env b H rhx M Q w en h => by
  refine si N0 sgm env b H rhx M _ w en ?_
  unfold oComp at h
  cases hf : fi env b with
  | ex x b1 => rw [hf] at h; exact h
  | no => rw [hf] at h; exact h
  | ok items b1 =>
    rw [hf] at h
    simp only [Out.bind_ok] at h
    intro J H1 rhx1 M1 st1 w1 src D hD
    by_cases hlen : items.length < 1000000
    · rw [if_pos hlen] at h
      have en1 := (en.step w st1).wipe vs
      have rn := rO.new (ps := []) (vs := []) (H0 := H) w1 st1.dom rfl hD
      let Wi : Nat → Nat → Hp → Prop := fun i m H2 => m = items.length - i ∧ i ≤ items.length ∧ ∃ b2 rhx2 M2 acc us, StepE H1 rhx1 M1 H2 rhx2 M2 ∧ Wd K mg H2 rhx2 M2 b2 ∧ H2 D = some (.lst us) ∧ M2 D ∧ D ∉ rhx2 ∧ Reps K rhx2 M2 H2 acc us ∧ acc.length ≤ i ∧
        Post K mg W sgm H rhx M (rO K H) ((noEx (compL gf ft fe (wipeE env vs) (items.drop i) b2)).bind fun qs b3 => .ok (acc ++ qs) b3) Q
      obtain ⟨s0, w0, r0⟩ := rn
      refine ⟨Wi, ⟨items.length, by simp, Nat.zero_le _, b1, rhx1, _, [], [], s0, w0, upd_same, .inr rfl, w1.nrho hD, rfl, Nat.le_refl _, ?_⟩, ?_⟩
      · have e0 : ((noEx (compL gf ft fe (wipeE env vs) (items.drop 0) b1)).bind fun qs b3 => (.ok ([] ++ qs) b3 : Out (List P))) = noEx (compL gf ft fe (wipeE env vs) items b1) := by
          rw [List.drop_zero]
          cases compL gf ft fe (wipeE env vs) items b1 <;> rfl
        rw [e0]; exact h
      · rintro i m H2 ⟨rfl, hi, b2, rhx2, M2, acc, us, st2, w2, hD2, mD, nD, ra, hacc, q2⟩
        obtain ⟨go, stop⟩ := src b2 H2 rhx2 M2 (st2.toS w1.box) w2
        by_cases hlt : i < items.length
        · obtain ⟨g1, g2⟩ := go i items[i] (List.getElem?_eq_getElem hlt)
          refine .inr ⟨g1, fun H' => ∃ m', m' < items.length - i ∧ Wi (i + 1) m' H', fun H' q => q, fun x H' y => ?_⟩
          obtain ⟨st3, w3, r3⟩ := g2 x H' y
          have st13 := st2.trans st3
          rw [List.drop_eq_getElem_cons hlt] at q2
          unfold compL at q2
          cases hg : gf items[i] (wipeE env vs) with
          | none => rw [hg] at q2; exact q2.elim
          | some e1 =>
            rw [hg] at q2
            have en3 := en1.step w1 st13
            refine sg mg N0 _ (wipeE env vs) e1 b2 H' rhx2 M2 items[i] x _ w3 en3 r3 hg fun sgm4 en4 k4 => ⟨(wipe_eq k4.1 fun j hj => k4.2 j fun z => hj (hsl j z)).trans (wipe_eq (L2.wipe_length _ _) fun j hj => by rw [wipe_at, if_neg hj]), ?_⟩
            refine stt N0 sgm4 e1 b2 H' rhx2 M2 _ w3 en4 ?_
            cases hft : ft e1 b2 with
            | ex x5 b5 => simp only [hft] at q2; exact q2.elim
            | no => simp only [hft] at q2; exact q2.elim
            | ok c b5 =>
              simp only [hft] at q2
              intro c' H5 rhx5 M5 st5 w5 rc
              cases rc
              have hD3 : H' D = some (.lst us) := st3.keepR D _ hD2 nD
              have nD5 : D ∉ rhx5 := fun z => by
                have := st5.fresh D z nD
                rw [hD3] at this; cases this
              have hD5 : H5 D = some (.lst us) := st5.keepR D _ hD3 nD
              have mD5 : M5 D := st5.mono D (st3.mono D mD)
              have ra3 := Reps.step w2.mu (st3.toS w2.box) _ _ ra
              have ra5 := Reps.step w3.mu (st5.toS w3.box) _ _ ra3
              have st15 := st13.trans st5
              cases c with
              | false =>
                simp only [Bool.false_eq_true, if_false, Out.bind_ok] at q2 ⊢
                exact ⟨items.length - (i + 1), by omega, rfl, hlt, b5, rhx5, M5, acc, us, st15, w5, hD5, mD5, nD5, ra5, Nat.le_succ_of_le hacc, q2⟩
              | true =>
                simp only [if_true, Out.bind_ok] at q2 ⊢
                refine se N0 sgm4 e1 b5 H5 rhx5 M5 _ w5 (en4.step w3 st5) ?_
                cases hfe : fe e1 b5 with
                | ex x6 b6 => simp only [hfe] at q2; exact q2.elim
                | no => simp only [hfe] at q2; exact q2.elim
                | ok q b6 =>
                  simp only [hfe] at q2
                  intro y H6 rhx6 M6 st6 w6 rq
                  have nD6 : D ∉ rhx6 := fun z => by
                    have := st6.fresh D z nD5
                    rw [hD5] at this; cases this
                  have hD6 : H6 D = some (.lst us) := st6.keepR D _ hD5 nD5
                  have mD6 : M6 D := st6.mono D mD5
                  have ra6 := Reps.step w5.mu (st6.toS w5.box) _ _ ra5
                  have st16 := st15.trans st6
                  have sS : StepS H6 rhx6 M6 (upd H6 D (.lst (us ++ [y]))) rhx6 M6 := ⟨fun z o hz nz => by rw [upd_ne (fun e => nz (by rw [e]; exact mD6))]; exact hz, ⟨[], by simp⟩, fun z e => by
                    by_cases hz : z = D
                    · rw [hz, upd_same] at e; cases e
                    · rw [upd_ne hz] at e; exact e, fun z hz => .inl hz⟩
                  refine ⟨us, hD6, ?_, items.length - (i + 1), by omega, rfl, hlt, b6, rhx6, M6, acc ++ [q], us ++ [y], ⟨fun z o hz nz => ?_, st16.pre, st16.fresh, fun z e => st16.dom z (sS.dom z e), st16.new, st16.mono⟩, ⟨w6.len, w6.nd, fun z hz => ?_, w6.box, fun k cA cl k1 k2 => CellOk.step w6.mu sS (upd_ne fun e => nD6 (by rw [← e]; exact List.mem_of_getElem? k1)) (w6.cel k cA cl k1 k2)⟩, upd_same, mD6, nD6, (Reps.step w6.mu sS _ _ ra6).append (Reps.one (Rep.step w6.mu sS _ _ rq)), by simp; omega, ?_⟩
                  · rw [ra6.length]
                    exact Nat.lt_of_lt_of_le (by omega : acc.length < 1000000) (by decide)
                  · rw [upd_ne (fun e => by rw [e, hD] at hz; cases hz)]
                    exact st16.keepR z o hz nz
                  · by_cases qz : z = D
                    · rw [qz, upd_same]; trivial
                    · rw [upd_ne qz]; exact w6.mu z hz
                  · have e9 : ((noEx ((Out.ok q b6).bind fun q b2 => (compL gf ft fe (wipeE env vs) (items.drop (i + 1)) b2).bind fun qs b3 => .ok (q :: qs) b3)).bind fun qs b3 => (.ok (acc ++ qs) b3 : Out (List P))) = ((noEx (compL gf ft fe (wipeE env vs) (items.drop (i + 1)) b6)).bind fun qs b3 => .ok (acc ++ [q] ++ qs) b3) := by
                      simp only [Out.bind_ok]
                      cases compL gf ft fe (wipeE env vs) (items.drop (i + 1)) b6 <;> simp [noEx]
                    rw [← e9]
                    exact q2
        · have e : i = items.length := by omega
          subst e
          refine .inl ⟨stop, ?_⟩
          rw [List.drop_length] at q2
          have q3 : Post K mg W sgm H rhx M (rO K H) (.ok (acc ++ []) b2) Q := q2
          rw [List.append_nil] at q3
          exact q3 _ H2 rhx2 M2 (st1.trans st2) w2 ⟨D, us, rfl, st1.dom D hD, hD2, mD, nD, ra⟩
    · rw [if_neg hlen] at h; exact h.elim
end
end PV

namespace PV
open PySem L2 PyProof.Rows
section
variable {K : Frag} {mg : Mg} {W : WX} {X : Cx} {a c e o elt tg iter : Expr} {ta tb tc te : TE} {fa fb fc fe : FE} {fo : FO} {pos : Pos} {tA tt : TT} {gA ft : FT} {s : Stmt} {ss : List Stmt} {t u : TS} {f g : FS} {i : Nat} {x : Str} {wi : TI} {fi : FI} {gt : TG} {sl : List Nat} {gf : FG} {scope : Scope}
structure TsU (K : Frag) (mg : Mg) (W : WX) (X : Cx) (ifs : List Expr) (t : TT) (f : FT) : Prop where
  pe : PTs X ifs t
  sem : SemT K mg W t f
theorem tsu_nil : TsU K mg W X [] tYes tYesF := ⟨pts_nil, fun N0 sgm env b H rhx M Q w e h => h true H rhx M .refl w rfl⟩
theorem tsu_one (h : TU K mg W X c tA gA) : TsU K mg W X [c] tA gA := ⟨pts_one h.pe, h.sem⟩
/-- [elt for tg in iter if ..] -/
theorem ou_lc (own : List (Str × Nat)) (hc : X.calm = true) (hN : X.N.Nodup) (hi : IU K mg W X tg iter wi fi)
    (hg : ∀ (s : Shared) (H : Hp) (C : Addr) (cl : List (Str × Addr)) (fp : List Addr), GU K (X.blk s H scope (compEnvC scope cl C X.env) fp) tg gt sl gf) {ifs : List Expr} (ht : ∀ (s : Shared) (H : Hp) (C : Addr) (cl : List (Str × Addr)) (fp : List Addr), TsU K mg W0 (X.blk s H scope (compEnvC scope cl C X.env) fp) ifs tt ft)
    (he : ∀ (s : Shared) (H : Hp) (C : Addr) (cl : List (Str × Addr)) (fp : List Addr), PU K mg W0 (X.blk s H scope (compEnvC scope cl C X.env) fp) elt te fe) (ok : BlkOk X.N X.env.scope scope own := by exact blkOk_by (by kernel_rfl)) (hs : ∀ x, foldedSetIterable iter X.env x = pure x := by intro _; rfl)
    (hsl : ∀ j, j ∈ sl → j ∈ own.map (·.2) := by decide) : OU K mg W X (.ListComp elt [⟨tg, iter, ifs, 0⟩] scope pos) (tLc wi gt tt te (own.map (·.2))) (oComp fi gf ft fe (own.map (·.2))) := by
  have s0 : Shared := X.s_0
  exact ⟨pe_lc hc hN hi.pe ok (fun s H C cl fp => (hg s H C cl fp).pe) (fun s H C cl fp => (ht s H C cl fp).pe) (fun s H C cl fp => (he s H C cl fp).pe) hs, semComp hi.sem (hg s0 (fun _ => none) 0 [] []).sem (ht s0 (fun _ => none) 0 [] []).sem (he s0 (fun _ => none) 0 [] []).sem hsl⟩
/-- y = [..] on one line -/
theorem su_setLcO (i : Nat) {py spos : Pos} {y : Str} (own : List (Str × Nat)) (hc : X.calm = true) (hN : X.N.Nodup) (hi : IU K mg W X tg iter wi fi)
    (hg : ∀ (s : Shared) (H : Hp) (C : Addr) (cl : List (Str × Addr)) (fp : List Addr), GU K (X.blk s H scope (compEnvC scope cl C X.env) fp) tg gt sl gf) {ifs : List Expr} (ht : ∀ (s : Shared) (H : Hp) (C : Addr) (cl : List (Str × Addr)) (fp : List Addr), TsU K mg W0 (X.blk s H scope (compEnvC scope cl C X.env) fp) ifs tt ft)
    (he : ∀ (s : Shared) (H : Hp) (C : Addr) (cl : List (Str × Addr)) (fp : List Addr), PU K mg W0 (X.blk s H scope (compEnvC scope cl C X.env) fp) elt te fe) (hy : X.N[i]? = some y := by rfl) (hyl : X.env.scope.names.lookup y = some .local := by rfl) (hsw : swapsWith (.ListComp elt [⟨tg, iter, ifs, 0⟩] scope pos) (some (.Name y py)) spos.line X.env = pure true := by exact sw_true rfl rfl rfl (by decide +kernel))
    (ok : BlkOk X.N X.env.scope scope own := by exact blkOk_by (by kernel_rfl)) (hs : ∀ x, foldedSetIterable iter X.env x = pure x := by intro _; rfl)
    (hsl : ∀ j, j ∈ sl → j ∈ own.map (·.2) := by decide) : SU K mg W X (.Assign [.Name y py] (.ListComp elt [⟨tg, iter, ifs, 0⟩] scope pos) spos) (tAsg (tLc wi gt tt te (own.map (·.2))) (gName i)) (sSetO i (oComp fi gf ft fe (own.map (·.2)))) := by
  have s0 : Shared := X.s_0
  have so := semComp hi.sem (hg s0 (fun _ => none) 0 [] []).sem (ht s0 (fun _ => none) 0 [] []).sem (he s0 (fun _ => none) 0 [] []).sem hsl
  refine ⟨ps_setLc hc hN hy hyl hsw hi.pe ok (fun s H C cl fp => (hg s H C cl fp).pe) (fun s H C cl fp => (ht s H C cl fp).pe) (fun s H C cl fp => (he s H C cl fp).pe) hs, fun Z sgm env b H rhx M D S h => ?_⟩
  refine so _ sgm env b H rhx M _ S.wd S.en (SPost.post S h fun ps b1 v H1 rhx1 M1 _ st w1 r1 h1 => ?_)
  have S1 := S.step st w1
  obtain ⟨p, vs, rfl, hp, h2, mp, np, r⟩ := r1
  exact h1 _ H1 rhx1 M1 .refl ⟨S1.st, S1.wd, S1.en.setOwn i h2 r mp np (S.st.dom p hp) (fun j qs hj hq g => by
    obtain ⟨a', ws, g1, g2, _⟩ := S.en.own j qs hq
    rw [g] at g1; cases g1
    rw [hp] at g2; cases g2), S1.zm⟩
theorem su_setLc (i : Nat) {py spos : Pos} {y : Str} (own : List (Str × Nat)) (hc : X.calm = true) (hN : X.N.Nodup) (hi : IU K mg W X tg iter wi fi)
    (hg : ∀ (s : Shared) (H : Hp) (C : Addr) (cl : List (Str × Addr)) (fp : List Addr), GU K (X.blk s H scope (compEnvC scope cl C X.env) fp) tg gt sl gf) {ifs : List Expr} (ht : ∀ (s : Shared) (H : Hp) (C : Addr) (cl : List (Str × Addr)) (fp : List Addr), TsU K mg W0 (X.blk s H scope (compEnvC scope cl C X.env) fp) ifs tt ft)
    (he : ∀ (s : Shared) (H : Hp) (C : Addr) (cl : List (Str × Addr)) (fp : List Addr), PU K mg W0 (X.blk s H scope (compEnvC scope cl C X.env) fp) elt te fe) (hy : X.N[i]? = some y := by rfl) (hyl : X.env.scope.names.lookup y = some .local := by rfl) (hsw : swapsWith (.ListComp elt [⟨tg, iter, ifs, 0⟩] scope pos) (some (.Name y py)) spos.line X.env = pure true := by exact sw_true rfl rfl rfl (by decide +kernel))
    (ok : BlkOk X.N X.env.scope scope own := by exact blkOk_by (by kernel_rfl)) (hs : ∀ x, foldedSetIterable iter X.env x = pure x := by intro _; rfl)
    (hsl : ∀ j, j ∈ sl → j ∈ own.map (·.2) := by decide) : SU K mg W X (.Assign [.Name y py] (.ListComp elt [⟨tg, iter, ifs, 0⟩] scope pos) spos) (tAsg (tLc wi gt tt te (own.map (·.2))) (gName i)) (sSet i (eFrz (oComp fi gf ft fe (own.map (·.2))))) := by
  have s0 : Shared := X.s_0
  have so := semComp hi.sem (hg s0 (fun _ => none) 0 [] []).sem (ht s0 (fun _ => none) 0 [] []).sem (he s0 (fun _ => none) 0 [] []).sem hsl
  have h1 := su_setLcO (pos := pos) i (py := py) (spos := spos) (y := y) own hc hN hi hg ht he hy hyl hsw ok hs hsl
  exact ⟨h1.pe, fun Z sgm env b H rhx M D S h => by
    have so2 : SemE K mg W (tLc wi gt tt te (own.map (·.2))) (eFrz (oComp fi gf ft fe (own.map (·.2)))) := fun N0 sgm env b H rhx M Q w en q => by
      refine so N0 sgm env b H rhx M _ w en ?_
      unfold eFrz at q
      cases hf : oComp fi gf ft fe (own.map (·.2)) env b with
      | ok ps b1 =>
        rw [hf] at q
        intro v H1 rhx1 M1 st w1 r1
        obtain ⟨M2, st2, w2, r2⟩ := frz_out w st w1 r1
        exact q v H1 rhx1 M2 st2 w2 r2
      | ex x b1 => rw [hf] at q; exact q
      | no => rw [hf] at q; exact q
    refine so2 _ sgm env b H rhx M _ S.wd S.en (SPost.post S h fun p b1 v H1 rhx1 M1 _ st w1 r1 h1 => ?_)
    have S1 := S.step st w1
    exact h1 _ H1 rhx1 M1 .refl ⟨S1.st, S1.wd, S1.en.setVal r1 i, S1.zm⟩⟩
/-! ### sources -/
def iLst (fe : FE) : FI := fun env b => (fe env b).bind fun p b1 => match p with
  | .lst ps => .ok ps b1
  | _ => .no
def iTp (fe : FE) : FI := fun env b => (fe env b).bind fun p b1 => match p with
  | .tup ps => .ok ps b1
  | _ => .no
def signs (x : Str) : List P := x.cps.toList.map fun c => .str ⟨#[c]⟩
def iStrF (fe : FE) : FI := fun env b => (fe env b).bind fun p b1 => match p with
  | .str x => .ok (signs x) b1
  | _ => .no
def rangeP (lo hi : Int) : List P := (List.range (hi - lo).toNat).map fun k => .int (lo + (k : Nat))
def iRg1 (fa : FE) : FI := fun env b => (fa env b).bind fun p b1 => match p with
  | .int n => if -(2 ^ 62) ≤ n ∧ n < 2 ^ 62 then .ok (rangeP 0 n) b1 else .no
  | _ => .no
def iRg2 (fa fb : FE) : FI := fun env b => (fa env b).bind fun p b1 => (fb env b1).bind fun q b2 => match p, q with
  | .int m, .int n => if -(2 ^ 62) ≤ m ∧ m < 2 ^ 62 ∧ -(2 ^ 62) ≤ n ∧ n < 2 ^ 62 then .ok (rangeP m n) b2 else .no
  | _, _ => .no
theorem src_list {H : Hp} {rhx : List Addr} {M : Ad} {ps : List P} {a : Addr} {b : Bx} (w : Wd K mg H rhx M b) (h : Rep K rhx M H (.lst ps) (.ref a)) : Src K mg H rhx M (Itl K a) ps := fun b H2 rhx2 M2 sS w2 => by
  obtain ⟨a', vs, e, h2, n, r⟩ := Rep.step w.mu sS _ _ h
  cases e
  refine ⟨fun i p hp => ?_, vs, SqL.of h2, by rw [r.length]; exact Nat.le_refl _⟩
  obtain ⟨v, hv, rv⟩ := r.get hp
  refine ⟨⟨vs, v, SqL.of h2, hv⟩, fun x H' y => ?_⟩
  obtain ⟨e, y⟩ := y
  subst e
  have := y vs (SqL.of h2)
  rw [hv] at this
  cases this
  exact ⟨.refl, w2, rv⟩
theorem src_tup {H : Hp} {rhx : List Addr} {M : Ad} {ps : List P} {a : Addr} {b : Bx} (w : Wd K mg H rhx M b) (h : Rep K rhx M H (.tup ps) (.ref a)) : Src K mg H rhx M (Itt K a) ps := fun b H2 rhx2 M2 sS w2 => by
  obtain ⟨a', vs, e, h2, r⟩ := Rep.step w.mu sS _ _ h
  cases e
  refine ⟨fun i p hp => ?_, vs, h2, by rw [r.length]; exact Nat.le_refl _⟩
  obtain ⟨v, hv, rv⟩ := r.get hp
  refine ⟨⟨vs, v, h2, hv⟩, fun x H' y => ?_⟩
  obtain ⟨e, y⟩ := y
  subst e
  have := y vs h2
  rw [hv] at this
  cases this
  exact ⟨.refl, w2, rv⟩
theorem iu_list (he : PU K mg W X e te fe) (hK : X.K = K := by rfl) : IU K mg W X tg e (iList K te) (iLst fe) := by
  subst hK
  refine ⟨pi_list he.pe, fun N0 sgm env b H rhx M Q w en h => ?_⟩
  refine he.sem N0 sgm env b H rhx M _ w en (Post.bind h fun p b1 v H1 rhx1 M1 st w1 r1 h1 => ?_)
  cases p with
  | lst ps =>
    obtain ⟨a, vs, rfl, h2, n, r⟩ := id r1
    exact ⟨a, rfl, ⟨vs, SqL.of h2⟩, h1 _ H1 rhx1 M1 .refl w1 (src_list w1 r1)⟩
  | _ => exact h1.elim
theorem iu_tup (he : PU K mg W X e te fe) (hK : X.K = K := by rfl) : IU K mg W X tg e (iTup K te) (iTp fe) := by
  subst hK
  refine ⟨pi_tup he.pe, fun N0 sgm env b H rhx M Q w en h => ?_⟩
  refine he.sem N0 sgm env b H rhx M _ w en (Post.bind h fun p b1 v H1 rhx1 M1 st w1 r1 h1 => ?_)
  cases p with
  | tup ps =>
    obtain ⟨a, vs, rfl, h2, r⟩ := id r1
    exact ⟨a, rfl, ⟨vs, h2⟩, h1 _ H1 rhx1 M1 .refl w1 (src_tup w1 r1)⟩
  | _ => exact h1.elim
theorem iu_str (he : PU K mg W X e te fe) : IU K mg W X tg e (iStr te) (iStrF fe) := by
  refine ⟨pi_str he.pe, fun N0 sgm env b H rhx M Q w en h => ?_⟩
  refine he.sem N0 sgm env b H rhx M _ w en (Post.bind h fun p b1 v H1 rhx1 M1 st w1 r1 h1 => ?_)
  cases p with
  | str x =>
    refine ⟨x, r1, h1 _ H1 rhx1 M1 .refl w1 fun b H2 rhx2 M2 sS w2 => ⟨fun i p hp => ?_, ?_⟩⟩
    · have hp' : (x.cps.toList.map fun c => P.str ⟨#[c]⟩)[i]? = some p := hp
      rw [List.getElem?_map] at hp'
      cases hq : x.cps.toList[i]? with
      | none => rw [hq] at hp'; cases hp'
      | some c =>
        rw [hq] at hp'
        cases hp'
        have hlt : i < x.cps.size := by simpa using (List.getElem?_eq_some_iff.mp hq).1
        refine ⟨hlt, fun v H' y => ?_⟩
        obtain ⟨e1, c', hc', rfl⟩ := y
        subst e1
        have : c' = c := by
          have e2 : x.cps.toList[i]? = some c' := by rw [Array.getElem?_toList]; exact hc'
          rw [hq] at e2
          exact (Option.some.inj e2).symm
        subst this
        exact ⟨.refl, w2, rfl⟩
    · show x.cps.size ≤ (signs x).length
      simp [signs]
  | _ => exact h1.elim
theorem src_range {H : Hp} {rhx : List Addr} {M : Ad} {lo hi : Int} : Src K mg H rhx M (Itr lo (hi - lo).toNat) (rangeP lo hi) := fun b H2 rhx2 M2 sS w2 => by
  refine ⟨fun i p hp => ?_, by show (hi - lo).toNat ≤ (rangeP lo hi).length; simp [rangeP]⟩
  have hp' : ((List.range (hi - lo).toNat).map fun k => P.int (lo + (k : Nat)))[i]? = some p := hp
  rw [List.getElem?_map] at hp'
  cases hq : (List.range (hi - lo).toNat)[i]? with
  | none => rw [hq] at hp'; cases hp'
  | some c =>
    rw [hq] at hp'
    cases hp'
    obtain ⟨hlt, e⟩ := List.getElem?_eq_some_iff.mp hq
    simp at hlt e
    subst e
    refine ⟨(by show i < (hi - lo).toNat; omega), fun v H' y => ?_⟩
    obtain ⟨e1, rfl⟩ := y
    subst e1
    exact ⟨.refl, w2, rfl⟩
theorem iu_range1 {p : Pos} (hm : X.mg "range" = none) (ha : PU K mg W X a ta fa) (hg : Gl X "range" := by rfl) (hs : starEach [a] X.env = [(false, eval a X.env)] := by rfl) (hs0 : starEach [a] X.env = (false, eval a X.env) :: starEach [] X.env := by rfl) : IU K mg W X tg (.Call (.Name "range" p) [a] [] pos) (iRng1 (tCons ta tNil)) (iRg1 fa) := by
  refine ⟨pi_range1 hg hm (pa_cons ha.pe pa_nil hs0) hs, fun N0 sgm env b H rhx M Q w en h => ?_⟩
  refine ha.sem N0 sgm env b H rhx M _ w en (Post.bind h fun p b1 v H1 rhx1 M1 st w1 r1 h1 => ?_)
  cases p with
  | int n =>
    by_cases hn : -(2 ^ 62) ≤ n ∧ n < 2 ^ 62
    · simp only [if_pos hn] at h1
      have e : v = .int n := r1
      subst e
      have h2 := h1 (Itr 0 (n - 0).toNat) H1 rhx1 M1 .refl w1 src_range
      rw [Int.sub_zero] at h2
      exact ⟨n, rfl, hn.1, hn.2, h2⟩
    · simp only [if_neg hn] at h1; exact h1.elim
  | _ => exact h1.elim
theorem iu_range2 {p : Pos} (hm : X.mg "range" = none) (ha : PU K mg W X a ta fa) (hb : PU K mg W X c tb fb) (hg : Gl X "range" := by rfl) (hs : starEach [a, c] X.env = [(false, eval a X.env), (false, eval c X.env)] := by rfl) (hs2 : starEach [c] X.env = [(false, eval c X.env)] := by rfl) (hs0 : starEach [a, c] X.env = (false, eval a X.env) :: starEach [c] X.env := by rfl) (hs1 : starEach [c] X.env = (false, eval c X.env) :: starEach [] X.env := by rfl) :
    IU K mg W X tg (.Call (.Name "range" p) [a, c] [] pos) (iRng2 (tCons ta (tCons tb tNil))) (iRg2 fa fb) := by
  refine ⟨pi_range2 hg hm (pa_cons ha.pe (pa_cons hb.pe pa_nil hs1) hs0) hs hs2, fun N0 sgm env b H rhx M Q w en h => ?_⟩
  refine ha.sem N0 sgm env b H rhx M _ w en (Post.bind h fun p b1 v H1 rhx1 M1 st w1 r1 h1 => ?_)
  refine hb.sem N0 sgm env b1 H1 rhx1 M1 _ w1 (en.step w st) (Post.bind h1 fun q b2 v2 H2 rhx2 M2 st2 w2 r2 h2 => ?_)
  cases p with
  | int m =>
    cases q with
    | int n =>
      by_cases hn : -(2 ^ 62) ≤ m ∧ m < 2 ^ 62 ∧ -(2 ^ 62) ≤ n ∧ n < 2 ^ 62
      · simp only [if_pos hn] at h2
        have e : v = .int m := r1
        have e2 : v2 = .int n := r2
        subst e e2
        exact ⟨m, n, rfl, hn, h2 (Itr m (n - m).toNat) H2 rhx2 M2 .refl w2 src_range⟩
      · simp only [if_neg hn] at h2; exact h2.elim
    | _ => exact h2.elim
  | _ => exact h2.elim
end
/-! ### a def's body computes its plain function -/
def defOut (o : SOut) : Out P := match o with
  | .nx _ b => .ok .non b
  | .rt p b => .ok p b
  | .ex x _ b => .ex x b
  | _ => .no
def mkDef (n m : Nat) (f : FS) : List P → Bx → Out P := fun ps b => if ps.length = n then defOut (f (ps.map .va ++ List.replicate (m - n) .un) b) else .no
section
variable {Pr : Program} {w : World} {K : Frag} {mg : Mg} {base : Heap}
theorem start_ok {N : List Str} {ps : List P} {vs : List V} {H : Hp} {rhx : List Addr} {M N0 : Ad} (r : Reps K rhx M H ps vs) : EnvOk K rhx M H N0 (L2.start N vs) (ps.map .va ++ List.replicate (N.length - ps.length) .un) := by
  have hl := r.length
  have noown : ∀ (j : Nat) qs, (ps.map Slot.va ++ List.replicate (N.length - ps.length) .un)[j]? ≠ some (.ow qs) := fun j qs h => by
    have := List.mem_of_getElem? h
    simp at this
  refine ⟨by unfold L2.start; simp [hl], fun i p h => ?_, fun j qs h => (noown j qs h).elim, fun j k qs rs a h => (noown j qs h).elim⟩
  by_cases hi : i < ps.length
  · rw [List.getElem?_append_left (by simpa using hi), List.getElem?_map] at h
    cases hq : ps[i]? with
    | none => rw [hq] at h; cases h
    | some q =>
      rw [hq] at h
      cases h
      obtain ⟨v, hv, rv⟩ := r.get hq
      refine ⟨v, ?_, rv⟩
      unfold L2.start
      rw [List.getElem?_append_left (by simp [hl]; exact hi), List.getElem?_map, hv]
      rfl
  · rw [List.getElem?_append_right (by simp; omega)] at h
    have := List.mem_of_getElem? h
    simp at this


theorem fn_ok {x qual : Str} {params : Arguments} {bd : List Stmt} {sc : Scope} {dvs : List V} {kws : List (Str × V)} {f : Addr} {fd : FuncData} {N ps : List Str} {k n m : Nat} {body : FS} (F : FunD K x qual params bd sc dvs kws f fd) (S : FnScope N ps sc)
    (h : ∀ (cdv : Value) (A : Around) (outer : List PySem.Env) (s : Shared) (H : Hp) (E : XK), Room k (A.deeper (envOfC qual sc s.heap.objs.size f cdv)) →
      ∃ t, SSU K mg (fun c d _ H => E c d H) (cxOf (L2.CX Pr w) Pr w K mg base N qual sc f cdv A outer s H E) bd t body) (hn : ps.length = n := by rfl) (hm : N.length = m := by rfl) : FnOk Pr w K mg base (L2.CX Pr w) (k + 1) f fd ps (spP K mg (mkDef n m body)) := by
  subst hn hm
  refine F.ok S (fun vs H Q E hs => ?_) (fun cdv A outer s H vs Q E hr hs => ?_)
  · obtain ⟨qs, b, rhx, M, w, r, p⟩ := hs
    unfold mkDef at p
    by_cases hl : qs.length = ps.length
    · rw [r.length, hl]
    · rw [if_neg hl] at p; exact p.elim
  · obtain ⟨qs, b, rhx, M, wd, r, p⟩ := hs
    obtain ⟨t, ht⟩ := h cdv A outer s H E hr
    refine ⟨t, ht.pe, ?_⟩
    unfold mkDef at p
    by_cases hl : qs.length = ps.length
    · rw [if_pos hl, ← hl] at p
      refine ht.sem ⟨H, rhx, M⟩ (L2.start N vs) _ b H rhx M _ ⟨.refl, wd, start_ok r, fun x hx => ?_⟩ ?_
      · have := wd.mu x hx
        cases q : H x with
        | none => rw [q] at this; exact this.elim
        | some o => exact ⟨o, q⟩
      · revert p
        cases body (qs.map .va ++ List.replicate (N.length - qs.length) .un) b with
        | nx e1 b1 => exact fun p sgm' H' rhx' M' sS S' => p .non H' rhx' M' S'.st S'.wd rfl
        | rt v b1 => exact fun p v H' rhx' M' st w r => p v H' rhx' M' st w r
        | ex x e1 b1 => exact fun p c d sgm' H' rhx' M' sS S' rx => p c d H' rhx' M' S'.st S'.wd rx
        | bk e1 b1 => exact fun p => p.elim
        | ct e1 b1 => exact fun p => p.elim
        | no => exact fun p => p.elim
    · rw [if_neg hl] at p; exact p.elim
end
end PV

namespace PV
open PySem L2 PyProof.Rows
section
variable {K : Frag} {mg : Mg} {W : WX} {X : Cx}
theorem newLst {b : Bx} {H : Hp} {rhx : List Addr} {M : Ad} (w : Wd K mg H rhx M b) {ps : List P} {vs : List V} (r : Reps K rhx M H ps vs) {p : Addr} (hp : H p = none) : Rep K rhx M (upd H p (.lst vs)) (.lst ps) (.ref p) :=
  ⟨p, vs, rfl, upd_same, w.fresh hp, Reps.step w.mu ((StepE.newO w hp).toS w.box) _ _ r⟩
theorem Reps.nil_iff {rhx : List Addr} {M : Ad} {H : Hp} {ps : List P} {vs : List V} (r : Reps K rhx M H ps vs) : vs = [] ↔ ps = [] := by
  have := r.length
  constructor
  · intro e; subst e; simpa [List.length_eq_zero_iff] using this.symm
  · intro e; subst e; simpa [List.length_eq_zero_iff] using this
/-! ### operators -/
def addP : Bx → P → P → Option P
  | _, .int i, .int j => some (.int (i + j))
  | _, .str x, .str y => if x.length + y.length ≤ 16000000 then some (.str (x ++ y)) else none
  | _, .tup xs, .tup ys => if xs.length + ys.length ≤ 1000000 then some (.tup (xs ++ ys)) else none
  | _, .lst xs, .lst ys => if xs.length + ys.length ≤ 1000000 then some (.lst (xs ++ ys)) else none
  | _, _, _ => none
def rAddA (K : Frag) : R2 := fun x y H Q => rI0 (fun i j => .int (i + j)) x y H Q ∨ (∃ i j, x = .str i ∧ y = .str j ∧ i.length + j.length ≤ sizeLine ∧ Q (.str (i ++ j)) H) ∨ rCatA K x y H Q ∨ rCat x y H Q
theorem o_add (hK : X.K = K := by rfl) : OpR X (binaryOp .Add) (rAddA K) := by
  subst hK
  exact op_add.or (op_add_str.or (op_catA.or op_cat))
theorem line16 {n : Nat} (h : n ≤ 16000000) : n ≤ sizeLine := Nat.le_trans h (by decide)
theorem line1 {n : Nat} (h : n ≤ 1000000) : n ≤ sizeLine := Nat.le_trans h (by decide)
theorem g_add : OpG K (rAddA K) addP := fun mg H rhx M b x y p q z Q w r1 r2 h k => by
  cases p with
  | int i =>
    cases q with
    | int j =>
      cases h
      exact .inl ⟨i, j, r1, r2, k _ H .refl w rfl⟩
    | _ => cases h
  | str i =>
    cases q with
    | str j =>
      simp only [addP] at h
      split at h
      · rename_i hl
        cases h
        exact .inr (.inl ⟨i, j, r1, r2, line16 hl, k _ H .refl w rfl⟩)
      · cases h
    | _ => cases h
  | tup xs =>
    cases q with
    | tup ys =>
      simp only [addP] at h
      split at h
      · rename_i hl
        cases h
        obtain ⟨a, vs, rfl, s1, q1⟩ := id r1
        obtain ⟨c, ws, rfl, s2, q2⟩ := id r2
        refine .inr (.inr (.inl ⟨a, c, vs, ws, rfl, rfl, s1, s2, by rw [q1.length, q2.length]; exact line1 hl, fun e => ?_, fun e1 e2 => ?_, fun e1 e2 p hp => ?_⟩))
        · rw [q1.nil_iff] at e
          subst e
          exact k _ H .refl w r2
        · rw [q2.nil_iff] at e2
          subst e2
          rw [List.append_nil] at k
          exact k _ H .refl w r1
        · exact k _ _ (StepE.newO w hp) (w.newO hp) (newTup w (q1.append q2) hp)
      · cases h
    | _ => cases h
  | lst xs =>
    cases q with
    | lst ys =>
      simp only [addP] at h
      split at h
      · rename_i hl
        cases h
        obtain ⟨a, vs, rfl, s1, n1, q1⟩ := id r1
        obtain ⟨c, ws, rfl, s2, n2, q2⟩ := id r2
        exact .inr (.inr (.inr ⟨a, c, vs, ws, rfl, rfl, s1, s2, by rw [q1.length, q2.length]; exact line1 hl, fun p hp => k _ _ (StepE.newO w hp) (w.newO hp) (newLst w (q1.append q2) hp)⟩))
      · cases h
    | _ => cases h
  | _ => cases h
/-- one rule of two ints -/
theorem g_int {C : Int → Int → Prop} {h : Int → Int → P} {gg : Int → Int → V} {g : Bx → P → P → Option P} (hg : ∀ b p q z, g b p q = some z → ∃ i j, p = .int i ∧ q = .int j ∧ C i j ∧ z = h i j) (hr : ∀ i j rhx M H, Rep K rhx M H (h i j) (gg i j)) : OpG K (rI C gg) g := fun mg H rhx M b x y p q z Q w r1 r2 e k => by
  obtain ⟨i, j, rfl, rfl, c, rfl⟩ := hg b p q z e
  exact ⟨i, j, r1, r2, c, k _ H .refl w (hr i j rhx M H)⟩
theorem g_int0 {h : Int → Int → P} {gg : Int → Int → V} {g : Bx → P → P → Option P} (hg : ∀ b p q z, g b p q = some z → ∃ i j, p = .int i ∧ q = .int j ∧ z = h i j) (hr : ∀ i j rhx M H, Rep K rhx M H (h i j) (gg i j)) : OpG K (rI0 gg) g := fun mg H rhx M b x y p q z Q w r1 r2 e k => by
  obtain ⟨i, j, rfl, rfl, rfl⟩ := hg b p q z e
  exact ⟨i, j, r1, r2, k _ H .refl w (hr i j rhx M H)⟩
def subP : Bx → P → P → Option P
  | _, .int i, .int j => some (.int (i - j))
  | _, _, _ => none
theorem g_sub : OpG K (rI0 fun i j => .int (i - j)) subP := g_int0 (h := fun i j => .int (i - j)) (fun b p q z e => by
  cases p <;> cases q <;> first | (cases e; exact ⟨_, _, rfl, rfl, rfl⟩) | cases e) fun _ _ _ _ _ => rfl
def mulP : Bx → P → P → Option P
  | _, .int i, .int j => if (-(2 ^ 64) < i ∧ i < 2 ^ 64) ∨ (-(2 ^ 64) < j ∧ j < 2 ^ 64) then some (.int (i * j)) else none
  | _, _, _ => none
theorem g_mul : OpG K (rI CMul fun i j => .int (i * j)) mulP := g_int (h := fun i j => .int (i * j)) (fun b p q z e => by
  cases p with
  | int i =>
    cases q with
    | int j =>
      simp only [mulP] at e
      split at e
      · rename_i h
        cases e
        exact ⟨_, _, rfl, rfl, h, rfl⟩
      · cases e
    | _ => cases e
  | _ => cases e) fun _ _ _ _ _ => rfl
def modP : Bx → P → P → Option P
  | _, .int i, .int j => if 0 < j then some (.int (i % j)) else none
  | _, _, _ => none
theorem g_mod : OpG K (rI (fun _ j => 0 < j) fun i j => .int (i % j)) modP := g_int (h := fun i j => .int (i % j)) (fun b p q z e => by
  cases p with
  | int i =>
    cases q with
    | int j =>
      simp only [modP] at e
      split at e
      · rename_i h
        cases e
        exact ⟨_, _, rfl, rfl, h, rfl⟩
      · cases e
    | _ => cases e
  | _ => cases e) fun _ _ _ _ _ => rfl
def divP : Bx → P → P → Option P
  | _, .int i, .int j => if 0 < j ∧ j < 1073741824 then some (.int (i / j)) else none
  | _, _, _ => none
theorem g_div : OpG K (rI CDiv fun i j => .int (i / j)) divP := g_int (h := fun i j => .int (i / j)) (fun b p q z e => by
  cases p with
  | int i =>
    cases q with
    | int j =>
      simp only [divP] at e
      split at e
      · rename_i h
        cases e
        exact ⟨_, _, rfl, rfl, h, rfl⟩
      · cases e
    | _ => cases e
  | _ => cases e) fun _ _ _ _ _ => rfl
def negP : Bx → P → Option P
  | _, .int i => some (.int (-i))
  | _, _ => none
theorem g_neg : UnG K (rU fun i => .int (-i)) negP := fun mg H rhx M b x p z Q w r h k => by
  cases p with
  | int i => cases h; exact ⟨i, r, k _ H .refl w rfl⟩
  | _ => cases h
/-! ### comparisons -/
def cmpI (f : Int → Int → Bool) : Bx → P → P → Option P
  | _, .int i, .int j => some (.bl (f i j))
  | _, _, _ => none
theorem g_cmpI {f : Int → Int → Bool} : OpG K (rI0 fun i j => .bl (f i j)) (cmpI f) := g_int0 (h := fun i j => .bl (f i j)) (fun b p q z e => by
  cases p <;> cases q <;> first | (cases e; exact ⟨_, _, rfl, rfl, rfl⟩) | cases e) fun _ _ _ _ _ => rfl
abbrev leP : Bx → P → P → Option P := cmpI fun i j => decide (i ≤ j)
abbrev gtP : Bx → P → P → Option P := cmpI fun i j => decide (j < i)
abbrev geP : Bx → P → P → Option P := cmpI fun i j => decide (j ≤ i)
/-- the ints of a row -/
def intsOf : List P → Option (List Int)
  | [] => some []
  | .int i :: ps => (intsOf ps).map (i :: ·)
  | _ :: _ => none
theorem intsOf_some : ∀ {ps : List P} {ns : List Int}, intsOf ps = some ns → ps = ns.map P.int
  | [], _, h => by cases h; rfl
  | p :: ps, ns, h => by
    cases p with
    | int i =>
      simp only [intsOf] at h
      cases q : intsOf ps with
      | none => rw [q] at h; cases h
      | some ms => rw [q] at h; cases h; rw [intsOf_some q]; rfl
    | _ => cases h
@[simp] theorem intsOf_map (ns : List Int) : intsOf (ns.map P.int) = some ns := by
  induction ns with
  | nil => rfl
  | cons n ns ih => simp [intsOf, ih]
theorem Reps.ints {rhx : List Addr} {M : Ad} {H : Hp} : ∀ {ns : List Int} {vs : List V}, Reps K rhx M H (ns.map P.int) vs → vs = ns.map V.int
  | [], _, h => h
  | n :: ns, _, h => by
    obtain ⟨v, r, rfl, h1, h2⟩ := h
    have e : v = .int n := h1
    rw [e, Reps.ints h2]; rfl
theorem Reps.ofInts {rhx : List Addr} {M : Ad} {H : Hp} : ∀ (ns : List Int), Reps K rhx M H (ns.map P.int) (ns.map V.int)
  | [] => rfl
  | n :: ns => ⟨.int n, _, rfl, rfl, Reps.ofInts ns⟩
def strsOf : List P → Option (List Str)
  | [] => some []
  | .str i :: ps => (strsOf ps).map (i :: ·)
  | _ :: _ => none
theorem strsOf_some : ∀ {ps : List P} {ns : List Str}, strsOf ps = some ns → ps = ns.map P.str
  | [], _, h => by cases h; rfl
  | p :: ps, ns, h => by
    cases p with
    | str i =>
      simp only [strsOf] at h
      cases q : strsOf ps with
      | none => rw [q] at h; cases h
      | some ms => rw [q] at h; cases h; rw [strsOf_some q]; rfl
    | _ => cases h
@[simp] theorem strsOf_map (ns : List Str) : strsOf (ns.map P.str) = some ns := by
  induction ns with
  | nil => rfl
  | cons n ns ih => simp [strsOf, ih]
theorem Reps.strs {rhx : List Addr} {M : Ad} {H : Hp} : ∀ {ns : List Str} {vs : List V}, Reps K rhx M H (ns.map P.str) vs → vs = ns.map V.str
  | [], _, h => h
  | n :: ns, _, h => by
    obtain ⟨v, r, rfl, h1, h2⟩ := h
    have e : v = .str n := h1
    rw [e, Reps.strs h2]; rfl
theorem Reps.ofStrs {rhx : List Addr} {M : Ad} {H : Hp} : ∀ (ns : List Str), Reps K rhx M H (ns.map P.str) (ns.map V.str)
  | [] => rfl
  | n :: ns => ⟨.str n, _, rfl, rfl, Reps.ofStrs ns⟩
def blsOf : List P → Option (List Bool)
  | [] => some []
  | .bl i :: ps => (blsOf ps).map (i :: ·)
  | _ :: _ => none
theorem blsOf_some : ∀ {ps : List P} {ns : List Bool}, blsOf ps = some ns → ps = ns.map P.bl
  | [], _, h => by cases h; rfl
  | p :: ps, ns, h => by
    cases p with
    | bl i =>
      simp only [blsOf] at h
      cases q : blsOf ps with
      | none => rw [q] at h; cases h
      | some ms => rw [q] at h; cases h; rw [blsOf_some q]; rfl
    | _ => cases h
@[simp] theorem blsOf_map (ns : List Bool) : blsOf (ns.map P.bl) = some ns := by
  induction ns with
  | nil => rfl
  | cons n ns ih => simp [blsOf, ih]
theorem Reps.bls {rhx : List Addr} {M : Ad} {H : Hp} : ∀ {ns : List Bool} {vs : List V}, Reps K rhx M H (ns.map P.bl) vs → vs = ns.map V.bl
  | [], _, h => h
  | n :: ns, _, h => by
    obtain ⟨v, r, rfl, h1, h2⟩ := h
    have e : v = .bl n := h1
    rw [e, Reps.bls h2]; rfl
def ltP : Bx → P → P → Option P
  | _, .int i, .int j => some (.bl (decide (i < j)))
  | _, .str i, .str j => some (.bl (decide (i.cps.toList < j.cps.toList)))
  | _, .tup xs, .tup ys => match intsOf xs, intsOf ys with
    | some ns, some ms => some (.bl (HT.lexLt ns ms))
    | _, _ => none
  | _, _, _ => none
def rLtA (K : Frag) : R2 := fun x y H Q => rI0 (fun i j => .bl (decide (i < j))) x y H Q ∨ (∃ i j, x = .str i ∧ y = .str j ∧ Q (.bl (decide (i.cps.toList < j.cps.toList))) H) ∨ rLtT K x y H Q
theorem o_lt (hu : X.A.units < cLine) (hK : X.K = K := by rfl) : OpR X (compareOp .Lt) (rLtA K) := by
  subst hK
  exact op_lt.or (op_lt_str.or (op_ltT hu))
theorem g_lt : OpG K (rLtA K) ltP := fun mg H rhx M b x y p q z Q w r1 r2 h k => by
  cases p with
  | int i =>
    cases q with
    | int j => cases h; exact .inl ⟨i, j, r1, r2, k _ H .refl w rfl⟩
    | _ => cases h
  | str i =>
    cases q with
    | str j => cases h; exact .inr (.inl ⟨i, j, r1, r2, k _ H .refl w rfl⟩)
    | _ => cases h
  | tup xs =>
    cases q with
    | tup ys =>
      simp only [ltP] at h
      cases h1 : intsOf xs with
      | none => rw [h1] at h; cases h
      | some ns =>
        cases h2 : intsOf ys with
        | none => rw [h1, h2] at h; cases h
        | some ms =>
          rw [h1, h2] at h
          cases h
          have e1 := intsOf_some h1
          have e2 := intsOf_some h2
          subst e1 e2
          obtain ⟨a, vs, rfl, s1, q1⟩ := r1
          obtain ⟨c, ws, rfl, s2, q2⟩ := r2
          rw [q1.ints] at s1
          rw [q2.ints] at s2
          exact .inr (.inr ⟨a, c, ns, ms, rfl, rfl, s1, s2, k _ H .refl w rfl⟩)
    | _ => cases h
  | _ => cases h
/-! ### equality -/
mutual
def toD : P → PyData
  | .non => .none
  | .bl b => .bool b
  | .int i => .int i
  | .str x => .str x
  | .tup ps => .tuple (toDs ps)
  | .lst ps => .list (toDs ps)
  | .box _ => .none
  | .fro _ => .none
def toDs : List P → List PyData
  | [] => []
  | p :: ps => toD p :: toDs ps
end
mutual
def datP : P → Bool
  | .tup ps => datPs ps
  | .lst ps => datPs ps
  | .box _ => false
  | .fro _ => false
  | _ => true
def datPs : List P → Bool
  | [] => true
  | p :: ps => datP p && datPs ps
end
mutual
theorem dp_of {rhx : List Addr} {M : Ad} {H : Hp} : ∀ (p : P) (v : V), datP p = true → Rep K rhx M H p v → Dp K H v (toD p)
  | .non, v, _, r => by cases (show v = .non from r); exact .non
  | .bl b, v, _, r => by cases (show v = .bl b from r); exact .bl b
  | .int i, v, _, r => by cases (show v = .int i from r); exact .int i
  | .str x, v, _, r => by cases (show v = .str x from r); exact .str x
  | .tup ps, v, d, r => by
    obtain ⟨a, vs, rfl, s, q⟩ := r
    exact .tup s (dps_of ps vs d q)
  | .lst ps, v, d, r => by
    obtain ⟨a, vs, rfl, s, n, q⟩ := r
    exact .lst (SqL.of s) (dps_of ps vs d q)
  | .box _, _, d, _ => by cases d
  | .fro _, _, d, _ => by cases d
theorem dps_of {rhx : List Addr} {M : Ad} {H : Hp} : ∀ (ps : List P) (vs : List V), datPs ps = true → Reps K rhx M H ps vs → DpAll K H vs (toDs ps)
  | [], vs, _, r => by cases (show vs = [] from r); exact .nil
  | p :: ps, vs, d, r => by
    obtain ⟨v, r', rfl, h1, h2⟩ := r
    have d' : (datP p && datPs ps) = true := d
    rw [Bool.and_eq_true] at d'
    exact .cons (dp_of p v d'.1 h1) (dps_of ps r' d'.2 h2)
end
def okD (p : P) : Bool := datP p && SeqAt.shaped (toD p)
def eqB : P → P → Option Bool
  | .int i, .int j => some (decide (i = j))
  | .str i, .str j => some (decide (i = j))
  | .bl i, .bl j => some (decide (i = j))
  | .non, .non => some true
  | .non, .int _ => some false
  | .int _, .non => some false
  | .non, .str _ => some false
  | .str _, .non => some false
  | p, q => if okD p && okD q then some (PyData.eqv (toD p) (toD q)) else none
def eqP : Bx → P → P → Option P := fun _ p q => (eqB p q).map .bl
def neP : Bx → P → P → Option P := fun _ p q => (eqB p q).map fun k => .bl (!k)
def rEqA (K : Frag) : R2 := fun x y H Q => rEq x y H Q ∨ rEqD K x y H Q
def rNeA (K : Frag) : R2 := fun x y H Q => rNe x y H Q ∨ rNeD K x y H Q
theorem o_eq (hu : X.A.units + 64 < cLine) (hK : X.K = K := by rfl) : OpR X (compareOp .Eq) (rEqA K) := by
  subst hK
  exact op_eq.or (op_eqD hu)
theorem o_ne (hu : X.A.units + 64 < cLine) (hK : X.K = K := by rfl) : OpR X (compareOp .NotEq) (rNeA K) := by
  subst hK
  exact op_ne.or (op_neD hu)
theorem eqB_cases {rhx : List Addr} {M : Ad} {H : Hp} {p q : P} {x y : V} {k : Bool} (r1 : Rep K rhx M H p x) (r2 : Rep K rhx M H q y) (h : eqB p q = some k) : (scal x y = true ∧ decide (x = y) = k) ∨ (okD p = true ∧ okD q = true ∧ PyData.eqv (toD p) (toD q) = k) := by
  have gen : (if okD p && okD q then some (PyData.eqv (toD p) (toD q)) else none) = some k → (okD p = true ∧ okD q = true ∧ PyData.eqv (toD p) (toD q) = k) := fun h => by
    by_cases c : (okD p && okD q) = true
    · rw [if_pos c] at h
      rw [Bool.and_eq_true] at c
      exact ⟨c.1, c.2, Option.some.inj h⟩
    · rw [if_neg c] at h; cases h
  cases p <;> cases q <;> first
    | exact .inr (gen h)
    | (refine .inl ?_
       cases (show x = _ from r1)
       cases (show y = _ from r2)
       refine ⟨rfl, ?_⟩
       have e := Option.some.inj h
       rw [← e]
       simp)
theorem g_eq : OpG K (rEqA K) eqP := fun mg H rhx M b x y p q z Q w r1 r2 h k => by
  unfold eqP at h
  cases e : eqB p q with
  | none => rw [e] at h; cases h
  | some c =>
    rw [e] at h
    cases h
    have kk := k (.bl c) H .refl w rfl
    rcases eqB_cases r1 r2 e with ⟨s, d⟩ | ⟨o1, o2, d⟩
    · exact .inl ⟨s, by rw [d]; exact kk⟩
    · unfold okD at o1 o2
      rw [Bool.and_eq_true] at o1 o2
      exact .inr ⟨toD p, toD q, dp_of p x o1.1 r1, dp_of q y o2.1 r2, o1.2, o2.2, by rw [d]; exact kk⟩
theorem g_ne : OpG K (rNeA K) neP := fun mg H rhx M b x y p q z Q w r1 r2 h k => by
  unfold neP at h
  cases e : eqB p q with
  | none => rw [e] at h; cases h
  | some c =>
    rw [e] at h
    cases h
    have kk := k (.bl (!c)) H .refl w rfl
    rcases eqB_cases r1 r2 e with ⟨s, d⟩ | ⟨o1, o2, d⟩
    · exact .inl ⟨s, by rw [d]; exact kk⟩
    · unfold okD at o1 o2
      rw [Bool.and_eq_true] at o1 o2
      exact .inr ⟨toD p, toD q, dp_of p x o1.1 r1, dp_of q y o2.1 r2, o1.2, o2.2, by rw [d]; exact kk⟩
/-- x is None, is not None -/
def isNP : P → Bool
  | .non => true
  | _ => false
def isP : Bx → P → P → Option P
  | _, p, .non => some (.bl (isNP p))
  | _, _, _ => none
def isntP : Bx → P → P → Option P
  | _, p, .non => some (.bl (!isNP p))
  | _, _, _ => none
theorem isN_of {rhx : List Addr} {M : Ad} {H : Hp} {p : P} {x : V} (r : Rep K rhx M H p x) : decide (x = .non) = isNP p := by
  cases p with
  | non => cases (show x = _ from r); rfl
  | bl => cases (show x = _ from r); rfl
  | int => cases (show x = _ from r); rfl
  | str => cases (show x = _ from r); rfl
  | tup => obtain ⟨_, _, rfl, _⟩ := r; rfl
  | lst => obtain ⟨_, _, rfl, _⟩ := r; rfl
  | box => obtain ⟨_, rfl, _⟩ := r; rfl
  | fro => obtain ⟨_, rfl, _⟩ := r; rfl
theorem g_is : OpG K (fun x y H Q => y = .non ∧ Q (.bl (decide (x = .non))) H) isP := fun mg H rhx M b x y p q z Q w r1 r2 h k => by
  cases q with
  | non => cases h; exact ⟨r2, by rw [isN_of r1]; exact k _ H .refl w rfl⟩
  | _ => cases h
theorem g_isnt : OpG K (fun x y H Q => y = .non ∧ Q (.bl (!decide (x = .non))) H) isntP := fun mg H rhx M b x y p q z Q w r1 r2 h k => by
  cases q with
  | non => cases h; exact ⟨r2, by rw [isN_of r1]; exact k _ H .refl w rfl⟩
  | _ => cases h
end
end PV

namespace PV
open PySem L2 PyProof.Rows
section
variable {K : Frag} {mg : Mg} {W : WX} {X : Cx}
/-! ### items -/
def cellL (b : Bx) (i : Nat) : Option (List P) := match b[i]? with
  | some (.lst xs) => some xs
  | _ => none
def ixP : Bx → P → P → Option P
  | _, .tup xs, .int i => atI xs i
  | _, .lst xs, .int i => atI xs i
  | _, .str x, .int i => if x.length ≤ 16000000 then (atI x.cps.toList i).map fun c => .str ⟨#[c]⟩ else none
  | b, .box n, .int i => (cellL b n).bind fun xs => atI xs i
  | _, _, _ => none
theorem Reps.atI {rhx : List Addr} {M : Ad} {H : Hp} {ps : List P} {vs : List V} {i : Int} {p : P} (r : Reps K rhx M H ps vs) (h : atI ps i = some p) : ∃ v, L2.atI vs i = some v ∧ Rep K rhx M H p v := by
  unfold L2.atI at h ⊢
  rw [r.length]
  cases q : ixN ps.length i with
  | none => rw [q] at h; cases h
  | some j =>
    rw [q] at h
    exact r.get h
theorem box_list {H : Hp} {rhx : List Addr} {M : Ad} {b : Bx} {n : Nat} {xs : List P} {x : V} (w : Wd K mg H rhx M b) (r : Rep K rhx M H (.box n) x) (h : cellL b n = some xs) : ∃ a vs, x = .ref a ∧ rhx[n]? = some a ∧ H a = some (.lst vs) ∧ Reps K rhx M H xs vs := by
  obtain ⟨a, rfl, ha⟩ := r
  unfold cellL at h
  cases q : b[n]? with
  | none => rw [q] at h; cases h
  | some c =>
    rw [q] at h
    cases c with
    | ins C fs => cases h
    | lst ys =>
      cases h
      obtain ⟨vs, h1, r⟩ := w.cel n a _ ha q
      exact ⟨a, vs, rfl, ha, h1, r⟩
theorem o_ix (hK : X.K = K := by rfl) : IxR X (rIx K) := by
  subst hK
  exact ix_seq
theorem g_ix : OpG K (rIx K) ixP := fun mg H rhx M b x y p q z Q w r1 r2 h k => by
  cases q with
  | int i =>
    cases p with
    | tup xs =>
      obtain ⟨a, vs, rfl, s1, q1⟩ := r1
      obtain ⟨v, hv, rv⟩ := q1.atI h
      exact .inr (.inl ⟨a, vs, i, v, rfl, r2, s1, hv, k _ H .refl w rv⟩)
    | lst xs =>
      obtain ⟨a, vs, rfl, s1, n, q1⟩ := r1
      obtain ⟨v, hv, rv⟩ := q1.atI h
      exact .inl ⟨a, vs, i, v, rfl, r2, SqL.of s1, hv, k _ H .refl w rv⟩
    | box n =>
      simp only [ixP] at h
      cases hc : cellL b n with
      | none => rw [hc] at h; cases h
      | some xs =>
        rw [hc] at h
        obtain ⟨a, vs, rfl, ha, h1, q1⟩ := box_list w r1 hc
        obtain ⟨v, hv, rv⟩ := q1.atI h
        exact .inl ⟨a, vs, i, v, rfl, r2, SqL.of h1, hv, k _ H .refl w rv⟩
    | str s =>
      simp only [ixP] at h
      split at h
      · rename_i hl
        cases hc : atI s.cps.toList i with
        | none => rw [hc] at h; cases h
        | some c =>
          rw [hc] at h
          cases h
          exact .inr (.inr ⟨s, i, c, r1, r2, line16 hl, hc, k _ H .refl w rfl⟩)
      · cases h
    | _ => cases h
  | _ => cases p <;> cases h
/-! ### slices -/
abbrev FOpt := Env → Bx → Out (Option Int)
structure QU (K : Frag) (mg : Mg) (W : WX) (X : Cx) (e : Option Expr) (t : TO) (f : FOpt) : Prop where
  pe : PO X e t
  sem : ∀ (N0 : Ad) (sgm : L2.St) (env : Env) (b : Bx) (H : Hp) (rhx : List Addr) (M : Ad) (Q : Option Int → Hp → Prop), Wd K mg H rhx M b → EnvOk K rhx M H N0 sgm env → Post K mg W sgm H rhx M (fun _ _ _ (a c : Option Int) => a = c) (f env b) Q → t sgm H Q
def qNone : FOpt := fun _ b => .ok none b
def qSome (fe : FE) : FOpt := fun env b => (fe env b).bind fun p b1 => match p with
  | .int i => .ok (some i) b1
  | _ => .no
theorem qu_none : QU K mg W X none tNoPart qNone := ⟨po_none, fun N0 sgm env b H rhx M Q w e h => h none H rhx M .refl w rfl⟩
theorem qu_some {e : Expr} {te : TE} {fe : FE} (h : PU K mg W X e te fe) : QU K mg W X (some e) (tPart te) (qSome fe) := ⟨po_some h.pe, fun N0 sgm env b H rhx M Q w en hh => by
  refine h.sem N0 sgm env b H rhx M _ w en (Post.bind hh fun p b1 x H1 rhx1 M1 st w1 r1 h1 => ?_)
  cases p with
  | int i => exact ⟨i, r1, h1 _ H1 rhx1 M1 .refl w1 rfl⟩
  | _ => exact h1.elim⟩
def cutP {α : Type} (xs : List α) (lo hi : Option Int) : List α := (xs.drop (HT.sIx xs.length 0 lo)).take (HT.sIx xs.length xs.length hi - HT.sIx xs.length 0 lo)
def slP (b : Bx) (p : P) (lo hi : Option Int) : Option P := match p with
  | .tup xs => some (.tup (cutP xs lo hi))
  | .lst xs => some (.lst (cutP xs lo hi))
  | .str x => if x.length ≤ 16000000 then some (.str (cutS x lo hi)) else none
  | .fro ns => some (.lst ((cutP ns lo hi).map .int))
  | .box n => (cellL b n).map fun xs => .lst (cutP xs lo hi)
  | _ => none
def eSl (fe : FE) (fl fh : FOpt) : FE := fun env b => (fe env b).bind fun p b1 => (fl env b1).bind fun lo b2 => (fh env b2).bind fun hi b3 => ofO (slP b3 p lo hi) b3
def rSlAny (K : Frag) : V → Option Int → Option Int → Hp → VK → Prop := fun x lo hi H Q => rSlL K x lo hi H Q ∨ rSlA K x lo hi H Q ∨ rSlS x lo hi H Q
theorem Reps.cut {rhx : List Addr} {M : Ad} {H : Hp} {ps : List P} {vs : List V} (r : Reps K rhx M H ps vs) (lo hi : Option Int) : Reps K rhx M H (cutP ps lo hi) (cutV vs lo hi) := by
  unfold cutP cutV
  rw [r.length]
  exact (r.drop _).take _
theorem cut_map {α β : Type} (f : α → β) (xs : List α) (lo hi : Option Int) : cutP (xs.map f) lo hi = (cutP xs lo hi).map f := by
  unfold cutP
  rw [List.length_map, ← List.map_drop, List.map_take]
theorem cut_whole {α : Type} {xs : List α} {lo hi : Option Int} (h : HT.sIx xs.length 0 lo = 0 ∧ HT.sIx xs.length xs.length hi = xs.length) : cutP xs lo hi = xs := by
  unfold cutP
  rw [h.1, h.2]
  simp
theorem pu_sl {e : Expr} {lo hi : Option Expr} {te : TE} {tl th : TO} {fe : FE} {fl fh : FOpt} {p2 pos : Pos} (he : PU K mg W X e te fe) (hl : QU K mg W X lo tl fl) (hh : QU K mg W X hi th fh) (hK : X.K = K := by rfl) : PU K mg W X (.Subscript e (.Slice lo hi none p2) pos) (tSl (rSlAny K) te tl th) (eSl fe fl fh) := by
  subst hK
  refine ⟨pe_slice (sl_list.or (sl_tupA.or sl_str)) he.pe hl.pe hh.pe, fun N0 sgm env b H rhx M Q w en h => ?_⟩
  refine he.sem N0 sgm env b H rhx M _ w en (Post.bind h fun p b1 x H1 rhx1 M1 st1 w1 r1 h1 => ?_)
  have en1 := en.step w st1
  refine hl.sem N0 sgm env b1 H1 rhx1 M1 _ w1 en1 (Post.bind h1 fun lo b2 lo' H2 rhx2 M2 st2 w2 e2 h2 => ?_)
  cases e2
  refine hh.sem N0 sgm env b2 H2 rhx2 M2 _ w2 (en1.step w1 st2) (Post.bind h2 fun hi b3 hi' H3 rhx3 M3 st3 w3 e3 h3 => ?_)
  cases e3
  have r3 := Rep.step w2.mu (st3.toS w2.box) _ _ (Rep.step w1.mu (st2.toS w1.box) _ _ r1)
  cases hz : slP b3 p lo hi with
  | none => rw [hz] at h3; exact h3.elim
  | some z =>
    rw [hz] at h3
    have k : ∀ v H', StepE H3 rhx3 M3 H' rhx3 M3 → Wd X.K mg H' rhx3 M3 b3 → Rep X.K rhx3 M3 H' z v → Q v H' := fun v H' s w r => h3 v H' rhx3 M3 s w r
    cases p with
    | tup xs =>
      cases hz
      obtain ⟨a, vs, rfl, s1, q1⟩ := id r3
      refine .inr (.inl ⟨a, vs, rfl, s1, fun hw => ?_, fun hw p hp => k _ _ (StepE.newO w3 hp) (w3.newO hp) (newTup w3 (q1.cut lo hi) hp)⟩)
      rw [q1.length] at hw
      have := k (.ref a) H3 .refl w3 (by rw [cut_whole hw]; exact r3)
      exact this
    | lst xs =>
      cases hz
      obtain ⟨a, vs, rfl, s1, n, q1⟩ := id r3
      exact .inl ⟨a, vs, rfl, SqL.of s1, fun p hp => k _ _ (StepE.newO w3 hp) (w3.newO hp) (newLst w3 (q1.cut lo hi) hp)⟩
    | box n =>
      simp only [slP] at hz
      cases hc : cellL b3 n with
      | none => rw [hc] at hz; cases hz
      | some xs =>
        rw [hc] at hz
        cases hz
        obtain ⟨a, vs, rfl, ha, h1, q1⟩ := box_list w3 r3 hc
        exact .inl ⟨a, vs, rfl, SqL.of h1, fun p hp => k _ _ (StepE.newO w3 hp) (w3.newO hp) (newLst w3 (q1.cut lo hi) hp)⟩
    | fro ns =>
      cases hz
      obtain ⟨a, rfl, h1⟩ := r3
      have e : cutV (ns.map V.int) lo hi = (cutP ns lo hi).map V.int := by
        have := cut_map V.int ns lo hi
        exact this
      refine .inl ⟨a, ns.map V.int, rfl, h1.seq, fun p hp => ?_⟩
      rw [e]
      exact k _ _ (StepE.newO w3 hp) (w3.newO hp) (newLst w3 (Reps.ofInts _) hp)
    | str s =>
      simp only [slP] at hz
      split at hz
      · rename_i hl
        cases hz
        exact .inr (.inr ⟨s, r3, line16 hl, k _ H3 .refl w3 rfl⟩)
      · cases hz
    | _ => cases hz
/-! ### built-in calls -/
def lenP : Bx → List P → Option P
  | _, [.tup xs] => some (.int xs.length)
  | _, [.lst xs] => some (.int xs.length)
  | _, [.fro ns] => some (.int ns.length)
  | _, [.str x] => if x.length ≤ 16000000 then some (.int x.length) else none
  | b, [.box n] => (cellL b n).map fun xs => .int xs.length
  | _, _ => none
theorem Reps.one_inv {rhx : List Addr} {M : Ad} {H : Hp} {p : P} {vs : List V} (r : Reps K rhx M H [p] vs) : ∃ v, vs = [v] ∧ Rep K rhx M H p v := by
  obtain ⟨v, r', rfl, h1, h2⟩ := r
  cases (show r' = [] from h2)
  exact ⟨v, rfl, h1⟩
theorem o_len (hK : X.K = K := by rfl) : CallR X (.builtin "len") (fun xs H Q => ∃ x n, xs = [x] ∧ LenV K x H n ∧ Q (.int n) H) := by
  subst hK
  exact call_len
theorem g_len : CallG K (fun xs H Q => ∃ x n, xs = [x] ∧ LenV K x H n ∧ Q (.int n) H) lenP := fun mg H rhx M b xs ps z Q w r h k => by
  match ps, h with
  | [.tup ys], h =>
    cases h
    obtain ⟨v, rfl, a, vs, rfl, s1, q1⟩ := r.one_inv
    exact ⟨_, vs.length, rfl, .inr ⟨vs, s1, rfl⟩, by rw [q1.length]; exact k _ H .refl w rfl⟩
  | [.lst ys], h =>
    cases h
    obtain ⟨v, rfl, a, vs, rfl, s1, n, q1⟩ := r.one_inv
    exact ⟨_, vs.length, rfl, .inl ⟨vs, SqL.of s1, rfl⟩, by rw [q1.length]; exact k _ H .refl w rfl⟩
  | [.fro ns], h =>
    cases h
    obtain ⟨v, rfl, a, rfl, s1⟩ := r.one_inv
    exact ⟨_, (ns.map V.int).length, rfl, .inl ⟨ns.map V.int, s1.seq, rfl⟩, by rw [List.length_map]; exact k _ H .refl w rfl⟩
  | [.str s], h =>
    simp only [lenP] at h
    split at h
    · rename_i hl
      cases h
      obtain ⟨v, rfl, e⟩ := r.one_inv
      cases (show v = .str s from e)
      exact ⟨_, s.length, rfl, ⟨line16 hl, rfl⟩, k _ H .refl w rfl⟩
    · cases h
  | [.box n], h =>
    simp only [lenP] at h
    cases hc : cellL b n with
    | none => rw [hc] at h; cases h
    | some ys =>
      rw [hc] at h
      cases h
      obtain ⟨v, rfl, e⟩ := r.one_inv
      obtain ⟨a, vs, rfl, ha, h1, q1⟩ := box_list w e hc
      exact ⟨_, vs.length, rfl, .inl ⟨vs, SqL.of h1, rfl⟩, by rw [q1.length]; exact k _ H .refl w rfl⟩
def absP : Bx → List P → Option P
  | _, [.int i] => some (.int (if i < 0 then -i else i))
  | _, _ => none
theorem g_abs : CallG K (fun xs H Q => ∃ i, xs = [.int i] ∧ Q (.int (if i < 0 then -i else i)) H) absP := fun mg H rhx M b xs ps z Q w r h k => by
  match ps, h with
  | [.int i], h =>
    cases h
    obtain ⟨v, rfl, e⟩ := r.one_inv
    cases (show v = .int i from e)
    exact ⟨i, rfl, k _ H .refl w rfl⟩
theorem Reps.two_inv {rhx : List Addr} {M : Ad} {H : Hp} {p q : P} {vs : List V} (r : Reps K rhx M H [p, q] vs) : ∃ v u, vs = [v, u] ∧ Rep K rhx M H p v ∧ Rep K rhx M H q u := by
  obtain ⟨v, r', rfl, h1, h2⟩ := r
  obtain ⟨u, rfl, h3⟩ := Reps.one_inv h2
  exact ⟨v, u, rfl, h1, h3⟩
/-- int(n), int(text) -/
def intP : Bx → List P → Option P
  | _, [.int i] => some (.int i)
  | _, [.bl k] => some (.int (if k then 1 else 0))
  | _, [.str x] => if x.length ≤ 640 then (PySem.intText? x).map .int else none
  | _, _ => none
def rIntA : List V → Hp → VK → Prop := fun xs H Q => ((∃ i, xs = [.int i] ∧ Q (.int i) H) ∨ ∃ k, xs = [.bl k] ∧ Q (.int (if k then 1 else 0)) H) ∨ ∃ a n, xs = [.str a] ∧ PySem.intText? a = some n ∧ a.length ≤ 640 ∧ Q (.int n) H
theorem CallR.or {f : Value} {r r' : List V → Hp → VK → Prop} (h : CallR X f r) (h' : CallR X f r') : CallR X f (fun xs H Q => r xs H Q ∨ r' xs H Q) := by
  intro pins s sgm H xs us Q I rv q
  rcases q with q | q
  · exact h pins s sgm H xs us Q I rv q
  · exact h' pins s sgm H xs us Q I rv q
theorem o_int : CallR X (.type "int") rIntA := CallR.or call_int1 call_int_str
theorem g_intc : CallG K rIntA intP := fun mg H rhx M b xs ps z Q w r h k => by
  match ps, h with
  | [.int i], h =>
    cases h
    obtain ⟨v, rfl, e⟩ := r.one_inv
    cases (show v = .int i from e)
    exact .inl (.inl ⟨i, rfl, k _ H .refl w rfl⟩)
  | [.bl i], h =>
    cases h
    obtain ⟨v, rfl, e⟩ := r.one_inv
    cases (show v = .bl i from e)
    exact .inl (.inr ⟨i, rfl, k _ H .refl w rfl⟩)
  | [.str i], h =>
    simp only [intP] at h
    split at h
    · rename_i hl
      cases hc : PySem.intText? i with
      | none => rw [hc] at h; cases h
      | some n =>
        rw [hc] at h
        cases h
        obtain ⟨v, rfl, e⟩ := r.one_inv
        cases (show v = .str i from e)
        exact .inr ⟨i, n, rfl, hc, hl, k _ H .refl w rfl⟩
    · cases h
/-- str(n) -/
def strP : Bx → List P → Option P
  | _, [.int i] => if i.natAbs.log2 < 1920 then some (.str (toString i)) else none
  | _, _ => none
theorem g_str : CallG K (fun xs H Q => ∃ i, xs = [.int i] ∧ i.natAbs.log2 < 1920 ∧ Q (.str (toString i)) H) strP := fun mg H rhx M b xs ps z Q w r h k => by
  match ps, h with
  | [.int i], h =>
    simp only [strP] at h
    split at h
    · rename_i hl
      cases h
      obtain ⟨v, rfl, e⟩ := r.one_inv
      cases (show v = .int i from e)
      exact ⟨i, rfl, hl, k _ H .refl w rfl⟩
    · cases h
/-- all, any, sum of a list -/
def allP : Bx → List P → Option P
  | _, [.lst xs] => (blsOf xs).map fun bs => .bl (bs.all id)
  | _, _ => none
def anyP : Bx → List P → Option P
  | _, [.lst xs] => (blsOf xs).map fun bs => .bl (bs.any id)
  | _, _ => none
def sumP : Bx → List P → Option P
  | _, [.lst xs] => (intsOf xs).map fun bs => .int bs.sum
  | _, _ => none
theorem o_all (hc : X.calm = true) (hK : X.K = K := by rfl) : CallR X (.builtin "all") (rAll K) := by
  subst hK; exact cr_all hc
theorem o_any (hc : X.calm = true) (hK : X.K = K := by rfl) : CallR X (.builtin "any") (rAny K) := by
  subst hK; exact cr_any hc
theorem o_sum (hc : X.calm = true) (hK : X.K = K := by rfl) : CallR X (.builtin "sum") (rSum K) := by
  subst hK; exact cr_sum hc
theorem g_all : CallG K (rAll K) allP := fun mg H rhx M b xs ps z Q w r h k => by
  match ps, h with
  | [.lst ys], h =>
    simp only [allP] at h
    cases hb : blsOf ys with
    | none => rw [hb] at h; cases h
    | some bs =>
      rw [hb] at h
      cases h
      obtain ⟨v, rfl, a, vs, rfl, s1, n, q1⟩ := r.one_inv
      rw [blsOf_some hb] at q1
      rw [q1.bls] at s1
      exact ⟨a, bs, rfl, SqL.of s1, k _ H .refl w rfl⟩
theorem g_any : CallG K (rAny K) anyP := fun mg H rhx M b xs ps z Q w r h k => by
  match ps, h with
  | [.lst ys], h =>
    simp only [anyP] at h
    cases hb : blsOf ys with
    | none => rw [hb] at h; cases h
    | some bs =>
      rw [hb] at h
      cases h
      obtain ⟨v, rfl, a, vs, rfl, s1, n, q1⟩ := r.one_inv
      rw [blsOf_some hb] at q1
      rw [q1.bls] at s1
      exact ⟨a, bs, rfl, SqL.of s1, k _ H .refl w rfl⟩
theorem g_sum : CallG K (rSum K) sumP := fun mg H rhx M b xs ps z Q w r h k => by
  match ps, h with
  | [.lst ys], h =>
    simp only [sumP] at h
    cases hb : intsOf ys with
    | none => rw [hb] at h; cases h
    | some bs =>
      rw [hb] at h
      cases h
      obtain ⟨v, rfl, a, vs, rfl, s1, n, q1⟩ := r.one_inv
      rw [intsOf_some hb] at q1
      rw [q1.ints] at s1
      exact ⟨a, bs, rfl, SqL.of s1, k _ H .refl w rfl⟩
/-- tuple(list), tuple(tuple) -/
def tupleP : Bx → List P → Option P
  | _, [.lst xs] => some (.tup xs)
  | _, [.tup xs] => some (.tup xs)
  | b, [.box n] => (cellL b n).map .tup
  | _, _ => none
theorem o_tuple (hK : X.K = K := by rfl) : CallR X (.type "tuple") (fun xs H Q => ∃ p ys, xs = [.ref p] ∧ ((SqL K H p ys ∧ ∀ l, H l = none → Q (.ref l) (upd H l (.tup ys))) ∨ (SqT K H p ys ∧ Q (.ref p) H))) := by
  subst hK; exact call_tuple_of
theorem g_tuple : CallG K (fun xs H Q => ∃ p ys, xs = [.ref p] ∧ ((SqL K H p ys ∧ ∀ l, H l = none → Q (.ref l) (upd H l (.tup ys))) ∨ (SqT K H p ys ∧ Q (.ref p) H))) tupleP := fun mg H rhx M b xs ps z Q w r h k => by
  match ps, h with
  | [.lst ys], h =>
    cases h
    obtain ⟨v, rfl, a, vs, rfl, s1, n, q1⟩ := r.one_inv
    exact ⟨a, vs, rfl, .inl ⟨SqL.of s1, fun p hp => k _ _ (StepE.newO w hp) (w.newO hp) (newTup w q1 hp)⟩⟩
  | [.tup ys], h =>
    cases h
    obtain ⟨v, rfl, rr⟩ := r.one_inv
    obtain ⟨a, vs, rfl, s1, q1⟩ := id rr
    exact ⟨a, vs, rfl, .inr ⟨s1, k _ H .refl w rr⟩⟩
  | [.box n], h =>
    simp only [tupleP] at h
    cases hc : cellL b n with
    | none => rw [hc] at h; cases h
    | some ys =>
      rw [hc] at h
      cases h
      obtain ⟨v, rfl, e⟩ := r.one_inv
      obtain ⟨a, vs, rfl, ha, h1, q1⟩ := box_list w e hc
      exact ⟨a, vs, rfl, .inl ⟨SqL.of h1, fun p hp => k _ _ (StepE.newO w hp) (w.newO hp) (newTup w q1 hp)⟩⟩
/-- list(xs): a new list -/
def listP : Bx → List P → Option (List P)
  | _, [.lst xs] => some xs
  | _, [.tup xs] => some xs
  | _, [.fro ns] => some (ns.map .int)
  | b, [.box n] => cellL b n
  | _, _ => none
theorem o_list (hK : X.K = K := by rfl) : CallR X (.type "list") (fun xs H Q => ∃ p ys, xs = [.ref p] ∧ (SqL K H p ys ∨ SqT K H p ys) ∧ ∀ l, H l = none → Q (.ref l) (upd H l (.lst ys))) := by
  subst hK; exact call_list_of
theorem g_list : LstG K (fun xs H Q => ∃ p ys, xs = [.ref p] ∧ (SqL K H p ys ∨ SqT K H p ys) ∧ ∀ l, H l = none → Q (.ref l) (upd H l (.lst ys))) listP := fun mg H rhx M b xs ps z Q w r h k => by
  match ps, h with
  | [.lst ys], h =>
    cases h
    obtain ⟨v, rfl, a, vs, rfl, s1, n, q1⟩ := r.one_inv
    exact ⟨a, vs, rfl, .inl (SqL.of s1), fun p hp => k _ _ q1 hp⟩
  | [.tup ys], h =>
    cases h
    obtain ⟨v, rfl, a, vs, rfl, s1, q1⟩ := r.one_inv
    exact ⟨a, vs, rfl, .inr s1, fun p hp => k _ _ q1 hp⟩
  | [.fro ns], h =>
    cases h
    obtain ⟨v, rfl, a, rfl, s1⟩ := r.one_inv
    exact ⟨a, _, rfl, .inl s1.seq, fun p hp => k _ _ (Reps.ofInts ns) hp⟩
  | [.box n], h =>
    obtain ⟨v, rfl, e⟩ := r.one_inv
    obtain ⟨a, vs, rfl, ha, h1, q1⟩ := box_list w e (show cellL b n = some z from h)
    exact ⟨a, vs, rfl, .inl (SqL.of h1), fun p hp => k _ _ q1 hp⟩
end
end PV

namespace PV
open PySem L2 PyProof.Rows
section
variable {K : Frag} {mg : Mg} {W : WX} {X : Cx} {a c e o e1 e2 : Expr} {ta tb tc te to : TE} {fa fb fc fe fo : FE} {pos apos : Pos}
/-! ### a < b < c -/
def eChain (g g' : Bx → P → P → Option P) (fa fb fc : FE) : FE := fun env b => (fa env b).bind fun p b1 => (fb env b1).bind fun q b2 => match g b2 p q with
  | some (.bl true) => (fc env b2).bind fun r b3 => ofO (g' b3 q r) b3
  | some (.bl false) => .ok (.bl false) b2
  | _ => .no
theorem semChain {r r' : R2} {g g' : Bx → P → P → Option P} (hg : OpG K r g) (hg' : OpG K r' g') (sa : SemE K mg W ta fa) (sb : SemE K mg W tb fb) (sc : SemE K mg W tc fc) : SemE K mg W (tChain r r' ta tb tc) (eChain g g' fa fb fc) := fun N0 sgm env b H rhx M Q w e h => by
  refine sa N0 sgm env b H rhx M _ w e (Post.bind h fun p b1 x H1 rhx1 M1 st w1 r1 h1 => ?_)
  have en1 := e.step w st
  refine sb N0 sgm env b1 H1 rhx1 M1 _ w1 en1 (Post.bind h1 fun q b2 y H2 rhx2 M2 st2 w2 r2 h2 => ?_)
  have en2 := en1.step w1 st2
  cases hz : g b2 p q with
  | none => rw [hz] at h2; exact h2.elim
  | some z =>
    rw [hz] at h2
    cases z with
    | bl k =>
      refine hg mg H2 rhx2 M2 b2 x y p q _ _ w2 (Rep.step w1.mu (st2.toS w1.box) _ _ r1) r2 hz fun v H3 st3 w3 r3 => ⟨k, r3, ?_⟩
      have en3 := en2.step w2 st3
      cases k with
      | false => exact h2 _ H3 rhx2 M2 st3 w3 rfl
      | true =>
        refine sc N0 sgm env b2 H3 rhx2 M2 _ w3 en3 (Post.bind (Post.later st3 h2) fun rr b4 z4 H4 rhx4 M4 st4 w4 r4 h4 => ?_)
        cases hz2 : g' b4 q rr with
        | none => rw [hz2] at h4; exact h4.elim
        | some z2 =>
          rw [hz2] at h4
          have rq := Rep.step w3.mu (st4.toS w3.box) _ _ (Rep.step w2.mu (st3.toS w2.box) _ _ r2)
          exact hg' mg H4 rhx4 M4 b4 y z4 q rr z2 Q w4 rq r4 hz2 fun v H' s w r => h4 v H' rhx4 M4 s w r
    | _ => exact h2.elim
theorem pu_chain {op op' : CmpOp} {r r' : R2} {g g' : Bx → P → P → Option P} (ho : OpR X (compareOp op) r) (ho' : OpR X (compareOp op') r') (hg : OpG K r g) (hg' : OpG K r' g') (ha : PU K mg W X a ta fa) (hb : PU K mg W X c tb fb) (hc : PU K mg W X e tc fc)
    (hm : lastMarks [op, op'] [c, e] = false := by with_unfolding_all rfl) : PU K mg W X (.Compare a [op, op'] [c, e] pos) (tChain r r' ta tb tc) (eChain g g' fa fb fc) := ⟨pe_chain ho ho' ha.pe hb.pe hc.pe hm, semChain hg hg' ha.sem hb.sem hc.sem⟩
theorem tu_chain {op op' : CmpOp} {r r' : R2} {g g' : Bx → P → P → Option P} (ho : OpR X (compareOp op) r) (ho' : OpR X (compareOp op') r') (hg : OpG K r g) (hg' : OpG K r' g') (ha : PU K mg W X a ta fa) (hb : PU K mg W X c tb fb) (hc : PU K mg W X e tc fc)
    (hm : lastMarks [op, op'] [c, e] = false := by with_unfolding_all rfl) : TU K mg W X (.Compare a [op, op'] [c, e] pos) (tTest (tChain r r' ta tb tc)) (tVal (eChain g g' fa fb fc)) := ⟨pt_chain ho ho' ha.pe hb.pe hc.pe hm, fun N0 sgm env b H rhx M Q w e h => by
    refine semChain hg hg' ha.sem hb.sem hc.sem N0 sgm env b H rhx M _ w e (Post.bind h fun p b1 x H1 rhx1 M1 st w1 r1 h1 => ?_)
    cases p with
    | bl k => exact ⟨k, r1, h1 k H1 rhx1 M1 .refl w1 rfl⟩
    | _ => exact h1.elim⟩
/-! ### isinstance of a built-in class -/
def tyP : P → Option String
  | .non => some "NoneType"
  | .bl _ => some "bool"
  | .int _ => some "int"
  | .str _ => some "str"
  | .tup _ => some "tuple"
  | .lst _ => some "list"
  | .fro _ => some "list"
  | .box _ => none
def isB (a T : String) : Bool := a == T || (a == "bool" && T == "int")
def isiP (T : String) : Bx → P → Option P
  | b, .box n => if T = "tuple" ∨ T = "int" ∨ T = "str" ∨ T = "bool" ∨ T = "list" then (cellL b n).map fun _ => .bl (T == "list") else none
  | _, p => if T = "tuple" ∨ T = "int" ∨ T = "str" ∨ T = "bool" ∨ T = "list" then (tyP p).map fun a => .bl (isB a T) else none
def eIsi (T : String) (fe : FE) : FE := eOp1 (isiP T) fe
theorem kit_all {a T : String} (ha : a = "NoneType" ∨ a = "bool" ∨ a = "int" ∨ a = "str" ∨ a = "tuple" ∨ a = "list") (hT : T = "tuple" ∨ T = "int" ∨ T = "str" ∨ T = "bool" ∨ T = "list") : PySem.W.kitOne K (.type a) (.type T) = some (isB a T) := by
  apply kit_ty
  rcases ha with rfl | rfl | rfl | rfl | rfl | rfl <;> rcases hT with rfl | rfl | rfl | rfl | rfl <;> decide +kernel
theorem tyX_of {rhx : List Addr} {M : Ad} {H : Hp} {p : P} {x : V} {T : String} (r : Rep K rhx M H p x) (h : tyP p = some T) : TyX K H x (.type T) ∧ (T = "NoneType" ∨ T = "bool" ∨ T = "int" ∨ T = "str" ∨ T = "tuple" ∨ T = "list") := by
  cases p with
  | non => cases (show x = _ from r); cases h; exact ⟨.base .non, by simp⟩
  | bl b => cases (show x = _ from r); cases h; exact ⟨.base (.bl b), by simp⟩
  | int i => cases (show x = _ from r); cases h; exact ⟨.base (.int i), by simp⟩
  | str s => cases (show x = _ from r); cases h; exact ⟨.base (.str s), by simp⟩
  | tup ps =>
    obtain ⟨a, vs, rfl, s, _⟩ := r
    cases h
    refine ⟨?_, by simp⟩
    rcases s with (s | ⟨o, s⟩) | ⟨o, its, n, s, hc, _⟩
    · exact .base (.tup s)
    · exact .fTuple s
    · exact .kTuple s hc
  | lst ps =>
    obtain ⟨a, vs, rfl, s, _⟩ := r
    cases h
    exact ⟨.base (.lst s), by simp⟩
  | fro ns =>
    obtain ⟨a, rfl, s⟩ := r
    cases h
    rcases s with ⟨o, s⟩ | ⟨o, its, n, s, hc, _⟩
    · exact ⟨.base (.frz s), by simp⟩
    · exact ⟨.kList s hc, by simp⟩
  | box i => cases h
theorem pu_isi {p1 p2 : Pos} {T : String} {x : Str} (he : PU K mg W X e te fe) (hm : X.mg "isinstance" = none) (hm2 : X.mg x = none) (hv2 : bootBuiltins x = some (.type T) := by decide +kernel) (hv : bootBuiltins "isinstance" = some (.builtin "isinstance") := by decide +kernel) (hg : Gl X "isinstance" := by rfl) (hg2 : Gl X x := by rfl) (hK : X.K = K := by rfl)
    (hs1 : starEach [e, .Name x p2] X.env = (false, eval e X.env) :: starEach [.Name x p2] X.env := by rfl) (hs2 : starEach [.Name x p2] X.env = (false, eval (.Name x p2) X.env) :: starEach [] X.env := by rfl) (hn : x ≠ "__name__" := by decide) (hd : (x == ("__debug__" : Str)) = false := by decide) (hpl : (backTo pos (starEach [.Name x p2] X.env)).any (·.1) = false := by rfl) :
    PU K mg W X (.Call (.Name "isinstance" p1) [e, .Name x p2] [] pos) (tCB (rIsi K) (tCons te (tCons (tC (.ty T)) tNil))) (eIsi T fe) := by
  subst hK
  refine ⟨pe_callB call_isi hg hm hv (pa_cons he.pe (pa_cons (pe_bltn hg2 hm2 hv2 rfl hn hd) pa_nil hs2) hs1) (by decide) (by decide) hs1 hpl, fun N0 sgm env b H rhx M Q w en h => ?_⟩
  refine he.sem N0 sgm env b H rhx M _ w en (Post.bind h fun p b1 v H1 rhx1 M1 st w1 r1 h1 => ?_)
  cases hz : isiP T b1 p with
  | none => rw [hz] at h1; exact h1.elim
  | some z =>
    rw [hz] at h1
    have gen : (∀ n, p ≠ .box n) → rIsi X.K [v, .ty T] H1 Q := fun nb => by
      have hz' : (if T = "tuple" ∨ T = "int" ∨ T = "str" ∨ T = "bool" ∨ T = "list" then (tyP p).map fun a => P.bl (isB a T) else none) = some z := by
        cases p with
        | box n => exact (nb n rfl).elim
        | _ => exact hz
      split at hz'
      · rename_i hT
        cases ht : tyP p with
        | none => rw [ht] at hz'; cases hz'
        | some a =>
          rw [ht] at hz'
          cases hz'
          obtain ⟨t1, t2⟩ := tyX_of r1 ht
          exact ⟨v, .ty T, .type a, .type T, isB a T, rfl, .ty T, t1, kit_all t2 hT, h1 _ H1 rhx1 M1 .refl w1 rfl⟩
      · cases hz'
    cases p with
    | box n =>
      simp only [isiP] at hz
      split at hz
      · rename_i hT
        cases hc : cellL b1 n with
        | none => rw [hc] at hz; cases hz
        | some ys =>
          rw [hc] at hz
          cases hz
          obtain ⟨a, vs, rfl, ha, h2, q1⟩ := box_list w1 r1 hc
          refine ⟨.ref a, .ty T, .type "list", .type T, isB "list" T, rfl, .ty T, .base (.lst h2), kit_all (by simp) hT, ?_⟩
          have : isB "list" T = (T == "list") := by
            rcases hT with rfl | rfl | rfl | rfl | rfl <;> decide
          rw [this]
          exact h1 _ H1 rhx1 M1 .refl w1 rfl
      · cases hz
    | _ => exact gen fun n z => nomatch z
/-! ### in, not in -/
def flatP : P → Bool
  | .non => true
  | .bl _ => true
  | .int _ => true
  | .str _ => true
  | _ => false
def hasD (xs : List P) (x : P) : Bool := xs.any fun y => PyData.eqv (toD y) (toD x)
def inB (b : Bx) (x y : P) : Option Bool := match y with
  | .str z => match x with
    | .str s => match s.cps.toList with
      | [c] => some (decide (c ∈ z.cps.toList))
      | _ => none
    | _ => none
  | .tup ys => if flatP x && ys.all flatP then some (hasD ys x) else none
  | .lst ys => if flatP x && ys.all flatP then some (hasD ys x) else if okD x && okD (.lst ys) then some (hasD ys x) else none
  | _ => none
def inP : Bx → P → P → Option P := fun b p q => (inB b p q).map .bl
def ninP : Bx → P → P → Option P := fun b p q => (inB b p q).map fun k => .bl (!k)
theorem flat_eqv {rhx : List Addr} {M : Ad} {H : Hp} {p q : P} {x y : V} (r1 : Rep K rhx M H p x) (r2 : Rep K rhx M H q y) (f1 : flatP p = true) (f2 : flatP q = true) : flatV x = true ∧ flatV y = true ∧ eqV y x = PyData.eqv (toD q) (toD p) := by
  cases p <;> cases q <;> first
    | exact absurd f1 Bool.false_ne_true
    | exact absurd f2 Bool.false_ne_true
    | (cases (show x = _ from r1)
       cases (show y = _ from r2)
       exact ⟨rfl, rfl, rfl⟩)
theorem flat_any {rhx : List Addr} {M : Ad} {H : Hp} {p : P} {x : V} (r1 : Rep K rhx M H p x) (f1 : flatP p = true) : ∀ {ys : List P} {vs : List V}, Reps K rhx M H ys vs → ys.all flatP = true → vs.all flatV = true ∧ inV x vs = hasD ys p
  | [], _, h, _ => by cases (show _ = [] from h); exact ⟨rfl, rfl⟩
  | q :: ys, _, h, f => by
    obtain ⟨v, r, rfl, h1, h2⟩ := h
    rw [List.all_cons, Bool.and_eq_true] at f
    obtain ⟨a1, a2, a3⟩ := flat_eqv r1 h1 f1 f.1
    obtain ⟨b1, b2⟩ := flat_any r1 f1 h2 f.2
    refine ⟨by rw [List.all_cons, a2, b1]; rfl, ?_⟩
    unfold inV hasD at b2 ⊢
    rw [List.any_cons, List.any_cons, a3, b2]
def rInA (K : Frag) : R2 := fun x y H Q => (∃ (c : Nat) (z : Str), x = .str ⟨#[c]⟩ ∧ y = .str z ∧ Q (.bl (decide (c ∈ z.cps.toList))) H) ∨ rIn K false x y H Q ∨ rInD K x y H Q
def rNInA (K : Frag) : R2 := fun x y H Q => (∃ (c : Nat) (z : Str), x = .str ⟨#[c]⟩ ∧ y = .str z ∧ Q (.bl (!decide (c ∈ z.cps.toList))) H) ∨ rIn K true x y H Q ∨ rNotInD K x y H Q
theorem o_in (hu : X.A.units + 65 < cLine) (hK : X.K = K := by rfl) : OpR X (compareOp .In) (rInA K) := by
  subst hK
  exact op_in_sign.or (op_in_seq.or (op_inD hu))
theorem o_nin (hu : X.A.units + 65 < cLine) (hK : X.K = K := by rfl) : OpR X (compareOp .NotIn) (rNInA K) := by
  subst hK
  exact op_notIn_sign.or (op_notIn_seq.or (op_notInD hu))
theorem any_toDs (ys : List P) (d : PyData) : (toDs ys).any (fun z => PyData.eqv z d) = ys.any fun y => PyData.eqv (toD y) d := by
  induction ys with
  | nil => rfl
  | cons y ys ih => simp [toDs, ih]
theorem inB_cases {rhx : List Addr} {M : Ad} {H : Hp} {p q : P} {x y : V} {b : Bx} {k : Bool} (r1 : Rep K rhx M H p x) (r2 : Rep K rhx M H q y) (h : inB b p q = some k) :
    (∃ (c : Nat) (z : Str), x = .str ⟨#[c]⟩ ∧ y = .str z ∧ decide (c ∈ z.cps.toList) = k) ∨ (∃ p xs, y = .ref p ∧ (SqL K H p xs ∨ SqT K H p xs) ∧ flatV x = true ∧ xs.all flatV = true ∧ inV x xs = k) ∨
    (∃ d ds, Dp K H x d ∧ Dp K H y (.list ds) ∧ SeqAt.shaped d = true ∧ SeqAt.shaped (.list ds) = true ∧ (ds.any fun z => PyData.eqv z d) = k) := by
  cases q with
  | str z =>
    cases p with
    | str s =>
      simp only [inB] at h
      split at h
      · rename_i c hc
        cases h
        cases (show y = _ from r2)
        cases (show x = _ from r1)
        refine .inl ⟨c, z, ?_, rfl, rfl⟩
        have : s = ⟨#[c]⟩ := Str.ext' (Array.toList_inj.mp (by rw [hc]))
        rw [this]
      · cases h
    | _ => cases h
  | tup ys =>
    simp only [inB] at h
    split at h
    · rename_i hf
      cases h
      rw [Bool.and_eq_true] at hf
      obtain ⟨a, vs, rfl, s1, q1⟩ := r2
      obtain ⟨b1, b2⟩ := flat_any r1 hf.1 q1 hf.2
      have fx := (flat_eqv r1 r1 hf.1 hf.1).1
      exact .inr (.inl ⟨a, vs, rfl, .inr s1, fx, b1, b2⟩)
    · cases h
  | lst ys =>
    simp only [inB] at h
    split at h
    · rename_i hf
      cases h
      rw [Bool.and_eq_true] at hf
      obtain ⟨a, vs, rfl, s1, n, q1⟩ := r2
      obtain ⟨b1, b2⟩ := flat_any r1 hf.1 q1 hf.2
      have fx := (flat_eqv r1 r1 hf.1 hf.1).1
      exact .inr (.inl ⟨a, vs, rfl, .inl (SqL.of s1), fx, b1, b2⟩)
    · split at h
      · rename_i hd
        cases h
        unfold okD at hd
        rw [Bool.and_eq_true, Bool.and_eq_true, Bool.and_eq_true] at hd
        exact .inr (.inr ⟨toD p, toDs ys, dp_of p x hd.1.1 r1, dp_of (.lst ys) y hd.2.1 r2, hd.1.2, hd.2.2, any_toDs ys _⟩)
      · cases h
  | _ => cases h
theorem g_in : OpG K (rInA K) inP := fun mg H rhx M b x y p q z Q w r1 r2 h k => by
  unfold inP at h
  cases e : inB b p q with
  | none => rw [e] at h; cases h
  | some c =>
    rw [e] at h
    cases h
    have kk := k (.bl c) H .refl w rfl
    rcases inB_cases r1 r2 e with ⟨ch, z, rfl, rfl, d⟩ | ⟨p', xs, e1, s, f1, f2, d⟩ | ⟨d1, ds, g1, g2, g3, g4, d⟩
    · exact .inl ⟨ch, z, rfl, rfl, by rw [d]; exact kk⟩
    · exact .inr (.inl ⟨p', xs, e1, s, f1, f2, by rw [d]; exact kk⟩)
    · exact .inr (.inr ⟨d1, ds, g1, g2, g3, g4, by rw [d]; exact kk⟩)
theorem g_nin : OpG K (rNInA K) ninP := fun mg H rhx M b x y p q z Q w r1 r2 h k => by
  unfold ninP at h
  cases e : inB b p q with
  | none => rw [e] at h; cases h
  | some c =>
    rw [e] at h
    cases h
    have kk := k (.bl (!c)) H .refl w rfl
    rcases inB_cases r1 r2 e with ⟨ch, z, rfl, rfl, d⟩ | ⟨p', xs, e1, s, f1, f2, d⟩ | ⟨d1, ds, g1, g2, g3, g4, d⟩
    · exact .inl ⟨ch, z, rfl, rfl, by rw [d]; exact kk⟩
    · exact .inr (.inl ⟨p', xs, e1, s, f1, f2, by rw [d]; exact kk⟩)
    · exact .inr (.inr ⟨d1, ds, g1, g2, g3, g4, by rw [d]; exact kk⟩)
/-! ### methods of texts -/
def eMet1 (g : P → P → Option P) (fo fe : FE) : FE := fun env b => (fo env b).bind fun p b0 => match p with
  | .str x => (fe env b0).bind fun q b1 => ofO (g (.str x) q) b1
  | _ => .no
def Met1G (K : Frag) (r : V → List V → Hp → VK → Prop) (g : P → P → Option P) : Prop := ∀ (mg : Mg) (H : Hp) (rhx : List Addr) (M : Ad) (b : Bx) (x : Str) (v : V) (q z : P) (Q : VK), Wd K mg H rhx M b → Rep K rhx M H q v → g (.str x) q = some z →
  (∀ v H', StepE H rhx M H' rhx M → Wd K mg H' rhx M b → Rep K rhx M H' z v → Q v H') → r (.str x) [v] H Q
theorem pu_met1 {id : String} {name : Str} {r : V → List V → Hp → VK → Prop} {g : P → P → Option P} (slot : PySem.Slot "str" name id) (ty : typeOf (.builtin id) = pure (.type "method_descriptor")) (rule : MtR X id r) (hg : Met1G K r g) (ho : PU K mg W X o to fo) (he : PU K mg W X e te fe)
    (hs : starEach [e] X.env = [(false, eval e X.env)] := by rfl) (hbase : attributeBase o name X.env (eval o X.env) = eval o X.env := by rfl) (hline : (apos.endLine == pos.line) = true := by rfl) :
    PU K mg W X (.Call (.Attribute o name apos) [e] [] pos) (tM1 r to te) (eMet1 g fo fe) := ⟨pe_m1 slot ty rule ho.pe he.pe hs hbase hline, fun N0 sgm env b H rhx M Q w en h => by
  refine ho.sem N0 sgm env b H rhx M _ w en (Post.bind h fun p b1 x H1 rhx1 M1 st w1 r1 h1 => ?_)
  cases p with
  | str s =>
    cases (show x = _ from r1)
    refine ⟨⟨s, rfl⟩, ?_⟩
    refine he.sem N0 sgm env b1 H1 rhx1 M1 _ w1 (en.step w st) (Post.bind h1 fun q b2 v H2 rhx2 M2 st2 w2 r2 h2 => ?_)
    cases hz : g (.str s) q with
    | none => rw [hz] at h2; exact h2.elim
    | some z =>
      rw [hz] at h2
      exact hg mg H2 rhx2 M2 b2 s v q z Q w2 r2 hz fun v H' s w r => h2 v H' rhx2 M2 s w r
  | _ => exact h1.elim⟩
def joinP : P → P → Option P
  | .str x, .lst ys => (strsOf ys).bind fun zs => if (zs.map (·.length)).sum + zs.length * x.length ≤ 16000000 then some (.str (Txt.join x zs)) else none
  | .str x, .tup ys => (strsOf ys).bind fun zs => if (zs.map (·.length)).sum + zs.length * x.length ≤ 16000000 then some (.str (Txt.join x zs)) else none
  | _, _ => none
def rJoin (K : Frag) : V → List V → Hp → VK → Prop := fun x xs H Q => ∃ a p, ∃ ys : List Str, x = .str a ∧ xs = [.ref p] ∧ (SqL K H p (ys.map V.str) ∨ SqT K H p (ys.map V.str)) ∧
    (ys.map (·.length)).sum + ys.length * a.length ≤ 16777216 ∧ Q (.str (Txt.join a ys)) H
theorem m_join (hK : X.K = K := by rfl) : MtR X "str.join" (rJoin K) := by subst hK; exact mt_join
theorem g_join : Met1G K (rJoin K) joinP := fun mg H rhx M b x v q z Q w r h k => by
  cases q with
  | lst ys =>
    simp only [joinP] at h
    cases hs : strsOf ys with
    | none => rw [hs] at h; cases h
    | some zs =>
      rw [hs] at h
      simp only [Option.bind_some] at h
      split at h
      · rename_i hl
        cases h
        obtain ⟨a, vs, rfl, s1, n, q1⟩ := r
        rw [strsOf_some hs] at q1
        rw [q1.strs] at s1
        exact ⟨x, a, zs, rfl, rfl, .inl (SqL.of s1), Nat.le_trans hl (by decide), k _ H .refl w rfl⟩
      · cases h
  | tup ys =>
    simp only [joinP] at h
    cases hs : strsOf ys with
    | none => rw [hs] at h; cases h
    | some zs =>
      rw [hs] at h
      simp only [Option.bind_some] at h
      split at h
      · rename_i hl
        cases h
        obtain ⟨a, vs, rfl, s1, q1⟩ := r
        rw [strsOf_some hs] at q1
        rw [q1.strs] at s1
        exact ⟨x, a, zs, rfl, rfl, .inr s1, Nat.le_trans hl (by decide), k _ H .refl w rfl⟩
      · cases h
  | _ => cases h
def splitP : P → P → Option P
  | .str x, .str y => if y.length ≠ 0 ∧ x.length ≤ 1000000 then some (.lst ((Txt.split x y).map .str)) else none
  | _, _ => none
def rSplit : V → List V → Hp → VK → Prop := fun x xs H Q => ∃ a b, x = .str a ∧ xs = [.str b] ∧ (b.length == 0) = false ∧ a.length + 2 ≤ sizeLine ∧ rNewStrs (Txt.split a b) H Q
theorem g_split : Met1G K rSplit splitP := fun mg H rhx M b x v q z Q w r h k => by
  cases q with
  | str y =>
    simp only [splitP] at h
    split at h
    · rename_i hl
      cases h
      cases (show v = _ from r)
      refine ⟨x, y, rfl, rfl, by simpa using hl.1, Nat.le_trans (Nat.add_le_add_right hl.2 2) (by decide), fun p hp => ?_⟩
      exact k _ _ (StepE.newO w hp) (w.newO hp) (newLst w (Reps.ofStrs _) hp)
    · cases h
  | _ => cases h
def partP : P → P → Option P
  | .str x, .str y => if y.length ≠ 0 ∧ x.length ≤ 1000000 then some (.tup [.str (Txt.partition x y).1, .str (Txt.partition x y).2.1, .str (Txt.partition x y).2.2]) else none
  | _, _ => none
def rPart : V → List V → Hp → VK → Prop := fun x xs H Q => ∃ a b, x = .str a ∧ xs = [.str b] ∧ (b.length == 0) = false ∧ a.length ≤ sizeLine ∧
    ∀ p, H p = none → Q (.ref p) (upd H p (.tup [.str (Txt.partition a b).1, .str (Txt.partition a b).2.1, .str (Txt.partition a b).2.2]))
theorem g_part : Met1G K rPart partP := fun mg H rhx M b x v q z Q w r h k => by
  cases q with
  | str y =>
    simp only [partP] at h
    split at h
    · rename_i hl
      cases h
      cases (show v = _ from r)
      refine ⟨x, y, rfl, rfl, by simpa using hl.1, line1 hl.2, fun p hp => ?_⟩
      exact k _ _ (StepE.newO w hp) (w.newO hp) (newTup w (vs := [.str (Txt.partition x y).1, .str (Txt.partition x y).2.1, .str (Txt.partition x y).2.2]) (ps := [.str (Txt.partition x y).1, .str (Txt.partition x y).2.1, .str (Txt.partition x y).2.2]) ⟨_, _, rfl, rfl, _, _, rfl, rfl, _, _, rfl, rfl, rfl⟩ hp)
    · cases h
  | _ => cases h
theorem pu_join (ho : PU K mg W X o to fo) (he : PU K mg W X e te fe) (hK : X.K = K := by rfl) (hs : starEach [e] X.env = [(false, eval e X.env)] := by rfl) (hbase : attributeBase o "join" X.env (eval o X.env) = eval o X.env := by rfl) (hline : (apos.endLine == pos.line) = true := by rfl) :
    PU K mg W X (.Call (.Attribute o "join" apos) [e] [] pos) (tM1 (rJoin K) to te) (eMet1 joinP fo fe) := pu_met1 PySem.F.slot_str_join PySem.F.type_str_join (m_join hK) g_join ho he hs hbase hline
theorem pu_split (ho : PU K mg W X o to fo) (he : PU K mg W X e te fe) (hs : starEach [e] X.env = [(false, eval e X.env)] := by rfl) (hbase : attributeBase o "split" X.env (eval o X.env) = eval o X.env := by rfl) (hline : (apos.endLine == pos.line) = true := by rfl) :
    PU K mg W X (.Call (.Attribute o "split" apos) [e] [] pos) (tM1 rSplit to te) (eMet1 splitP fo fe) := pu_met1 PySem.F.slot_str_split PySem.F.type_str_split mt_split g_split ho he hs hbase hline
theorem pu_partition (ho : PU K mg W X o to fo) (he : PU K mg W X e te fe) (hs : starEach [e] X.env = [(false, eval e X.env)] := by rfl) (hbase : attributeBase o "partition" X.env (eval o X.env) = eval o X.env := by rfl) (hline : (apos.endLine == pos.line) = true := by rfl) :
    PU K mg W X (.Call (.Attribute o "partition" apos) [e] [] pos) (tM1 rPart to te) (eMet1 partP fo fe) := pu_met1 PySem.F.slot_str_partition PySem.F.type_str_partition mt_partition g_part ho he hs hbase hline
end
end PV

namespace PVS
open PySem PySem.Spec PyProof.Rows L2
section
variable {P : Program} {w : World} {A : Around} {E : Value → Shared → Prop} {s : Shared}
theorem call_set_lstI {l : Addr} {items : Array Value} (ns : List Int) {Q : Value → Shared → Prop} (hh : A.handled = none) (hl : s.heap.IsList l items) (hit : IntsAre items.toList ns) (hb : ns.length + 1 < scanBound)
    (h : ∀ (h' : Heap) (tk c : Nat), SetR w h' s.heap.objs.size (fun j => decide (j ∈ ns)) c → c ≤ ns.length → (∀ b o, s.heap.get? b = some o → h'.get? b = some o) → Q (.ref s.heap.objs.size) { s with heap := h', toks := tk }) :
    wpAny (model P w) A (call (.type "set") [.ref l]) Q E s := by
  have hisz : items.size = ns.length := by
    have q := IntsAre.length hit
    rw [Array.length_toList] at q
    exact q
  obtain ⟨c, tl, hmro⟩ := F.called_set.mro
  have hmade := F.called_set.made
  have hsub := F.called_set.sub
  refine wpAny_call (codeAny_of_tree ?_)
  show wpAny _ _ (callAny (.type "set") _) _ _ _
  refine wpAny_pure ⟨Code.quiet_builtin _ (by decide +kernel), codeAny_builtin F.entry_type_call ?_⟩
  rw [Around.under_plain (weight_type_call_type "set" [.ref l] []) rfl]
  have h1 := F.called_set.notType
  have h2 := F.called_set.canCreate
  have hct := F.typeCall_set_1 (.ref l)
  repeat (any_goals (first | assumption | wp_step))

  refine codeAny_mono (code_set_led1 (.ref l) (E := E) (Q₁ := fun obj s₁ => obj = .ref s.heap.objs.size ∧ s₁ = { s with heap := s.heap.push { cls := .type "set", dict := none, data := .set #[] 0 (.fresh 0 0 (!w.params.followText "set-order")) } }) ⟨rfl, rfl⟩) fun r s₁ hr => ?_
  cases r with
  | error e => exact hr
  | ok fl =>
    cases fl with
    | ret obj =>
      obtain ⟨rfl, rfl⟩ := hr
      have hS : (s.heap.push { cls := .type "set", dict := none, data := .set #[] 0 (.fresh 0 0 (!w.params.followText "set-order")) }).get? s.heap.objs.size = some { cls := .type "set", dict := none, data := .set #[] 0 (.fresh 0 0 (!w.params.followText "set-order")) } := Heap.get?_push_size _ rfl
      have hT : Shared.TypeIs { s with heap := s.heap.push { cls := .type "set", dict := none, data := .set #[] 0 (.fresh 0 0 (!w.params.followText "set-order")) } } (.ref s.heap.objs.size) "set" := ⟨_, hS, rfl⟩
      have hli := F.called_set.init.lookup
      have hbi := F.called_set.init.bind (.ref s.heap.objs.size)
      repeat (any_goals (first | assumption | wp_step))

      refine codeAny_mono (codeAny_call_builtin (R := wants (fun r s₂ => r = .none ∧ ∃ h' tk c, s₂ = { s with heap := h', toks := tk } ∧ SetR w h' s.heap.objs.size (fun j => decide (j ∈ ns)) c ∧ c ≤ ns.length ∧
          (∀ b o, s.heap.get? b = some o → h'.get? b = some o)) E) F.called_set.init.plain F.entry_set_init (check_set_init_1 hT ?_)) fun r₂ s₂ hr₂ => ?_
      · obtain ⟨ol, hol, hcl, nl, hdl⟩ := hl
        obtain ⟨ocls, odict, odata, oslots⟩ := ol
        simp only at hcl hdl
        subst hcl; subst hdl
        have hol' : (s.heap.push { cls := .type "set", dict := none, data := .set #[] 0 (.fresh 0 0 (!w.params.followText "set-order")) }).get? l = some { cls := .type "list", dict := odict, data := .seq items nl, slots := oslots } := Heap.get?_push_of_some _ hol
        have hsls := F.sub_list_set
        have hslf := F.sub_list_frozenset
        have hne : (Value.type "list" == Value.type "dict") = false := by decide
        have hl1 : (s.heap.push { cls := .type "set", dict := none, data := .set #[] 0 (.fresh 0 0 (!w.params.followText "set-order")) }).IsList l items := ⟨_, hol', rfl, nl, rfl⟩
        unfold Builtin.«set.__init__» noKeywords Builtin.Frozenset.updateFrom
        generalize hPI : pyIter = PI
        wp_walk
        subst hPI

        refine wpAny_pyIter_list hl1 ?_
        refine wpAny_bind (wpAny_runValue ?_)
        have hlS : l < s.heap.objs.size := Heap.lt_size hol
        have hh3 : A.in1.in1.in1.handled = none := by simp [hh]
        have hz1 : (s.heap.push { cls := .type "set", dict := none, data := .set #[] 0 (.fresh 0 0 (!w.params.followText "set-order")) }).objs.size = s.heap.objs.size + 1 := Heap.size_push ..
        have hneI : l ≠ (s.heap.push { cls := .type "set", dict := none, data := .set #[] 0 (.fresh 0 0 (!w.params.followText "set-order")) }).objs.size := by
          rw [Heap.size_push]; exact Nat.ne_of_lt (Nat.lt_succ_of_lt hlS)
        have hSf : s.heap.objs.size ∉ [(s.heap.push { cls := .type "set", dict := none, data := .set #[] 0 (.fresh 0 0 (!w.params.followText "set-order")) }).objs.size, l] := by
          rw [Heap.size_push]; simp only [List.mem_cons, List.mem_singleton, List.not_mem_nil, or_false, not_or]
          exact ⟨Nat.ne_of_lt (Nat.lt_succ_self _), Nat.ne_of_gt hlS⟩
        have hval : ∀ (i : Nat) (v : Value), items[i]? = some v → ∃ k t, ns[i]? = some k ∧ v = .int k t := fun i v hv => by
          have hi : i < ns.length := by rw [← hisz]; exact (Array.getElem?_eq_some_iff.mp hv).1
          obtain ⟨t, e⟩ := PyProof.Rows.IntsAre.int_at hit i v (by rw [Array.getElem?_toList]; exact hv)
          refine ⟨ns[i], t, List.getElem?_eq_getElem hi, ?_⟩
          rw [e, List.getD_eq_getElem?_getD, List.getElem?_eq_getElem hi] <;> rfl
        refine set_update_ints ((Walks.list hh3 _ l hneI items).toS) s.heap.objs.size
          hSf ns hisz hb hval (items.size - 0) 0 _ (by omega) (Nat.zero_le _)
          ⟨⟨_, Heap.get?_push_size _ rfl, rfl, rfl⟩, (hl1.push _)⟩ ?hS0 ?hR
        case hS0 =>
          have hget : ((s.heap.push { cls := .type "set", dict := none, data := .set #[] 0 (.fresh 0 0 (!w.params.followText "set-order")) }).push { cls := .type "list_iterator", data := .fields #[.ref l, .int 0 0] }).get? s.heap.objs.size
              = some { cls := .type "set", dict := none, data := .set #[] 0 (.fresh 0 0 (!w.params.followText "set-order")) } := Heap.get?_push_of_some _ hS
          exact ⟨0, Nat.le_refl 0, setR_new_at hget⟩
        case hR =>
          intro s' c' hm hc' hS'
          obtain ⟨h', g2, d', tk', os'⟩ := s'
          have eg : g2 = s.gens := hm.gens
          have ed : d' = s.drawn := hm.drawn
          have eo : os' = s.os := hm.os
          subst eg; subst ed; subst eo
          show wpAny _ _ _ _ _ _
          refine wpAny_pure ?_
          show wpAny _ _ (ret Value.none) _ _ _
          rw [hisz] at hc'
          refine wpAny_pure ⟨rfl, h', tk', c', rfl, hS', hc', fun b o e => ?_⟩
          have hb0 : b < s.heap.objs.size := Heap.lt_size e
          have hb1 : b ≠ s.heap.objs.size := Nat.ne_of_lt hb0
          have hb2 : b ≠ (s.heap.push { cls := .type "set", dict := none, data := .set #[] 0 (.fresh 0 0 (!w.params.followText "set-order")) }).objs.size := by
            rw [Heap.size_push]; exact Nat.ne_of_lt (Nat.lt_succ_of_lt hb0)
          exact hm.heap b o (by simp only [List.mem_cons, List.mem_singleton, List.not_mem_nil, or_false, not_or]; exact ⟨hb1, hb2⟩) (Heap.get?_push_of_some _ (Heap.get?_push_of_some _ e))

      · cases r₂ with
        | error e => exact hr₂
        | ok fl₂ =>
          cases fl₂ with
          | ret r =>
            obtain ⟨rfl, h', tk, c', rfl, hS', hc', hk'⟩ := hr₂
            repeat (any_goals (first | assumption | wp_step))
            exact h _ _ _ hS' hc' hk'
          | _ => exact hr₂.elim
    | _ => exact hr.elim

end
end PVS
namespace PV
open PySem L2 PyProof.Rows
/-- set(xs), xs a list of ints -/
def rSetI (K : Frag) (w : World) : List V → Hp → VK → Prop := fun xs H Q => ∃ (a : Addr) (ns : List Int), xs = [.ref a] ∧ SqL K H a (ns.map V.int) ∧ ns.length + 1 < scanBound ∧ ∀ p c, H p = none → c ≤ ns.length → Q (.ref p) (upd H p (SetO w p (fun j => decide (j ∈ ns)) c))
theorem cr_setI {X : Cx} (hc : X.calm = true) : CallR X (.type "set") (rSetI X.K X.w) := by
  intro pins s sgm H xs us Q I r h
  obtain ⟨a, ns, rfl, hs, hb, q⟩ := h
  obtain ⟨its, rv, ⟨o, n, ho, hcl, hd, hdt⟩, hz⟩ := I.list hs
  rw [Vals.ref1 r]
  refine PVS.call_set_lstI ns (I.ok.hd hc) ⟨o, ho, hcl, n, hdt⟩ (by rw [List.toList_toArray]; exact Vals.ints rv) hb fun h' tk c new hcn k => ?_
  have hn : H s.heap.objs.size = none := I.hok.fresh (Nat.le_refl _)
  refine ⟨.ref _, upd H s.heap.objs.size (SetO X.w s.heap.objs.size (fun j => decide (j ∈ ns)) c), I.laid (t' := tk) k (Nat.le_refl _) (setO_new new), rfl, q _ c hn hcn⟩
/-- in order, each once -/
def insU (x : Int) : List Int → List Int
  | [] => [x]
  | y :: r => if x < y then x :: y :: r else if x = y then y :: r else y :: insU x r
def sortU (ns : List Int) : List Int := ns.foldr insU []
theorem insU_mem {x k : Int} : ∀ {l : List Int}, k ∈ insU x l ↔ k = x ∨ k ∈ l
  | [] => by simp [insU]
  | y :: r => by
    unfold insU
    split
    · simp
    · split
      · rename_i h; subst h; simp
      · rw [List.mem_cons, insU_mem, List.mem_cons]
        constructor
        · rintro (h | h | h) <;> simp [h]
        · rintro (h | h | h) <;> simp [h]
theorem insU_up {x : Int} : ∀ {l : List Int}, l.Pairwise (· < ·) → (insU x l).Pairwise (· < ·)
  | [], _ => by simp [insU]
  | y :: r, h => by
    obtain ⟨h1, h2⟩ := List.pairwise_cons.mp h
    unfold insU
    split
    · rename_i c
      refine List.pairwise_cons.mpr ⟨fun z hz => ?_, h⟩
      rcases List.mem_cons.mp hz with rfl | hz
      · exact c
      · have := h1 z hz; omega
    · split
      · exact h
      · rename_i c d
        refine List.pairwise_cons.mpr ⟨fun z hz => ?_, insU_up h2⟩
        rcases insU_mem.mp hz with rfl | hz
        · omega
        · exact h1 z hz
theorem sortU_mem {k : Int} : ∀ {ns : List Int}, k ∈ sortU ns ↔ k ∈ ns
  | [] => by simp [sortU]
  | n :: ns => by
    show k ∈ insU n (sortU ns) ↔ _
    rw [insU_mem, sortU_mem, List.mem_cons]
theorem sortU_up : ∀ {ns : List Int}, (sortU ns).Pairwise (· < ·)
  | [] => List.Pairwise.nil
  | n :: ns => insU_up sortU_up
theorem up_unique : ∀ {l m : List Int}, l.Pairwise (· < ·) → m.Pairwise (· < ·) → (∀ k, k ∈ l ↔ k ∈ m) → l = m
  | [], [], _, _, _ => rfl
  | [], y :: m, _, _, h => by have := (h y).mpr List.mem_cons_self; cases this
  | x :: l, [], _, _, h => by have := (h x).mp List.mem_cons_self; cases this
  | x :: l, y :: m, h1, h2, h => by
    obtain ⟨a1, a2⟩ := List.pairwise_cons.mp h1
    obtain ⟨b1, b2⟩ := List.pairwise_cons.mp h2
    have e : x = y := by
      rcases List.mem_cons.mp ((h x).mp List.mem_cons_self) with e | e
      · exact e
      · rcases List.mem_cons.mp ((h y).mpr List.mem_cons_self) with e' | e'
        · exact e'.symm
        · have := b1 x e; have := a1 y e'; omega
    subst e
    have : l = m := up_unique a2 b2 fun k => by
      constructor
      · intro hk
        rcases List.mem_cons.mp ((h k).mp (List.mem_cons_of_mem _ hk)) with e | e
        · subst e; have := a1 k hk; omega
        · exact e
      · intro hk
        rcases List.mem_cons.mp ((h k).mpr (List.mem_cons_of_mem _ hk)) with e | e
        · subst e; have := b1 k hk; omega
        · exact e
    rw [this]
def ssP : P → Option (List P)
  | .lst xs => (intsOf xs).bind fun ns => if ns.length < 60 then some ((sortU ns).map .int) else none
  | _ => none
def oSortSet (fe : FE) : FO := fun env b => (fe env b).bind fun p b1 => ofO (ssP p) b1
section
variable {K : Frag} {mg : Mg} {W : WX} {X : Cx}
/-- sorted(set(e)), e a list of ints -/
theorem ou_sortSet {e : Expr} {te : TE} {fe : FE} {p1 p2 pos1 pos : Pos} (hc : X.calm = true) (he : PU K mg W X e te fe) (hm : X.mg "sorted" = none) (hm2 : X.mg "set" = none) (hK : X.K = K := by rfl) (hg : Gl X "sorted" := by rfl) (hg2 : Gl X "set" := by rfl) (hv : bootBuiltins "sorted" = some (.builtin "sorted") := by decide +kernel) (hv2 : bootBuiltins "set" = some (.type "set") := by decide +kernel)
    (h1 : starEach [e] X.env = (false, eval e X.env) :: starEach [] X.env := by rfl) (h2 : starEach [.Call (.Name "set" p2) [e] [] pos1] X.env = (false, eval (.Call (.Name "set" p2) [e] [] pos1) X.env) :: starEach [] X.env := by rfl) (h3 : (backTo pos1 (starEach [] X.env)).any (·.1) = false := by rfl) (h4 : (backTo pos (starEach [] X.env)).any (·.1) = false := by rfl) :
    OU K mg W X (.Call (.Name "sorted" p1) [.Call (.Name "set" p2) [e] [] pos1] [] pos) (tCB (rSortedSet X.w) (tCons (tCB (rSetI K X.w) (tCons te tNil)) tNil)) (oSortSet fe) := by
  subst hK
  refine ⟨pe_callB (cr_sortedSet hc) hg hm hv (pa_cons (pe_callTy (cr_setI hc) hg2 hm2 hv2 (pa_cons he.pe pa_nil h1) (by decide) (by decide) h1 h3) pa_nil h2) (by decide) (by decide) h2 h4, fun N0 sgm env b H rhx M Q w en h => ?_⟩
  refine he.sem N0 sgm env b H rhx M _ w en ?_
  unfold oSortSet at h
  cases hf : fe env b with
  | ex x b1 => rw [hf] at h; exact h
  | no => rw [hf] at h; exact h
  | ok p b1 =>
    rw [hf] at h
    intro v H1 rhx1 M1 st w1 r1
    simp only [Out.bind_ok] at h
    cases p with
    | lst xs =>
      simp only [ssP] at h
      cases hi : intsOf xs with
      | none => rw [hi] at h; exact h.elim
      | some ns =>
        rw [hi] at h
        simp only [Option.bind_some] at h
        by_cases hl : ns.length < 60
        · rw [if_pos hl] at h
          obtain ⟨a, vs, rfl, s1, n, q1⟩ := r1
          rw [intsOf_some hi] at q1
          rw [q1.ints] at s1
          refine ⟨a, ns, rfl, SqL.of s1, Nat.lt_of_lt_of_le (Nat.add_lt_add_right hl 1) (by decide), fun p c hp hc' => ?_⟩
          refine ⟨p, _, c, rfl, upd_same, by omega, fun ms q up mem _ hq => ?_⟩
          have e : ms = sortU ns := up_unique up sortU_up fun k => by rw [mem k, sortU_mem]; simp
          subst e
          have sa := StepE.newO (o := SetO X.w p (fun j => decide (j ∈ ns)) c) w1 hp
          have wa := w1.newO (o := SetO X.w p (fun j => decide (j ∈ ns)) c) hp
          obtain ⟨s2, w2, r2⟩ := rO.new (H0 := H) (ps := (sortU ns).map P.int) wa (fun x e => st.dom x (sa.dom x e)) (Reps.ofInts _) hq
          exact h _ _ _ _ ((st.trans sa).trans s2) w2 r2
        · rw [if_neg hl] at h; exact h.elim
    | _ => exact h.elim
end
end PV

namespace PV
open PySem L2 PyProof.Rows
section
variable {K : Frag} {mg : Mg} {W : WX} {X : Cx} {a c e o value : Expr} {ta tb tc te to tv : TE} {fa fb fc fe fo fv : FE} {pos apos : Pos}
/-! ### f-strings -/
def fmtP : Bx → P → Option P
  | _, .str y => if y.length ≤ 16000000 then some (.str y) else none
  | _, .int i => if i.natAbs.log2 < 1920 then some (.str (toString i)) else none
  | _, _ => none
theorem pu_fmt (he : PU K mg W X e te fe) : PU K mg W X (.FormattedValue e (-1) none pos) (tFmt te) (eOp1 fmtP fe) := ⟨pe_fmt he.pe, fun N0 sgm env b H rhx M Q w en h => by
  refine he.sem N0 sgm env b H rhx M _ w en (Post.bind h fun p b1 x H1 rhx1 M1 st w1 r1 h1 => ?_)
  cases p with
  | str y =>
    cases (show x = _ from r1)
    simp only [fmtP] at h1
    by_cases hl : y.length ≤ 16000000
    · rw [if_pos hl] at h1; exact .inl ⟨y, rfl, line16 hl, h1 _ H1 rhx1 M1 .refl w1 rfl⟩
    · rw [if_neg hl] at h1; exact h1.elim
  | int i =>
    cases (show x = _ from r1)
    simp only [fmtP] at h1
    by_cases hl : i.natAbs.log2 < 1920
    · rw [if_pos hl] at h1; exact .inr ⟨i, rfl, hl, h1 _ H1 rhx1 M1 .refl w1 rfl⟩
    · rw [if_neg hl] at h1; exact h1.elim
  | _ => exact h1.elim⟩
def eJs : List FE → Str → FE
  | [], acc => fun env b => .ok (.str acc) b
  | f :: fs, acc => fun env b => (f env b).bind fun p b1 => match p with
    | .str y => if (acc ++ y).length ≤ 16000000 then eJs fs (acc ++ y) env b1 else .no
    | _ => .no
inductive JU (K : Frag) (mg : Mg) (W : WX) (X : Cx) : List Expr → List TE → List FE → Prop where
  | nil : JU K mg W X [] [] []
  | cons {e : Expr} {t : TE} {f : FE} {es : List Expr} {ts : List TE} {fs : List FE} (h : PU K mg W X e t f) (r : JU K mg W X es ts fs) : JU K mg W X (e :: es) (t :: ts) (f :: fs)
theorem JU.pj {es : List Expr} {ts : List TE} {fs : List FE} (h : JU K mg W X es ts fs) : PJ X es ts := by
  induction h with
  | nil => exact .nil
  | cons h r ih => exact .cons h.pe ih
theorem JU.sem {es : List Expr} {ts : List TE} {fs : List FE} (h : JU K mg W X es ts fs) : ∀ (acc : Str) (N0 : Ad) (sgm : L2.St) (env : Env) (b : Bx) (H : Hp) (rhx : List Addr) (M : Ad) (Q : Str → Hp → Prop), Wd K mg H rhx M b → EnvOk K rhx M H N0 sgm env →
    Post K mg W sgm H rhx M (rV K) (eJs fs acc env b) (fun v H' => ∃ s, v = .str s ∧ Q s H') → tJs ts acc sgm H Q := by
  induction h with
  | nil =>
    intro acc N0 sgm env b H rhx M Q w en h
    obtain ⟨s, e, q⟩ := h (.str acc) H rhx M .refl w rfl
    cases e
    exact q
  | @cons e t f es ts fs h r ih =>
    intro acc N0 sgm env b H rhx M Q w en hh
    unfold eJs at hh
    refine h.sem N0 sgm env b H rhx M _ w en (Post.bind hh fun p b1 x H1 rhx1 M1 st w1 r1 h1 => ?_)
    cases p with
    | str y =>
      cases (show x = _ from r1)
      by_cases hl : (acc ++ y).length ≤ 16000000
      · simp only [if_pos hl] at h1
        exact ⟨y, rfl, line16 hl, ih (acc ++ y) N0 sgm env b1 H1 rhx1 M1 Q w1 (en.step w st) h1⟩
      · simp only [if_neg hl] at h1; exact h1.elim
    | _ => exact h1.elim
theorem pu_joined {v1 v2 : Expr} {rest : List Expr} {ts : List TE} {fs : List FE} (h : JU K mg W X (v1 :: v2 :: rest) ts fs) : PU K mg W X (.JoinedStr (v1 :: v2 :: rest) pos) (fun sgm H Q => tJs ts Str.empty sgm H fun out H1 => Q (.str out) H1) (eJs fs Str.empty) := ⟨pe_joined h.pj, fun N0 sgm env b H rhx M Q w en hh => by
  refine h.sem Str.empty N0 sgm env b H rhx M _ w en ?_
  revert hh
  have key : ∀ (fs : List FE) (acc : Str) (b : Bx) (o : Out P), eJs fs acc env b = o → (∀ p b1, o = .ok p b1 → ∃ s, p = .str s) := by
    intro fs
    induction fs with
    | nil => intro acc b o ho p b1 e; rw [e] at ho; cases ho; exact ⟨_, rfl⟩
    | cons f fs ih =>
      intro acc b o ho p b1 e
      rw [e] at ho
      unfold eJs at ho
      cases hf : f env b with
      | ok q b2 =>
        rw [hf] at ho
        cases q with
        | str y =>
          simp only [Out.bind_ok] at ho
          split at ho
          · exact ih _ _ _ ho p b1 rfl
          · cases ho
        | _ => cases ho
      | ex x b2 => rw [hf] at ho; cases ho
      | no => rw [hf] at ho; cases ho
  have k2 := key fs Str.empty b _ rfl
  cases ho : eJs fs Str.empty env b with
  | ok p b1 =>
    intro hh v H' rhx' M' st w' r
    obtain ⟨s, rfl⟩ := k2 p b1 ho
    cases (show v = _ from r)
    exact ⟨s, rfl, hh _ H' rhx' M' st w' rfl⟩
  | ex x b1 => exact fun hh => hh
  | no => exact fun hh => hh⟩
theorem pu_joined1 (h : PU K mg W X e te fe) : PU K mg W X (.JoinedStr [e] pos) te fe := ⟨pe_joined1 h.pe, h.sem⟩
/-! ### boxes written -/
theorem Wd.writeB {H : Hp} {rhx : List Addr} {M : Ad} {b : Bx} {n : Nat} {a : Addr} {cl : Cell} {o : HO} (w : Wd K mg H rhx M b) (ha : rhx[n]? = some a) (ho : Mut (some o)) (hc : CellOk K mg rhx M H a cl → True) (hn : ∀ (st : StepE H rhx M (upd H a o) rhx M), CellOk K mg rhx M (upd H a o) a cl) :
    StepE H rhx M (upd H a o) rhx M ∧ Wd K mg (upd H a o) rhx M (b.set n cl) := by
  have mem : a ∈ rhx := List.mem_of_getElem? ha
  have st : StepE H rhx M (upd H a o) rhx M := ⟨fun x u hx nx => by rw [upd_ne fun e => nx (by rw [e]; exact mem)]; exact hx, ⟨[], by simp⟩, fun x h n => (n h).elim, fun x e => by
    by_cases hx : x = a
    · rw [hx, upd_same] at e; cases e
    · rw [upd_ne hx] at e; exact e, fun x h => .inl h, fun x h => h⟩
  refine ⟨st, by rw [List.length_set]; exact w.len, w.nd, fun x hx => ?_, w.box, fun i a' c' h1 h2 => ?_⟩
  · by_cases q : x = a
    · rw [q, upd_same]; exact ho
    · rw [upd_ne q]; exact w.mu x hx
  · by_cases hi : n = i
    · subst hi
      rw [ha] at h1
      cases h1
      have hlt : n < b.length := by rw [← w.len]; exact (List.getElem?_eq_some_iff.mp ha).1
      rw [List.getElem?_set_self hlt] at h2
      cases h2
      exact hn st
    · rw [List.getElem?_set_ne hi] at h2
      have ne : a' ≠ a := fun e => by
        subst e
        exact hi (L2.nd_ix w.nd ha h1)
      exact CellOk.step w.mu (st.toS w.box) (upd_ne ne) (w.cel i a' c' h1 h2)
/-- o[i] = e: o a list in a box -/
def sBoxSet (fv fo fi : FE) : FS := fun env b => (fv env b).st env fun p b1 => (fo env b1).st env fun q b2 => (fi env b2).st env fun r b3 => match q, r with
  | .box n, .int i => match cellL b3 n with
    | some xs => match ixN xs.length i with
      | some j => .nx env (b3.set n (.lst (xs.set j p)))
      | none => .no
    | none => .no
  | _, _ => .no
theorem su_boxSet {i : Expr} {ti : TE} {fi : FE} {p1 : Pos} (hv : PU K mg W X value tv fv) (ho : PU K mg W X o to fo) (hi : PU K mg W X i ti fi) (hs : swapsWithSole [.Subscript o i p1] value pos.line X.env = pure false := by rfl) (hw : swappedStores [.Subscript o i p1] value X.env = pure none := by rfl) (h1 : (assignEach [.Subscript o i p1] X.env).map (·.2) = [assign (.Subscript o i p1) X.env] := by rfl)
    (ha : ∀ v, assign (.Subscript o i p1) X.env v = (do
      let ov ← holding [v] (eval o X.env)
      let iv ← holding [v, ov] (eval i X.env)
      standAt p1
      holding [v, ov, iv] (setItem ov iv v)
      release [v, ov, iv] []) := by intro _; rfl) : SU K mg W X (.Assign [.Subscript o i p1] value pos) (tAsg tv (gSub to ti rSetL)) (sBoxSet fv fo fi) :=
  ⟨ps_asg hv.pe (pg_sub ho.pe hi.pe set_list ha) hs hw h1, fun Z sgm env b H rhx M D S h => by
  refine hv.sem _ sgm env b H rhx M _ S.wd S.en (SPost.post S h fun p b1 v H1 rhx1 M1 _ st1 w1 r1 h1 => ?_)
  have S1 := S.step st1 w1
  refine ho.sem _ sgm env b1 H1 rhx1 M1 _ w1 S1.en (SPost.post S1 h1 fun q b2 y H2 rhx2 M2 _ st2 w2 r2 h2 => ?_)
  have S2 := S1.step st2 w2
  refine hi.sem _ sgm env b2 H2 rhx2 M2 _ w2 S2.en (SPost.post S2 h2 fun r b3 z H3 rhx3 M3 _ st3 w3 r3 h3 => ?_)
  have S3 := S2.step st3 w3
  have rp := Rep.step w2.mu (st3.toS w2.box) _ _ (Rep.step w1.mu (st2.toS w1.box) _ _ r1)
  have rq := Rep.step w2.mu (st3.toS w2.box) _ _ r2
  cases q with
  | box n =>
    cases r with
    | int k =>
      cases hc : cellL b3 n with
      | none => simp only [hc] at h3; exact h3.elim
      | some xs =>
        cases hj : ixN xs.length k with
        | none => simp only [hc, hj] at h3; exact h3.elim
        | some j =>
          simp only [hc, hj] at h3
          obtain ⟨a, vs, rfl, ha', g1, q1⟩ := box_list w3 rq hc
          obtain ⟨sE, wE⟩ := w3.writeB (cl := .lst (xs.set j p)) (o := .lst (vs.set j v)) ha' trivial (fun _ => trivial) (fun st => ⟨_, upd_same, Reps.step w3.mu (st.toS w3.box) _ _ (q1.set rp j)⟩)
          exact ⟨a, vs, k, j, rfl, r3, g1, by rw [q1.length]; exact hj, h3 sgm _ rhx3 M3 (sE.toS w3.box) (S3.step sE wE)⟩
    | _ => exact h3.elim
  | _ => cases r <;> exact h3.elim⟩
/-! ### instances -/
def cellI (C : Str) (b : Bx) (n : Nat) : Option (List (Str × P)) := match b[n]? with
  | some (.ins D fs) => if D = C then some fs else none
  | _ => none
def putP (f : Str) (p : P) : List (Str × P) → List (Str × P)
  | [] => [(f, p)]
  | (g, q) :: r => if g = f then (g, p) :: r else (g, q) :: putP f p r
theorem ins_box {H : Hp} {rhx : List Addr} {M : Ad} {b : Bx} {n : Nat} {C : Str} {fs : List (Str × P)} {x : V} (w : Wd K mg H rhx M b) (r : Rep K rhx M H (.box n) x) (h : cellI C b n = some fs) : ∃ a cc dx gs, x = .ref a ∧ rhx[n]? = some a ∧ mg C = some (.ref cc) ∧ H a = some (.ins cc dx gs) ∧ RepF K rhx M H fs gs := by
  obtain ⟨a, rfl, ha⟩ := r
  unfold cellI at h
  cases q : b[n]? with
  | none => rw [q] at h; cases h
  | some cl =>
    rw [q] at h
    cases cl with
    | lst xs => cases h
    | ins D gs =>
      simp only at h
      split at h
      · rename_i e
        subst e
        cases h
        obtain ⟨cc, dx, gs', g, h1, r⟩ := w.cel n a _ ha q
        exact ⟨a, cc, dx, gs', rfl, ha, g, h1, r⟩
      · cases h
theorem RepF.look {H : Hp} {rhx : List Addr} {M : Ad} {f : Str} : ∀ {fs : List (Str × P)} {gs : List (Str × V)} {p : P}, RepF K rhx M H fs gs → fs.lookup f = some p → ∃ v, gs.lookup f = some v ∧ Rep K rhx M H p v
  | [], _, _, _, h => by cases h
  | (g, q) :: fs, _, p, r, h => by
    obtain ⟨v, r', rfl, h1, h2⟩ := r
    by_cases e : f = g
    · subst e
      simp [List.lookup] at h ⊢
      subst h
      exact h1
    · have e' : (f == g) = false := by simpa using e
      simp only [List.lookup, e'] at h ⊢
      exact RepF.look h2 h
theorem RepF.lookN {H : Hp} {rhx : List Addr} {M : Ad} {f : Str} : ∀ {fs : List (Str × P)} {gs : List (Str × V)}, RepF K rhx M H fs gs → fs.lookup f = none → gs.lookup f = none
  | [], _, r, _ => by cases (show _ = [] from r); rfl
  | (g, q) :: fs, _, r, h => by
    obtain ⟨v, r', rfl, h1, h2⟩ := r
    by_cases e : f = g
    · subst e; simp [List.lookup] at h
    · have e' : (f == g) = false := by simpa using e
      simp only [List.lookup, e'] at h ⊢
      exact RepF.lookN h2 h
theorem RepF.put {H : Hp} {rhx : List Addr} {M : Ad} {f : Str} {p : P} {v : V} (hp : Rep K rhx M H p v) : ∀ {fs : List (Str × P)} {gs : List (Str × V)}, RepF K rhx M H fs gs → RepF K rhx M H (putP f p fs) (putF f v gs)
  | [], _, r => by cases (show _ = [] from r); exact ⟨v, [], rfl, hp, rfl⟩
  | (g, q) :: fs, _, r => by
    obtain ⟨u, r', rfl, h1, h2⟩ := r
    unfold putP putF
    by_cases e : g = f
    · rw [if_pos e, if_pos e]; exact ⟨v, r', rfl, hp, h2⟩
    · rw [if_neg e, if_neg e]; exact ⟨u, _, rfl, h1, RepF.put hp h2⟩
theorem RepF.len {H : Hp} {rhx : List Addr} {M : Ad} : ∀ {fs : List (Str × P)} {gs : List (Str × V)}, RepF K rhx M H fs gs → gs.length = fs.length
  | [], _, r => by cases (show _ = [] from r); rfl
  | (g, q) :: fs, _, r => by
    obtain ⟨u, r', rfl, h1, h2⟩ := r
    simp [RepF.len h2]
/-- o.f of an instance of the class C -/
def eFld (C f : Str) (fo : FE) : FE := fun env b => (fo env b).bind fun p b1 => match p with
  | .box n => ofO ((cellI C b1 n).bind fun fs => fs.lookup f) b1
  | _ => .no
/-- what is to be known of the class named C -/
structure KC (K : Frag) (mg : Mg) (C : Str) (cc : Addr) : Prop where
  mg : mg C = some (.ref cc)
  cl : Cls K cc
theorem pu_fld {C f : Str} {cc : Addr} (kc : KC K mg C cc) (na : NoAttr K cc f) (ho : PU K mg W X o to fo) (hK : X.K = K := by rfl) (hb : attributeBase o f X.env (eval o X.env) = eval o X.env := by rfl) : PU K mg W X (.Attribute o f pos) (tFld K to f) (eFld C f fo) := by
  subst hK
  refine ⟨pe_fld ho.pe hb, fun N0 sgm env b H rhx M Q w en h => ?_⟩
  refine ho.sem N0 sgm env b H rhx M _ w en (Post.bind h fun p b1 x H1 rhx1 M1 st w1 r1 h1 => ?_)
  cases p with
  | box n =>
    cases hc : cellI C b1 n with
    | none => simp only [hc] at h1; exact h1.elim
    | some fs =>
      cases hl : fs.lookup f with
      | none => simp only [hc, Option.bind_some, hl] at h1; exact h1.elim
      | some q =>
        simp only [hc, Option.bind_some, hl] at h1
        obtain ⟨a, c2, dx, gs, rfl, ha, hm, g1, rf⟩ := ins_box w1 r1 hc
        rw [kc.mg] at hm
        cases hm
        obtain ⟨v, hv, rv⟩ := rf.look hl
        exact ⟨a, cc, dx, gs, v, rfl, g1, kc.cl, na, hv, h1 _ H1 rhx1 M1 .refl w1 rv⟩
  | _ => exact h1.elim
/-- o.f = e -/
def sFldSet (C f : Str) (fv fo : FE) : FS := fun env b => (fv env b).st env fun p b1 => (fo env b1).st env fun q b2 => match q with
  | .box n => match cellI C b2 n with
    | some fs => if fs.length < 900 then .nx env (b2.set n (.ins C (putP f p fs))) else .no
    | none => .no
  | _ => .no
theorem su_fldSet {C f : Str} {cc : Addr} {pos' : Pos} (kc : KC K mg C cc) (na : NoAttr K cc f) (ho : PU K mg W X o to fo) (hv : PU K mg W X value tv fv) (hK : X.K = K := by rfl) (hs : swapsWith value (some (.Attribute o f pos')) pos.line X.env = pure false := by rfl) : SU K mg W X (.Assign [.Attribute o f pos'] value pos) (sFld K to tv f) (sFldSet C f fv fo) := by
  subst hK
  refine ⟨ps_fld ho.pe hv.pe hs, fun Z sgm env b H rhx M D S h => ?_⟩
  refine hv.sem _ sgm env b H rhx M _ S.wd S.en (SPost.post S h fun p b1 v H1 rhx1 M1 _ st1 w1 r1 h1 => ?_)
  have S1 := S.step st1 w1
  refine ho.sem _ sgm env b1 H1 rhx1 M1 _ w1 S1.en (SPost.post S1 h1 fun q b2 y H2 rhx2 M2 _ st2 w2 r2 h2 => ?_)
  have S2 := S1.step st2 w2
  have rp := Rep.step w1.mu (st2.toS w1.box) _ _ r1
  cases q with
  | box n =>
    cases hc : cellI C b2 n with
    | none => simp only [hc] at h2; exact h2.elim
    | some fs =>
      by_cases hl : fs.length < 900
      · simp only [hc, if_pos hl] at h2
        obtain ⟨a, c2, dx, gs, rfl, ha, hm, g1, rf⟩ := ins_box w2 r2 hc
        have hm0 := hm
        rw [kc.mg] at hm
        cases hm
        obtain ⟨sE, wE⟩ := w2.writeB (cl := .ins C (putP f p fs)) (o := .ins cc dx (putF f v gs)) ha trivial (fun _ => trivial) (fun st => ⟨cc, dx, _, kc.mg, upd_same, RepF.step w2.mu (st.toS w2.box) _ _ (rf.put rp)⟩)
        exact ⟨a, cc, dx, gs, rfl, g1, kc.cl, na, by rw [rf.len]; omega, h2 sgm _ rhx2 M2 (sE.toS w2.box) (S2.step sE wE)⟩
      · simp only [hc, if_neg hl] at h2; exact h2.elim
  | _ => exact h2.elim
/-! ### calls of methods -/
theorem pe_methS {CX : CXT} {k : Nat} {f C : Addr} {fd : FuncData} {ps : List Str} {sp : Sp} {E : L2.St → XK} {m : Str} {es : List Expr} {t : TA} {pl : Sem Bool} (he : PE X o to) (cl : Cls X.K C) (hm : Meth X.K C m f) (F : FnOk X.prog X.w X.K X.mg X.base CX k f fd ps sp) (hr : Room k X.A) (hb : Binds X.K fd ps []) (hx : ∀ sgm, PassesAt CX X sgm (E sgm)) (ha : PA X (e :: es) t)
    (hst : starEach (e :: es) X.env = (false, eval e X.env) :: starEach es X.env) (hpl : (backTo pos (starEach es X.env)).any (·.1) = false)
    (ht : eval (.Call (.Attribute o m apos) (e :: es) [] pos) X.env = (do
      let ov ← eval o X.env
      standAt apos.atName
      let (f, first) ← holding [ov] (getMethod ov m pl)
      callWith pos f first (backTo pos (starEach (e :: es) X.env)) (backToKw pos (keywordEach [] X.env)))) :
    PE X (.Call (.Attribute o m apos) (e :: es) [] pos) (fun sgm H Q => to sgm H fun x H1 => ∃ a dx fs, x = .ref a ∧ H1 a = some (.ins C dx fs) ∧ fs.lookup m = none ∧ t sgm H1 fun vs H2 => sp (x :: vs) H2 Q (E sgm)) := by
  refine ⟨fun pins s sgm H Q I h => ?_⟩
  refine PySem.W.methodCall_KW (pl := pl) (thn (he.run pins s sgm H _ I h) fun u s1 ⟨x, H1, I1, rx, a, dx, fs, ex, ea, l, q⟩ => ?_) ht
  subst ex
  obtain rfl : u = Value.ref a := rx
  refine getmeth_ok I1 ea cl hm l ?_
  refine PySem.W.callWith_K (first := [.ref a]) (h₀ := X.base) I.ok.mod.kin hm.kp (thn (ha.run pos pins s1 sgm H1 _ I1 q) fun us s2 ⟨vs, H2, I2, r, q2⟩ => ⟨I2.kIn, ?_⟩) hst hpl
  exact run_fnS (us := .ref a :: us) (vs := .ref a :: vs) F hr hb (hx sgm) I2 (.cons rfl r) q2
theorem pe_meth0S {CX : CXT} {k : Nat} {f C : Addr} {fd : FuncData} {ps : List Str} {sp : Sp} {E : L2.St → XK} {m : Str} {pl : Sem Bool} (he : PE X o to) (cl : Cls X.K C) (hm : Meth X.K C m f) (F : FnOk X.prog X.w X.K X.mg X.base CX k f fd ps sp) (hr : Room k X.A) (hb : Binds X.K fd ps []) (hx : ∀ sgm, PassesAt CX X sgm (E sgm))
    (ht : eval (.Call (.Attribute o m apos) [] [] pos) X.env = (do
      let ov ← eval o X.env
      standAt apos.atName
      let (f, first) ← holding [ov] (getMethod ov m pl)
      callWith pos f first (backTo pos (starEach [] X.env)) (backToKw pos (keywordEach [] X.env)))) :
    PE X (.Call (.Attribute o m apos) [] [] pos) (fun sgm H Q => to sgm H fun x H1 => ∃ a dx fs, x = .ref a ∧ H1 a = some (.ins C dx fs) ∧ fs.lookup m = none ∧ sp [x] H1 Q (E sgm)) := by
  refine ⟨fun pins s sgm H Q I h => ?_⟩
  refine PySem.W.methodCall_KW (pl := pl) (thn (he.run pins s sgm H _ I h) fun u s1 ⟨x, H1, I1, rx, a, dx, fs, ex, ea, l, q⟩ => ?_) ht
  subst ex
  obtain rfl : u = Value.ref a := rx
  refine getmeth_ok I1 ea cl hm l ?_
  exact PySem.W.callWith_K0 (first := [.ref a]) I1.kIn hm.kp (run_fnS (us := [.ref a]) (vs := [.ref a]) F hr hb (hx sgm) I1 (.cons rfl .nil) q)
def eMethC (C m : Str) (d : List P → Bx → Out P) (fo : FE) (fa : FA) : FE := fun env b => (fo env b).bind fun p b1 => match p with
  | .box n => match cellI C b1 n with
    | some fs => if (fs.lookup m).isNone then (fa env b1).bind fun ps b2 => d (p :: ps) b2 else .no
    | none => .no
  | _ => .no
theorem pu_meth {C m : Str} {cc fA : Addr} {es : List Expr} {t : TA} {f : FA} {k : Nat} {fd : FuncData} {ps : List Str} {d : List P → Bx → Out P} {pl : Sem Bool} (tk : Takes X W) (kc : KC K mg C cc) (hm : Meth K cc m fA) (F : FnOk X.prog X.w X.K X.mg X.base (L2.CX X.prog X.w) k fA fd ps (spP K mg d)) (hr : Room k X.A) (hb : Binds X.K fd ps [])
    (ho : PU K mg W X o to fo) (ha : AU K mg W X (e :: es) t f) (hK : X.K = K := by rfl) (hst : starEach (e :: es) X.env = (false, eval e X.env) :: starEach es X.env := by rfl) (hpl : (backTo pos (starEach es X.env)).any (·.1) = false := by rfl)
    (ht : eval (.Call (.Attribute o m apos) (e :: es) [] pos) X.env = (do
      let ov ← eval o X.env
      standAt apos.atName
      let (f, first) ← holding [ov] (getMethod ov m pl)
      callWith pos f first (backTo pos (starEach (e :: es) X.env)) (backToKw pos (keywordEach [] X.env))) := by rfl) :
    PU K mg W X (.Call (.Attribute o m apos) (e :: es) [] pos) (fun sgm H Q => to sgm H fun x H1 => ∃ a dx fs, x = .ref a ∧ H1 a = some (.ins cc dx fs) ∧ fs.lookup m = none ∧ t sgm H1 fun vs H2 => spP K mg d (x :: vs) H2 Q (WE W sgm)) (eMethC C m d fo f) := by
  subst hK
  refine ⟨pe_methS ho.pe kc.cl hm F hr hb (fun sgm => passAt tk sgm) ha.pe hst hpl ht, fun N0 sgm env b H rhx M Q w en h => ?_⟩
  refine ho.sem N0 sgm env b H rhx M _ w en (Post.bind h fun p b1 x H1 rhx1 M1 st w1 r1 h1 => ?_)
  cases p with
  | box n =>
    cases hc : cellI C b1 n with
    | none => simp only [hc] at h1; exact h1.elim
    | some fs =>
      by_cases hl : (fs.lookup m).isNone
      · simp only [hc, if_pos hl] at h1
        obtain ⟨a, c2, dx, gs, rfl, ha', hmm, g1, rf⟩ := ins_box w1 r1 hc
        rw [kc.mg] at hmm
        cases hmm
        refine ⟨a, dx, gs, rfl, g1, rf.lookN (Option.isNone_iff_eq_none.mp hl), ?_⟩
        refine ha.sem N0 sgm env b1 H1 rhx1 M1 _ w1 (en.step w st) (Post.bind h1 fun qs b2 vs H2 rhx2 M2 st2 w2 r2 h2 => ?_)
        exact ⟨.box n :: qs, b2, rhx2, M2, w2, ⟨_, _, rfl, Rep.step w1.mu (st2.toS w1.box) _ _ r1, r2⟩, h2⟩
      · simp only [hc, if_neg hl] at h1; exact h1.elim
  | _ => exact h1.elim
theorem pu_meth0 {C m : Str} {cc fA : Addr} {k : Nat} {fd : FuncData} {ps : List Str} {d : List P → Bx → Out P} {pl : Sem Bool} (tk : Takes X W) (kc : KC K mg C cc) (hm : Meth K cc m fA) (F : FnOk X.prog X.w X.K X.mg X.base (L2.CX X.prog X.w) k fA fd ps (spP K mg d)) (hr : Room k X.A) (hb : Binds X.K fd ps [])
    (ho : PU K mg W X o to fo) (hK : X.K = K := by rfl)
    (ht : eval (.Call (.Attribute o m apos) [] [] pos) X.env = (do
      let ov ← eval o X.env
      standAt apos.atName
      let (f, first) ← holding [ov] (getMethod ov m pl)
      callWith pos f first (backTo pos (starEach [] X.env)) (backToKw pos (keywordEach [] X.env))) := by rfl) :
    PU K mg W X (.Call (.Attribute o m apos) [] [] pos) (fun sgm H Q => to sgm H fun x H1 => ∃ a dx fs, x = .ref a ∧ H1 a = some (.ins cc dx fs) ∧ fs.lookup m = none ∧ spP K mg d [x] H1 Q (WE W sgm)) (eMethC C m d fo aNil) := by
  subst hK
  refine ⟨pe_meth0S ho.pe kc.cl hm F hr hb (fun sgm => passAt tk sgm) ht, fun N0 sgm env b H rhx M Q w en h => ?_⟩
  refine ho.sem N0 sgm env b H rhx M _ w en (Post.bind h fun p b1 x H1 rhx1 M1 st w1 r1 h1 => ?_)
  cases p with
  | box n =>
    cases hc : cellI C b1 n with
    | none => simp only [hc] at h1; exact h1.elim
    | some fs =>
      by_cases hl : (fs.lookup m).isNone
      · simp only [hc, if_pos hl] at h1
        obtain ⟨a, c2, dx, gs, rfl, ha', hmm, g1, rf⟩ := ins_box w1 r1 hc
        rw [kc.mg] at hmm
        cases hmm
        exact ⟨a, dx, gs, rfl, g1, rf.lookN (Option.isNone_iff_eq_none.mp hl), [.box n], b1, rhx1, M1, w1, ⟨_, _, rfl, r1, rfl⟩, h1⟩
      · simp only [hc, if_neg hl] at h1; exact h1.elim
  | _ => exact h1.elim
/-- C(): a new instance, its __init__ without further arguments -/
def eMake0 (C : Str) (d : List P → Bx → Out P) : FE := fun _ b => match d [.box b.length] (b ++ [.ins C []]) with
  | .ok .non b1 => .ok (.box b.length) b1
  | _ => .no
theorem pu_make0 {C : Str} {cc fA : Addr} {k : Nat} {fd : FuncData} {ps : List Str} {d : List P → Bx → Out P} {p : Pos} (Mk : L2.Mk K cc fA) (F : FnOk X.prog X.w X.K X.mg X.base (L2.CX X.prog X.w) k fA fd ps (spP K mg d)) (hr : Room (k + 1) X.A) (hm : X.mg C = some (.ref cc)) (hm' : mg C = some (.ref cc)) (hb : Binds X.K fd ps []) (hK : X.K = K := by rfl) (hg : Gl X C := by rfl) (hdb : (C == ("__debug__" : Str)) = false := by decide) :
    PU K mg W X (.Call (.Name C p) [] [] pos) (tMake cc (spP K mg d) [] E0 tNil) (eMake0 C d) := by
  subst hK
  refine ⟨pe_make0 Mk F hr hg hm hb .nil passL hdb, fun N0 sgm env b H rhx M Q w en h x dx hx hdx hne => ?_⟩
  have e0 : ([] : List V) ++ [] = [] := rfl
  show spP X.K mg d (.ref x :: ([] ++ [])) _ _ _
  rw [e0]
  have st1 := StepE.newO (o := .own x) w hdx
  have w1 := w.newO (o := .own x) hdx
  have hx1 : upd H dx (.own x) x = none := by rw [upd_ne (Ne.symm hne)]; exact hx
  have st2 := StepE.newB (o := .ins cc dx []) w1 hx1
  have w2 := w1.newB (o := .ins cc dx []) (c := .ins C []) hx1 trivial ⟨cc, dx, [], hm', upd_same, rfl⟩
  refine ⟨[.box b.length], b ++ [.ins C []], rhx ++ [x], (fun y => M y ∨ y = x), w2, ⟨_, _, rfl, ⟨x, rfl, by rw [← w.len]; simp⟩, rfl⟩, ?_⟩
  unfold eMake0 at h
  cases hd : d [.box b.length] (b ++ [.ins C []]) with
  | ok q b1 =>
    rw [hd] at h
    cases q with
    | non =>
      intro v H' rhx' M' st w' r
      refine ⟨r, h (.ref x) H' rhx' M' ((st1.trans st2).trans st) w' ⟨x, rfl, ?_⟩⟩
      obtain ⟨l, e⟩ := st.pre
      rw [e, List.append_assoc, ← w.len]
      simp
    | _ => exact h.elim
  | ex x b1 => rw [hd] at h; exact h.elim
  | no => rw [hd] at h; exact h.elim
/-! ### a try in which nothing is raised -/
def sTryNo (f : FS) : FS := fun env b => match f env b with
  | .ex _ _ _ => .no
  | o => o
theorem takesN {X : Cx} : Takes X W0 := takes0
theorem su_tryNo {body : List Stmt} {h0 : ExceptHandler} {hs : List ExceptHandler} {t : TS} {f : FS} (hb : SSU K mg W0 X.nox body t f) : SU K mg W X (.Try body (h0 :: hs) [] [] pos) t (sTryNo f) := ⟨ps_try_thru0 hb.pe, fun Z sgm env b H rhx M D S h => by
  refine hb.sem Z sgm env b H rhx M D S ?_
  unfold sTryNo at h
  cases hf : f env b with
  | ex x e1 b1 => rw [hf] at h; exact h.elim
  | nx e1 b1 => rw [hf] at h; exact h
  | bk e1 b1 => rw [hf] at h; exact h
  | ct e1 b1 => rw [hf] at h; exact h
  | rt p b1 => rw [hf] at h; exact h
  | no => rw [hf] at h; exact h⟩
end
/-! ### the law's end -/
/-- the law hands back True for every script -/
def spLaw (K : Frag) : Sp := fun vs H Q _ => ∃ (a : Addr) (ns : List Int), vs = [.ref a] ∧ SqL K H a (ns.map V.int) ∧ Only H ∧ ns.length ≤ 63 ∧ ∀ H', Q (.bl true) H'
theorem law_ok {Pr : Program} {w : World} {K : Frag} {mg : Mg} {base : Heap} {k : Nat} {f : Addr} {fd : FuncData} {ps : List Str} {d : List P → Bx → Out P} (F : FnOk Pr w K mg base (L2.CX Pr w) k f fd ps (spP K mg d)) (h : ∀ ns : List Int, ns.length ≤ 63 → ∃ b, d [.fro ns] [] = .ok (.bl true) b) : FnOk Pr w K mg base CX0 k f fd ps (spLaw K) := by
  have key : ∀ vs H Q E, spLaw K vs H Q E → spP K mg d vs H Q E0 := fun vs H Q E hs => by
    obtain ⟨a, ns, rfl, ha, ho, hl, q⟩ := hs
    obtain ⟨b, e⟩ := h ns hl
    have fo : FroOk K H a (ns.map V.int) := by
      rcases ha with (ha | ⟨o, ha⟩) | ha
      · rcases ho a with z | ⟨o, xs, z⟩
        · rw [z] at ha; cases ha
        · rw [z] at ha; cases ha
      · exact .inl ⟨o, ha⟩
      · exact .inr ha
    refine ⟨[.fro ns], [], [], fun _ => False, ⟨rfl, List.nodup_nil, fun _ h => h.elim, fun x h => by simp at h, fun i a c h => by simp at h⟩, ⟨_, _, rfl, ⟨a, rfl, fo⟩, rfl⟩, ?_⟩
    rw [e]
    intro v H' rhx' M' st w r
    cases (show v = _ from r)
    exact q H'
  refine ⟨fun vs H Q E hs => F.len vs H Q E0 (key vs H Q E hs), fun A outer s H args us vs Q E hr e0 hb r hs => ?_⟩
  refine codeAny_mono (F.run A outer s H args us vs Q E0 hr e0 hb r (key vs H Q E hs)) fun r s' q => ?_
  cases r with
  | ok fl => cases fl <;> exact q
  | error e =>
    obtain ⟨_, _, _, _, _, _, _, _, _, _, _, _, z⟩ := q
    exact z.elim
end PV

namespace PV
open PySem L2 PyProof.Rows
/-- the def named x computes d, by at most level k -/
structure Gd (Pr : Program) (w : World) (K : Frag) (mg : Mg) (base : Heap) (fA : Addr) (k : Nat) (d : List P → Bx → Out P) : Prop where
  ex : ∃ fd ps, FnOk Pr w K mg base (L2.CX Pr w) k fA fd ps (spP K mg d) ∧ Binds K fd ps []
  kp : PySem.W.keepIn K (.ref fA) = true
theorem Gd.no {Pr : Program} {w : World} {K : Frag} {mg : Mg} {base : Heap} {fA : Addr} {k : Nat} {fd : FuncData} {ps : List Str} (hb : Binds K fd ps []) (kp : PySem.W.keepIn K (.ref fA) = true) : Gd Pr w K mg base fA k (fun _ _ => .no) :=
  ⟨⟨fd, ps, ⟨fun vs H Q E h => by obtain ⟨_, _, _, _, _, _, p⟩ := h; exact p.elim, fun A outer s H args us vs Q E hr e0 hb r h => by obtain ⟨_, _, _, _, _, _, p⟩ := h; exact p.elim⟩, hb⟩, kp⟩
section
variable {K : Frag} {mg : Mg} {W : WX} {X : Cx} {a c e o value elt tg : Expr} {ta tb tc te to tv : TE} {fa fb fc fe fo fv : FE} {pos apos : Pos}
theorem pu_fn {es : List Expr} {t : TA} {f : FA} {x : Str} {p : Pos} {k : Nat} {fA : Addr} {d : List P → Bx → Out P} (tk : Takes X W) (G : Gd X.prog X.w X.K X.mg X.base fA k d) (hr : Room k X.A)
    (hm : X.mg x = some (.ref fA)) (ha : AU K mg W X (a :: es) t f) (hK : X.K = K := by rfl) (hM : X.mg = mg := by rfl)
    (hgl : Gl X x := by rfl) (hdb : (x == ("__debug__" : Str)) = false := by decide) (he : starEach (a :: es) X.env = (false, eval a X.env) :: starEach es X.env := by rfl) (hpl : (backTo pos (starEach es X.env)).any (·.1) = false := by rfl) :
    PU K mg W X (.Call (.Name x p) (a :: es) [] pos) (tCallS (spP K mg d) (WE W) t) (eFn d f) := by
  obtain ⟨⟨fd, ps, F, hb⟩, kp⟩ := G
  subst hK hM
  exact pu_call tk F hr hm kp hb ha hgl hdb he hpl
theorem pu_mt {C m : Str} {cc fA : Addr} {es : List Expr} {t : TA} {f : FA} {k : Nat} {d : List P → Bx → Out P} {pl : Sem Bool} (tk : Takes X W) (kc : KC K mg C cc) (hm : Meth K cc m fA) (G : Gd X.prog X.w X.K X.mg X.base fA k d) (hr : Room k X.A)
    (ho : PU K mg W X o to fo) (ha : AU K mg W X (e :: es) t f) (hK : X.K = K := by rfl) (hM : X.mg = mg := by rfl) (hst : starEach (e :: es) X.env = (false, eval e X.env) :: starEach es X.env := by rfl) (hpl : (backTo pos (starEach es X.env)).any (·.1) = false := by rfl)
    (ht : eval (.Call (.Attribute o m apos) (e :: es) [] pos) X.env = (do
      let ov ← eval o X.env
      standAt apos.atName
      let (f, first) ← holding [ov] (getMethod ov m pl)
      callWith pos f first (backTo pos (starEach (e :: es) X.env)) (backToKw pos (keywordEach [] X.env))) := by rfl) :
    PU K mg W X (.Call (.Attribute o m apos) (e :: es) [] pos) (fun sgm H Q => to sgm H fun x H1 => ∃ a dx fs, x = .ref a ∧ H1 a = some (.ins cc dx fs) ∧ fs.lookup m = none ∧ t sgm H1 fun vs H2 => spP K mg d (x :: vs) H2 Q (WE W sgm)) (eMethC C m d fo f) := by
  obtain ⟨⟨fd, ps, F, hb⟩, kp⟩ := G
  subst hK hM
  exact pu_meth tk kc hm F hr hb ho ha rfl hst hpl ht
theorem pu_mt0 {C m : Str} {cc fA : Addr} {k : Nat} {d : List P → Bx → Out P} {pl : Sem Bool} (tk : Takes X W) (kc : KC K mg C cc) (hm : Meth K cc m fA) (G : Gd X.prog X.w X.K X.mg X.base fA k d) (hr : Room k X.A)
    (ho : PU K mg W X o to fo) (hK : X.K = K := by rfl) (hM : X.mg = mg := by rfl)
    (ht : eval (.Call (.Attribute o m apos) [] [] pos) X.env = (do
      let ov ← eval o X.env
      standAt apos.atName
      let (f, first) ← holding [ov] (getMethod ov m pl)
      callWith pos f first (backTo pos (starEach [] X.env)) (backToKw pos (keywordEach [] X.env))) := by rfl) :
    PU K mg W X (.Call (.Attribute o m apos) [] [] pos) (fun sgm H Q => to sgm H fun x H1 => ∃ a dx fs, x = .ref a ∧ H1 a = some (.ins cc dx fs) ∧ fs.lookup m = none ∧ spP K mg d [x] H1 Q (WE W sgm)) (eMethC C m d fo aNil) := by
  obtain ⟨⟨fd, ps, F, hb⟩, kp⟩ := G
  subst hK hM
  exact pu_meth0 tk kc hm F hr hb ho rfl ht
theorem pu_mk0 {C : Str} {cc fA : Addr} {k : Nat} {d : List P → Bx → Out P} {p : Pos} (Mk : L2.Mk K cc fA) (G : Gd X.prog X.w X.K X.mg X.base fA k d) (hr : Room (k + 1) X.A) (kc : KC K mg C cc) (hK : X.K = K := by rfl) (hM : X.mg = mg := by rfl) (hg : Gl X C := by rfl) (hdb : (C == ("__debug__" : Str)) = false := by decide) :
    PU K mg W X (.Call (.Name C p) [] [] pos) (tMake cc (spP K mg d) [] E0 tNil) (eMake0 C d) := by
  obtain ⟨⟨fd, ps, F, hb⟩, kp⟩ := G
  subst hK hM
  exact pu_make0 Mk F hr kc.mg kc.mg hb rfl hg hdb
/-! ### what is walked, whatever it is -/
def iAny (fe : FE) : FI := fun env b => (fe env b).bind fun p b1 => match p with
  | .lst ps => .ok ps b1
  | .tup ps => .ok ps b1
  | .str x => .ok (signs x) b1
  | _ => .no
def iAnyT (K : Frag) (tl : TE) : TI := fun sgm H R => tl sgm H fun x H1 => (∃ a, x = .ref a ∧ (∃ xs, SqL K H1 a xs) ∧ R (Itl K a) H1) ∨ (∃ a, x = .ref a ∧ (∃ xs, SqT K H1 a xs) ∧ R (Itt K a) H1) ∨ ∃ y, x = .str y ∧ R (Its y) H1
theorem pi_any {l : Expr} {tl : TE} (hl : PE X l tl) : PI X tg l (iAnyT X.K tl) := by
  refine ⟨fun pins s sgm H R I h => ?_⟩
  refine thn (hl.run pins s sgm H _ I h) fun v s1 ⟨x, H1, I1, r1, q1⟩ => ?_
  rcases q1 with ⟨a, e, ⟨xs, hq⟩, q⟩ | ⟨a, e, ⟨xs, hq⟩, q⟩ | ⟨y, e, q⟩
  · subst e
    cases r1
    obtain ⟨its, rv, p, hz⟩ := I1.list hq
    refine wpAny_pyIter_list p.isList ?_
    refine ⟨s1.heap.objs.size, [s1.heap.objs.size], _, _, H1, rfl, I1.kept (t' := s1.toks) fun b o e => Heap.get?_push_of_some _ e, turn_list a _, ⟨_, Heap.get?_push_size _ rfl, rfl, rfl⟩, fun b hb => ?_, q⟩
    have e : b = s1.heap.objs.size := by simpa using hb
    subst e
    exact I1.fpOk (Nat.le_refl _) (I1.hok.fresh (Nat.le_refl _))
  · subst e
    cases r1
    obtain ⟨its, rv, p, hz⟩ := I1.tuple hq
    refine wpAny_pyIter_tuple (show s1.heap.IsTuple a its.toArray from p) ?_
    refine ⟨s1.heap.objs.size, [s1.heap.objs.size], _, _, H1, rfl, I1.kept (t' := s1.toks) fun b o e => Heap.get?_push_of_some _ e, turn_tuple a _, ⟨_, Heap.get?_push_size _ rfl, rfl, rfl⟩, fun b hb => ?_, q⟩
    have e : b = s1.heap.objs.size := by simpa using hb
    subst e
    exact I1.fpOk (Nat.le_refl _) (I1.hok.fresh (Nat.le_refl _))
  · subst e
    obtain ⟨t, rfl⟩ := r1
    cases ha : y.cps.all (· < 128)
    · exact wpAny_pyIter_wide ha (pi_one (tk := s1.toks) I1 _ (turn_str _ y t "str_iterator" (.inr rfl)) ⟨_, Heap.get?_push_size _ rfl, rfl, rfl⟩ q)
    · exact wpAny_pyIter_ascii ha (pi_one (tk := s1.toks) I1 _ (turn_str _ y t "str_ascii_iterator" (.inl rfl)) ⟨_, Heap.get?_push_size _ rfl, rfl, rfl⟩ q)
theorem src_str {H : Hp} {rhx : List Addr} {M : Ad} {x : Str} : Src K mg H rhx M (Its x) (signs x) := fun b H2 rhx2 M2 sS w2 => ⟨fun i p hp => by
    have hp' : (x.cps.toList.map fun c => P.str ⟨#[c]⟩)[i]? = some p := hp
    rw [List.getElem?_map] at hp'
    cases hq : x.cps.toList[i]? with
    | none => rw [hq] at hp'; cases hp'
    | some c =>
      rw [hq] at hp'
      cases hp'
      have hlt : i < x.cps.size := by simpa using (List.getElem?_eq_some_iff.mp hq).1
      refine ⟨hlt, fun v H' y => ?_⟩
      obtain ⟨e1, c', hc', rfl⟩ := y
      subst e1
      have : c' = c := by
        have e2 : x.cps.toList[i]? = some c' := by rw [Array.getElem?_toList]; exact hc'
        rw [hq] at e2
        exact (Option.some.inj e2).symm
      subst this
      exact ⟨.refl, w2, rfl⟩, by show x.cps.size ≤ (signs x).length; simp [signs]⟩
theorem iu_any (he : PU K mg W X e te fe) (hK : X.K = K := by rfl) : IU K mg W X tg e (iAnyT K te) (iAny fe) := by
  subst hK
  refine ⟨pi_any he.pe, fun N0 sgm env b H rhx M Q w en h => ?_⟩
  refine he.sem N0 sgm env b H rhx M _ w en (Post.bind h fun p b1 v H1 rhx1 M1 st w1 r1 h1 => ?_)
  cases p with
  | lst ps =>
    obtain ⟨a, vs, rfl, h2, n, r⟩ := id r1
    exact .inl ⟨a, rfl, ⟨vs, SqL.of h2⟩, h1 _ H1 rhx1 M1 .refl w1 (src_list w1 r1)⟩
  | tup ps =>
    obtain ⟨a, vs, rfl, h2, r⟩ := id r1
    exact .inr (.inl ⟨a, rfl, ⟨vs, h2⟩, h1 _ H1 rhx1 M1 .refl w1 (src_tup w1 r1)⟩)
  | str x => exact .inr (.inr ⟨x, r1, h1 _ H1 rhx1 M1 .refl w1 src_str⟩)
  | _ => exact h1.elim
theorem hu65 {k : Nat} {A : Around} (hr : Room k A) : A.units + 65 < cLine := by have := hr.un; omega
end
/-! ### constants of the module -/
mutual
def cstB (K : Frag) : P → Value → Bool
  | .non, .none => true
  | .bl b, .bool c => decide (b = c)
  | .int i, .int j _ => decide (i = j)
  | .str x, .str y _ => decide (x = y)
  | .tup ps, .ref a => (match K.lookup a with
    | some ⟨.type c, _, .seq its _, _⟩ => decide (c = "tuple") && (decide (its.size ≤ sizeLine) && cstBs K ps its.toList)
    | _ => false)
  | _, _ => false
def cstBs (K : Frag) : List P → List Value → Bool
  | [], [] => true
  | p :: ps, v :: vs => cstB K p v && cstBs K ps vs
  | _, _ => false
end
mutual
theorem cstB_ok {K : Frag} : ∀ (p : P) (u : Value), cstB K p u = true → ∃ v, RelV v u ∧ ∀ rhx M H, Rep K rhx M H p v
  | .non, .none, _ => ⟨.non, rfl, fun _ _ _ => rfl⟩
  | .bl b, .bool c, h => by
    have e : b = c := of_decide_eq_true h
    subst e
    exact ⟨.bl b, rfl, fun _ _ _ => rfl⟩
  | .int i, .int j t, h => by
    have e : i = j := of_decide_eq_true h
    subst e
    exact ⟨.int i, ⟨t, rfl⟩, fun _ _ _ => rfl⟩
  | .str i, .str j t, h => by
    have e : i = j := of_decide_eq_true h
    subst e
    exact ⟨.str i, ⟨t, rfl⟩, fun _ _ _ => rfl⟩
  | .tup ps, .ref a, h => by
    have h' : (match K.lookup a with
    | some ⟨.type c, _, .seq its _, _⟩ => decide (c = "tuple") && (decide (its.size ≤ sizeLine) && cstBs K ps its.toList)
    | _ => false) = true := h
    split at h'
    · rename_i c dd its n sl hk
      rw [Bool.and_eq_true, Bool.and_eq_true] at h'
      have e : c = "tuple" := of_decide_eq_true h'.1
      subst e
      obtain ⟨vs, r1, r2⟩ := cstBs_ok ps its.toList h'.2.2
      exact ⟨.ref a, rfl, fun rhx M H => ⟨a, vs, rfl, .inr ⟨_, its, n, hk, rfl, rfl, of_decide_eq_true h'.2.1, r1⟩, r2 rhx M H⟩⟩
    · cases h'
theorem cstBs_ok {K : Frag} : ∀ (ps : List P) (us : List Value), cstBs K ps us = true → ∃ vs, Vals vs us ∧ ∀ rhx M H, Reps K rhx M H ps vs
  | [], [], _ => ⟨[], .nil, fun _ _ _ => rfl⟩
  | p :: ps, u :: us, h => by
    have h' : (cstB K p u && cstBs K ps us) = true := h
    rw [Bool.and_eq_true] at h'
    obtain ⟨v, r1, r2⟩ := cstB_ok p u h'.1
    obtain ⟨vs, r3, r4⟩ := cstBs_ok ps us h'.2
    exact ⟨v :: vs, .cons r1 r3, fun rhx M H => ⟨v, vs, rfl, r2 rhx M H, r4 rhx M H⟩⟩
end
/-- the module's names with their plain values -/
def cstsB (l : List (Str × P)) (K : Frag) : Bool := l.all fun q => match PySem.W.nsIn K mainGlobals q.1 with
  | some (some u) => cstB K q.2 u
  | _ => false
theorem csts_ok {l : List (Str × P)} {K : Frag} {h : Heap} {mg : Mg} (c : cstsB l K = true) (X : K.In h) (G : h.Ns mainGlobals mg) (i : Nat) {x : Str} {p : P} (hi : l[i]? = some (x, p) := by rfl) : ∃ u v, mg x = some u ∧ ConstOk K u v p := by
  have h1 := List.all_eq_true.mp c (x, p) (List.mem_of_getElem? hi)
  have h2 : (match PySem.W.nsIn K mainGlobals x with
  | some (some u) => cstB K p u
  | _ => false) = true := h1
  split at h2
  · rename_i u e
    obtain ⟨v, r1, r2⟩ := cstB_ok p u h2
    exact ⟨u, v, PySem.W.mg_of X G e, r1, r2⟩
  · cases h2
end PV

/-! PvB: reading the plain functions: one step at a time. -/
namespace PV
open PySem L2
theorem atI0 {α : Type} (a : α) (r : List α) : atI (a :: r) 0 = some a := by
  unfold atI ixN
  rw [if_pos (Int.le_refl 0), if_pos (by simp only [List.length_cons]; omega)]; rfl
theorem atI1 {α : Type} (a b : α) (r : List α) : atI (a :: b :: r) 1 = some b := by
  unfold atI ixN
  rw [if_pos (by decide), if_pos (by simp only [List.length_cons]; omega)]; rfl
theorem atI2 {α : Type} (a b c : α) (r : List α) : atI (a :: b :: c :: r) 2 = some c := by
  unfold atI ixN
  rw [if_pos (by decide), if_pos (by simp only [List.length_cons]; omega)]; rfl
theorem atI3 {α : Type} (a b c d : α) (r : List α) : atI (a :: b :: c :: d :: r) 3 = some d := by
  unfold atI ixN
  rw [if_pos (by decide), if_pos (by simp only [List.length_cons]; omega)]; rfl
theorem atI4 {α : Type} (a b c d e : α) (r : List α) : atI (a :: b :: c :: d :: e :: r) 4 = some e := by
  unfold atI ixN
  rw [if_pos (by decide), if_pos (by simp only [List.length_cons]; omega)]; rfl
theorem atI_ofNat {α : Type} {xs : List α} {n : Nat} {v : α} (h : xs[n]? = some v) : atI xs (n : Int) = some v := L2.atI_nat h
theorem ixN_nat {n k : Nat} (h : k < n) : ixN n (k : Int) = some k := by
  unfold ixN
  rw [if_pos (by omega), if_pos (by omega)]; simp
/-! ### big steps -/
section
variable {env env' e1 : Env} {b b0 b1 b2 b3 : Bx} {p q z r : P} {ps : List P} {fa fb fc fe fo : FE} {ft gt : FT} {fA : FA} {i : Nat} {f g : FS} {c : Bool} {o : SOut}
theorem ev_var (h : env[i]? = some (.va p)) : eVar i env b = .ok p b := by unfold eVar; rw [h]
theorem ev_c : eC p env b = .ok p b := rfl
theorem ev_op2 {h : Bx → P → P → Option P} (h1 : fa env b = .ok p b1) (h2 : fb env b1 = .ok q b2) (h3 : h b2 p q = some z) : eOp2 h fa fb env b = .ok z b2 := by unfold eOp2; rw [h1, Out.bind_ok, h2, Out.bind_ok, h3]; rfl
theorem ev_op1 {h : Bx → P → Option P} (h1 : fa env b = .ok p b1) (h3 : h b1 p = some z) : eOp1 h fa env b = .ok z b1 := by unfold eOp1; rw [h1, Out.bind_ok, h3]; rfl
theorem ev_isi {T : String} (h1 : fa env b = .ok p b1) (h3 : isiP T b1 p = some z) : eIsi T fa env b = .ok z b1 := ev_op1 h1 h3
theorem ev_call {h : Bx → List P → Option P} (h1 : fA env b = .ok ps b1) (h3 : h b1 ps = some z) : eCall h fA env b = .ok z b1 := by unfold eCall; rw [h1, Out.bind_ok, h3]; rfl
theorem ev_fn {d : List P → Bx → Out P} (h1 : fA env b = .ok ps b1) (h3 : d ps b1 = .ok z b2) : eFn d fA env b = .ok z b2 := by unfold eFn; rw [h1, Out.bind_ok, h3]
theorem ev_nil : aNil env b = .ok [] b := rfl
theorem ev_cons (h1 : fa env b = .ok p b1) (h2 : fA env b1 = .ok ps b2) : aCons fa fA env b = .ok (p :: ps) b2 := by unfold aCons; rw [h1, Out.bind_ok, h2]; rfl
theorem ev_tup (h1 : fA env b = .ok ps b1) (h2 : ps.length ≤ 1000) : eTup fA env b = .ok (.tup ps) b1 := by unfold eTup; rw [h1, Out.bind_ok, if_pos h2]
theorem ev_oLst (h1 : fA env b = .ok ps b1) (h2 : ps.length ≤ 1000) : oLst fA env b = .ok ps b1 := by unfold oLst; rw [h1, Out.bind_ok, if_pos h2]
theorem ev_frz {fo : FO} (h1 : fo env b = .ok ps b1) : eFrz fo env b = .ok (.lst ps) b1 := by unfold eFrz; rw [h1, Out.bind_ok]
theorem ev_box {fo : FO} (h1 : fo env b = .ok ps b1) : eBox fo env b = .ok (.box b1.length) (b1 ++ [.lst ps]) := by unfold eBox; rw [h1, Out.bind_ok]
theorem ev_oCall {h : Bx → List P → Option (List P)} {qs : List P} (h1 : fA env b = .ok ps b1) (h3 : h b1 ps = some qs) : oCall h fA env b = .ok qs b1 := by unfold oCall; rw [h1, Out.bind_ok, h3]; rfl
theorem ev_oSort (h1 : fa env b = .ok p b1) (h3 : ssP p = some ps) : oSortSet fa env b = .ok ps b1 := by unfold oSortSet; rw [h1, Out.bind_ok, h3]; rfl
theorem ev_andT (h1 : fa env b = .ok (.bl true) b1) (h2 : fb env b1 = .ok z b2) : eAnd fa fb env b = .ok z b2 := by unfold eAnd; rw [h1, Out.bind_ok]; exact h2
theorem ev_andF (h1 : fa env b = .ok (.bl false) b1) : eAnd fa fb env b = .ok (.bl false) b1 := by unfold eAnd; rw [h1, Out.bind_ok]
theorem ev_orF (h1 : fa env b = .ok (.bl false) b1) (h2 : fb env b1 = .ok z b2) : eOr fa fb env b = .ok z b2 := by unfold eOr; rw [h1, Out.bind_ok]; exact h2
theorem ev_orT (h1 : fa env b = .ok (.bl true) b1) : eOr fa fb env b = .ok (.bl true) b1 := by unfold eOr; rw [h1, Out.bind_ok]
theorem ev_ifT (h1 : ft env b = .ok true b1) (h2 : fa env b1 = .ok z b2) : eIf ft fa fb env b = .ok z b2 := by unfold eIf; rw [h1, Out.bind_ok]; exact h2
theorem ev_ifF (h1 : ft env b = .ok false b1) (h2 : fb env b1 = .ok z b2) : eIf ft fa fb env b = .ok z b2 := by unfold eIf; rw [h1, Out.bind_ok]; exact h2
theorem ev_tVal (h1 : fa env b = .ok (.bl c) b1) : tVal fa env b = .ok c b1 := by unfold tVal; rw [h1, Out.bind_ok]
theorem ev_tAndT (h1 : ft env b = .ok true b1) (h2 : gt env b1 = .ok c b2) : tAndF ft gt env b = .ok c b2 := by unfold tAndF; rw [h1, Out.bind_ok]; exact h2
theorem ev_tAndF (h1 : ft env b = .ok false b1) : tAndF ft gt env b = .ok false b1 := by unfold tAndF; rw [h1, Out.bind_ok]; rfl
theorem ev_tOrF (h1 : ft env b = .ok false b1) (h2 : gt env b1 = .ok c b2) : tOrF ft gt env b = .ok c b2 := by unfold tOrF; rw [h1, Out.bind_ok]; exact h2
theorem ev_tOrT (h1 : ft env b = .ok true b1) : tOrF ft gt env b = .ok true b1 := by unfold tOrF; rw [h1, Out.bind_ok]; rfl
theorem ev_tNot (h1 : ft env b = .ok c b1) : tNotF ft env b = .ok (!c) b1 := by unfold tNotF; rw [h1, Out.bind_ok]
theorem ev_chainT {h h' : Bx → P → P → Option P} (h1 : fa env b = .ok p b1) (h2 : fb env b1 = .ok q b2) (h3 : h b2 p q = some (.bl true)) (h4 : fc env b2 = .ok r b3) (h5 : h' b3 q r = some z) : eChain h h' fa fb fc env b = .ok z b3 := by
  unfold eChain; rw [h1, Out.bind_ok, h2, Out.bind_ok, h3]; simp only; rw [h4, Out.bind_ok, h5]; rfl
theorem ev_chainF {h h' : Bx → P → P → Option P} (h1 : fa env b = .ok p b1) (h2 : fb env b1 = .ok q b2) (h3 : h b2 p q = some (.bl false)) : eChain h h' fa fb fc env b = .ok (.bl false) b2 := by
  unfold eChain; rw [h1, Out.bind_ok, h2, Out.bind_ok, h3]
theorem ev_met1 {h : P → P → Option P} {x : Str} (h1 : fo env b = .ok (.str x) b1) (h2 : fe env b1 = .ok q b2) (h3 : h (.str x) q = some z) : eMet1 h fo fe env b = .ok z b2 := by unfold eMet1; rw [h1, Out.bind_ok]; simp only; rw [h2, Out.bind_ok, h3]; rfl
theorem ev_sl {fl fh : FOpt} {lo hi : Option Int} (h1 : fe env b = .ok p b1) (h2 : fl env b1 = .ok lo b2) (h3 : fh env b2 = .ok hi b3) (h4 : slP b3 p lo hi = some z) : eSl fe fl fh env b = .ok z b3 := by unfold eSl; rw [h1, Out.bind_ok, h2, Out.bind_ok, h3, Out.bind_ok, h4]; rfl
theorem ev_qNone : qNone env b = .ok none b := rfl
theorem ev_qSome {i : Int} (h1 : fe env b = .ok (.int i) b1) : qSome fe env b = .ok (some i) b1 := by unfold qSome; rw [h1, Out.bind_ok]
theorem ev_fld {C x : Str} {n : Nat} {fs : List (Str × P)} (h1 : fo env b = .ok (.box n) b1) (h2 : cellI C b1 n = some fs) (h3 : fs.lookup x = some z) : eFld C x fo env b = .ok z b1 := by unfold eFld; rw [h1, Out.bind_ok]; simp only; rw [h2, Option.bind_some, h3]; rfl
theorem ev_meth {C m : Str} {d : List P → Bx → Out P} {n : Nat} {fs : List (Str × P)} (h1 : fo env b = .ok (.box n) b1) (h2 : cellI C b1 n = some fs) (h3 : fs.lookup m = none) (h4 : fA env b1 = .ok ps b2) (h5 : d (.box n :: ps) b2 = .ok z b3) : eMethC C m d fo fA env b = .ok z b3 := by
  unfold eMethC; rw [h1, Out.bind_ok]; simp only; rw [h2]; simp only; rw [if_pos (by rw [h3]; rfl), h4, Out.bind_ok, h5]
theorem ev_make0 {C : Str} {d : List P → Bx → Out P} (h : d [.box b.length] (b ++ [.ins C []]) = .ok .non b1) : eMake0 C d env b = .ok (.box b.length) b1 := by unfold eMake0; rw [h]
theorem ev_jsNil {acc : Str} : eJs [] acc env b = .ok (.str acc) b := rfl
theorem ev_jsCons {fs : List FE} {acc y : Str} (h1 : fe env b = .ok (.str y) b1) (h2 : (acc ++ y).length ≤ 16000000) (h3 : eJs fs (acc ++ y) env b1 = .ok z b2) : eJs (fe :: fs) acc env b = .ok z b2 := by unfold eJs; rw [h1, Out.bind_ok]; simp only; rw [if_pos h2]; exact h3
/-- comprehensions -/
theorem ev_comp {fi : FI} {gf : FG} {vs : List Nat} {items qs : List P} (h1 : fi env b = .ok items b1) (h2 : items.length < 1000000) (h3 : compL gf ft fe (wipeE env vs) items b1 = .ok qs b2) : oComp fi gf ft fe vs env b = .ok qs b2 := by unfold oComp; rw [h1, Out.bind_ok, if_pos h2, h3]; rfl
theorem ev_iRg1 {n : Int} (h1 : fe env b = .ok (.int n) b1) (h2 : -(2 ^ 62) ≤ n ∧ n < 2 ^ 62) : iRg1 fe env b = .ok (rangeP 0 n) b1 := by unfold iRg1; rw [h1, Out.bind_ok]; simp only; rw [if_pos h2]
theorem ev_iRg2 {m n : Int} (h0 : fa env b = .ok (.int m) b1) (h1 : fe env b1 = .ok (.int n) b2) (h2 : -(2 ^ 62) ≤ m ∧ m < 2 ^ 62 ∧ -(2 ^ 62) ≤ n ∧ n < 2 ^ 62) : iRg2 fa fe env b = .ok (rangeP m n) b2 := by unfold iRg2; rw [h0, Out.bind_ok, h1, Out.bind_ok]; simp only; rw [if_pos h2]
theorem ev_iLst (h1 : fe env b = .ok (.lst ps) b1) : iAny fe env b = .ok ps b1 := by unfold iAny; rw [h1, Out.bind_ok]
theorem ev_iTup (h1 : fe env b = .ok (.tup ps) b1) : iAny fe env b = .ok ps b1 := by unfold iAny; rw [h1, Out.bind_ok]
theorem ev_iStr {x : Str} (h1 : fe env b = .ok (.str x) b1) : iAny fe env b = .ok (signs x) b1 := by unfold iAny; rw [h1, Out.bind_ok]
/-- a comprehension whose element is a plain function of the item; no box changes -/
theorem comp_map {gf : FG} {env0 : Env} {h : P → P} : ∀ {items : List P} {b : Bx}, (∀ p, p ∈ items → ∃ e1, gf p env0 = some e1 ∧ ft e1 b = .ok true b ∧ fe e1 b = .ok (h p) b) → compL gf ft fe env0 items b = .ok (items.map h) b
  | [], b, _ => rfl
  | p :: items, b, H => by
    obtain ⟨e1, h1, h2, h3⟩ := H p List.mem_cons_self
    unfold compL
    rw [h1]
    simp only [h2, Out.bind_ok, if_true, h3, comp_map fun q hq => H q (List.mem_cons_of_mem _ hq)]
    rfl
theorem comp_filter {gf : FG} {env0 : Env} {h : P → P} {t : P → Bool} : ∀ {items : List P} {b : Bx}, (∀ p, p ∈ items → ∃ e1, gf p env0 = some e1 ∧ ft e1 b = .ok (t p) b ∧ (t p = true → fe e1 b = .ok (h p) b)) → compL gf ft fe env0 items b = .ok ((items.filter t).map h) b
  | [], b, _ => rfl
  | p :: items, b, H => by
    obtain ⟨e1, h1, h2, h3⟩ := H p List.mem_cons_self
    have ih : compL gf ft fe env0 items b = .ok ((items.filter t).map h) b := comp_filter fun q hq => H q (List.mem_cons_of_mem _ hq)
    unfold compL
    rw [h1]
    simp only [h2, Out.bind_ok]
    cases ht : t p with
    | true => simp only [if_true, h3 ht, Out.bind_ok, ih, List.filter_cons, ht, List.map_cons]
    | false => simp only [Bool.false_eq_true, if_false, ih, List.filter_cons, ht]
/-- statements -/
theorem sv_seq (h1 : f env b = .nx e1 b1) (h2 : g e1 b1 = o) : sSeq f g env b = o := by unfold sSeq; rw [h1]; exact h2
theorem sv_seqR (h1 : f env b = .rt p b1) : sSeq f g env b = .rt p b1 := by unfold sSeq; rw [h1]
theorem sv_seqC (h1 : f env b = .ct e1 b1) : sSeq f g env b = .ct e1 b1 := by unfold sSeq; rw [h1]
theorem sv_seqB (h1 : f env b = .bk e1 b1) : sSeq f g env b = .bk e1 b1 := by unfold sSeq; rw [h1]
theorem sv_set (h1 : fe env b = .ok p b1) : sSet i fe env b = .nx (env.set i (.va p)) b1 := by unfold sSet; rw [h1]; rfl
theorem sv_setO {fo : FO} (h1 : fo env b = .ok ps b1) : sSetO i fo env b = .nx (env.set i (.ow ps)) b1 := by unfold sSetO; rw [h1]; rfl
theorem sv_ret (h1 : fe env b = .ok p b1) : sRet fe env b = .rt p b1 := by unfold sRet; rw [h1]; rfl
theorem sv_expr (h1 : fe env b = .ok p b1) : sExpr fe env b = .nx env b1 := by unfold sExpr; rw [h1]; rfl
theorem sv_ifT (h1 : ft env b = .ok true b1) (h2 : f env b1 = o) : sIf ft f g env b = o := by unfold sIf; rw [h1, Out.st_ok, if_pos rfl]; exact h2
theorem sv_ifF (h1 : ft env b = .ok false b1) (h2 : g env b1 = o) : sIf ft f g env b = o := by unfold sIf; rw [h1, Out.st_ok, if_neg (by decide)]; exact h2
theorem sv_asg {gf : FG} (h1 : fe env b = .ok p b1) (h2 : gf p env = some e1) : sAsg gf fe env b = .nx e1 b1 := by unfold sAsg; rw [h1, Out.st_ok, h2]
theorem sv_append {xs : List P} (h0 : env[i]? = some (.ow xs)) (h1 : fe env b = .ok p b1) (h2 : xs.length < 1000000) : sAppend i fe env b = .nx (env.set i (.ow (xs ++ [p]))) b1 := by unfold sAppend; rw [h0]; simp only; rw [h1, Out.st_ok, if_pos h2]
theorem sv_extend {xs : List P} (h0 : env[i]? = some (.ow xs)) (h1 : fe env b = .ok (.lst ps) b1) (h2 : xs.length + ps.length < 1000000) : sExtend i fe env b = .nx (env.set i (.ow (xs ++ ps))) b1 := by unfold sExtend; rw [h0]; simp only; rw [h1, Out.st_ok]; simp only; rw [if_pos h2]
theorem sv_for {fi : FI} {gf : FG} {items : List P} (h1 : fi env b = .ok items b1) (h2 : forL gf f items env b1 = o) : sFor fi gf f env b = o := by unfold sFor; rw [h1]; exact h2
theorem sv_boxSet {fv fo fi : FE} {n j : Nat} {k : Int} {xs : List P} (h1 : fv env b = .ok p b1) (h2 : fo env b1 = .ok (.box n) b2) (h3 : fi env b2 = .ok (.int k) b3) (h4 : cellL b3 n = some xs) (h5 : ixN xs.length k = some j) : sBoxSet fv fo fi env b = .nx env (b3.set n (.lst (xs.set j p))) := by
  unfold sBoxSet; rw [h1, Out.st_ok, h2, Out.st_ok, h3, Out.st_ok]; simp only [h4, h5]
theorem sv_fldSet {C x : Str} {fv fo : FE} {n : Nat} {fs : List (Str × P)} (h1 : fv env b = .ok p b1) (h2 : fo env b1 = .ok (.box n) b2) (h3 : cellI C b2 n = some fs) (h4 : fs.length < 900) : sFldSet C x fv fo env b = .nx env (b2.set n (.ins C (putP x p fs))) := by
  unfold sFldSet; rw [h1, Out.st_ok, h2, Out.st_ok]; simp only [h3, if_pos h4]
theorem sv_frz (h : f (frzE env i) b = o) : sFrz i f env b = o := h
theorem sv_tryNo (h : f env b = .nx e1 b1) : sTryNo f env b = .nx e1 b1 := by unfold sTryNo; rw [h]
theorem sv_tryNoR (h : f env b = .rt p b1) : sTryNo f env b = .rt p b1 := by unfold sTryNo; rw [h]
/-- a for in which each turn keeps a shape -/
theorem for_fold {S : Type} (enc : S → Env) (st : S → P → S) {gf : FG} {f : FS} : ∀ {items : List P} {s : S} {b : Bx}, (∀ s p, p ∈ items → ∃ e1, gf p (enc s) = some e1 ∧ (f e1 b = .nx (enc (st s p)) b ∨ f e1 b = .ct (enc (st s p)) b)) → forL gf f items (enc s) b = .nx (enc (items.foldl st s)) b
  | [], s, b, _ => rfl
  | p :: items, s, b, H => by
    obtain ⟨e1, h1, h2⟩ := H s p List.mem_cons_self
    have ih : forL gf f items (enc (st s p)) b = .nx (enc (items.foldl st (st s p))) b := for_fold enc st fun s q hq => H s q (List.mem_cons_of_mem _ hq)
    unfold forL
    rw [h1]
    rcases h2 with h2 | h2 <;> simp only [h2, ih, List.foldl_cons]
theorem dv_rt {n m : Nat} (hn : ps.length = n) (h : f (ps.map .va ++ List.replicate (m - n) .un) b = .rt p b1) : mkDef n m f ps b = .ok p b1 := by unfold mkDef; rw [if_pos hn, h]; rfl
theorem dv_nx {n m : Nat} (hn : ps.length = n) (h : f (ps.map .va ++ List.replicate (m - n) .un) b = .nx e1 b1) : mkDef n m f ps b = .ok .non b1 := by unfold mkDef; rw [if_pos hn, h]; rfl
end
/-! ### operators whose answer is known -/
theorem leP_T {b : Bx} {i j : Int} (h : i ≤ j) : leP b (.int i) (.int j) = some (.bl true) := by simp [leP, cmpI, h]
theorem leP_F {b : Bx} {i j : Int} (h : ¬ i ≤ j) : leP b (.int i) (.int j) = some (.bl false) := by simp only [leP, cmpI, decide_eq_false h]
theorem geP_T {b : Bx} {i j : Int} (h : j ≤ i) : geP b (.int i) (.int j) = some (.bl true) := by simp [geP, cmpI, h]
theorem geP_F {b : Bx} {i j : Int} (h : ¬ j ≤ i) : geP b (.int i) (.int j) = some (.bl false) := by simp only [geP, cmpI, decide_eq_false h]
theorem gtP_T {b : Bx} {i j : Int} (h : j < i) : gtP b (.int i) (.int j) = some (.bl true) := by simp [gtP, cmpI, h]
theorem gtP_F {b : Bx} {i j : Int} (h : ¬ j < i) : gtP b (.int i) (.int j) = some (.bl false) := by simp only [gtP, cmpI, decide_eq_false h]
theorem ltP_T {b : Bx} {i j : Int} (h : i < j) : ltP b (.int i) (.int j) = some (.bl true) := by simp [ltP, h]
theorem ltP_F {b : Bx} {i j : Int} (h : ¬ i < j) : ltP b (.int i) (.int j) = some (.bl false) := by simp only [ltP, decide_eq_false h]
theorem eqP_T {b : Bx} {i j : Int} (h : i = j) : eqP b (.int i) (.int j) = some (.bl true) := by simp [eqP, eqB, h]
theorem eqP_F {b : Bx} {i j : Int} (h : ¬ i = j) : eqP b (.int i) (.int j) = some (.bl false) := by simp [eqP, eqB, h]
theorem neP_T {b : Bx} {i j : Int} (h : ¬ i = j) : neP b (.int i) (.int j) = some (.bl true) := by simp [neP, eqB, h]
theorem neP_F {b : Bx} {i j : Int} (h : i = j) : neP b (.int i) (.int j) = some (.bl false) := by simp [neP, eqB, h]
theorem mulP_r {b : Bx} {i j : Int} (h : -(2 ^ 64) < j ∧ j < 2 ^ 64) : mulP b (.int i) (.int j) = some (.int (i * j)) := by unfold mulP; simp only; rw [if_pos (.inr h)]
theorem mulP_l {b : Bx} {i j : Int} (h : -(2 ^ 64) < i ∧ i < 2 ^ 64) : mulP b (.int i) (.int j) = some (.int (i * j)) := by unfold mulP; simp only; rw [if_pos (.inl h)]
theorem modP_p {b : Bx} {i j : Int} (h : 0 < j) : modP b (.int i) (.int j) = some (.int (i % j)) := by unfold modP; simp only; rw [if_pos h]
theorem divP_p {b : Bx} {i j : Int} (h : 0 < j ∧ j < 1073741824) : divP b (.int i) (.int j) = some (.int (i / j)) := by unfold divP; simp only; rw [if_pos h]
end PV

/-! PvC: reading the plain functions by rewriting: each constructor applied, with what waits held unread. -/
namespace PV
open PySem L2
def vaO : Option Slot → Bx → Out P
  | some (.va p), b => .ok p b
  | _, _ => .no
def k1 {α β : Type} (g : Bx → α → Option β) (o : Out α) : Out β := o.bind fun p b => ofO (g b p) b
def k2b (g : Bx → P → P → Option P) (p : P) (o : Out P) : Out P := o.bind fun q b => ofO (g b p q) b
def k2a (g : Bx → P → P → Option P) (o : Out P) (fb : FE) (env : Env) : Out P := o.bind fun p b => k2b g p (fb env b)
def kf (d : List P → Bx → Out P) (o : Out (List P)) : Out P := o.bind d
def kcb (p : P) (o : Out (List P)) : Out (List P) := o.bind fun ps b => .ok (p :: ps) b
def kca (o : Out P) (fr : FA) (env : Env) : Out (List P) := o.bind fun p b => kcb p (fr env b)
def ktu (o : Out (List P)) : Out P := o.bind fun ps b => if ps.length ≤ 1000 then .ok (.tup ps) b else .no
def kol (o : Out (List P)) : Out (List P) := o.bind fun ps b => if ps.length ≤ 1000 then .ok ps b else .no
def kand (o : Out P) (fb : FE) (env : Env) : Out P := o.bind fun p b => match p with
  | .bl true => fb env b
  | .bl false => .ok (.bl false) b
  | _ => .no
def kor (o : Out P) (fb : FE) (env : Env) : Out P := o.bind fun p b => match p with
  | .bl true => .ok (.bl true) b
  | .bl false => fb env b
  | _ => .no
def kif (o : Out Bool) (fa fb : FE) (env : Env) : Out P := o.bind fun c b => if c = true then fa env b else fb env b
def ktv (o : Out P) : Out Bool := o.bind fun p b => match p with
  | .bl c => .ok c b
  | _ => .no
def kta (o : Out Bool) (fb : FT) (env : Env) : Out Bool := o.bind fun c b => if c = true then fb env b else .ok false b
def kto (o : Out Bool) (fb : FT) (env : Env) : Out Bool := o.bind fun c b => if c = true then .ok true b else fb env b
def ktn (o : Out Bool) : Out Bool := o.bind fun c b => .ok (!c) b
def kfz (o : Out (List P)) : Out P := o.bind fun ps b => .ok (.lst ps) b
def kbx (o : Out (List P)) : Out P := o.bind fun ps b => .ok (.box b.length) (b ++ [.lst ps])
def kc3 (g' : Bx → P → P → Option P) (q : P) (o : Out P) : Out P := o.bind fun r b => ofO (g' b q r) b
def kc2c (g' : Bx → P → P → Option P) (q : P) (c : Option P) (fc : FE) (env : Env) (b : Bx) : Out P := match c with
  | some (.bl true) => kc3 g' q (fc env b)
  | some (.bl false) => .ok (.bl false) b
  | _ => .no
def kc2 (g g' : Bx → P → P → Option P) (p : P) (o : Out P) (fc : FE) (env : Env) : Out P := o.bind fun q b => kc2c g' q (g b p q) fc env b
def kc1 (g g' : Bx → P → P → Option P) (o : Out P) (fb fc : FE) (env : Env) : Out P := o.bind fun p b => kc2 g g' p (fb env b) fc env
def km2 (g : P → P → Option P) (x : Str) (o : Out P) : Out P := o.bind fun q b => ofO (g (.str x) q) b
def km1 (g : P → P → Option P) (o : Out P) (fe : FE) (env : Env) : Out P := o.bind fun p b => match p with
  | .str x => km2 g x (fe env b)
  | _ => .no
def ks3 (p : P) (lo : Option Int) (o : Out (Option Int)) : Out P := o.bind fun hi b => ofO (slP b p lo hi) b
def ks2 (p : P) (o : Out (Option Int)) (fh : FOpt) (env : Env) : Out P := o.bind fun lo b => ks3 p lo (fh env b)
def ks1 (o : Out P) (fl fh : FOpt) (env : Env) : Out P := o.bind fun p b => ks2 p (fl env b) fh env
def kqs (o : Out P) : Out (Option Int) := o.bind fun p b => match p with
  | .int i => .ok (some i) b
  | _ => .no
def lkF (x : Str) (o : Option (List (Str × P))) : Option P := o.bind fun fs => fs.lookup x
def kfl (C x : Str) (o : Out P) : Out P := o.bind fun p b => match p with
  | .box n => ofO (lkF x (cellI C b n)) b
  | _ => .no
def kmd (d : List P → Bx → Out P) (p : P) (o : Out (List P)) : Out P := o.bind fun ps b => d (p :: ps) b
def kmc2 (m : Str) (d : List P → Bx → Out P) (n : Nat) (c : Option (List (Str × P))) (fa : FA) (env : Env) (b : Bx) : Out P := match c with
  | some fs => if (fs.lookup m).isNone then kmd d (.box n) (fa env b) else .no
  | none => .no
def kmc (C m : Str) (d : List P → Bx → Out P) (o : Out P) (fa : FA) (env : Env) : Out P := o.bind fun p b => match p with
  | .box n => kmc2 m d n (cellI C b n) fa env b
  | _ => .no
def kmk (n : Nat) (o : Out P) : Out P := match o with
  | .ok .non b1 => .ok (.box n) b1
  | _ => .no
def kjs (o : Out P) (fs : List FE) (acc : Str) (env : Env) : Out P := o.bind fun p b => match p with
  | .str y => if (acc ++ y).length ≤ 16000000 then eJs fs (acc ++ y) env b else .no
  | _ => .no
def kit (o : Out P) : Out (List P) := o.bind fun p b => match p with
  | .lst ps => .ok ps b
  | .tup ps => .ok ps b
  | .str x => .ok (signs x) b
  | _ => .no
def krg (o : Out P) : Out (List P) := o.bind fun p b => match p with
  | .int n => if -(2 ^ 62) ≤ n ∧ n < 2 ^ 62 then .ok (rangeP 0 n) b else .no
  | _ => .no
def krg3 (p : P) (o : Out P) : Out (List P) := o.bind fun q b => match p, q with
  | .int m, .int n => if -(2 ^ 62) ≤ m ∧ m < 2 ^ 62 ∧ -(2 ^ 62) ≤ n ∧ n < 2 ^ 62 then .ok (rangeP m n) b else .no
  | _, _ => .no
def krg2 (o : Out P) (fb : FE) (env : Env) : Out (List P) := o.bind fun p b => krg3 p (fb env b)
def kcm (o : Out (List P)) (gf : FG) (ft : FT) (fe : FE) (env : Env) : Out (List P) := o.bind fun items b => if items.length < 1000000 then noEx (compL gf ft fe env items b) else .no
/-! statements -/
def ksq (o : SOut) (g : FS) : SOut := match o with
  | .nx e b => g e b
  | o => o
def kst (i : Nat) (env : Env) (o : Out P) : SOut := o.st env fun p b => .nx (env.set i (.va p)) b
def kso (i : Nat) (env : Env) (o : Out (List P)) : SOut := o.st env fun p b => .nx (env.set i (.ow p)) b
def krt (env : Env) (o : Out P) : SOut := o.st env fun p b => .rt p b
def kex (env : Env) (o : Out P) : SOut := o.st env fun p b => .nx env b
def ksi (o : Out Bool) (f g : FS) (env : Env) : SOut := o.st env fun c b => if c = true then f env b else g env b
def ofE (o : Option Env) (b : Bx) : SOut := match o with
  | some e => .nx e b
  | none => .no
def kas (g : FG) (env : Env) (o : Out P) : SOut := o.st env fun p b => ofE (g p env) b
def kap (xs : List P) (i : Nat) (env : Env) (o : Out P) : SOut := o.st env fun p b => if xs.length < 1000000 then .nx (env.set i (.ow (xs ++ [p]))) b else .no
def kap0 (s : Option Slot) (i : Nat) (fe : FE) (env : Env) (b : Bx) : SOut := match s with
  | some (.ow xs) => kap xs i env (fe env b)
  | _ => .no
def kxt (xs : List P) (i : Nat) (env : Env) (o : Out P) : SOut := o.st env fun p b => match p with
  | .lst ps => if xs.length + ps.length < 1000000 then .nx (env.set i (.ow (xs ++ ps))) b else .no
  | _ => .no
def kxt0 (s : Option Slot) (i : Nat) (fe : FE) (env : Env) (b : Bx) : SOut := match s with
  | some (.ow xs) => kxt xs i env (fe env b)
  | _ => .no
def kfo (g : FG) (f : FS) (env : Env) (o : Out (List P)) : SOut := o.st env fun items b => forL g f items env b
def kbsB (env : Env) (n : Nat) (p : P) (xs : List P) (j : Option Nat) (b : Bx) : SOut := match j with
  | some j => .nx env (b.set n (.lst (xs.set j p)))
  | none => .no
def kbsC (env : Env) (n : Nat) (i : Int) (p : P) (c : Option (List P)) (b : Bx) : SOut := match c with
  | some xs => kbsB env n p xs (ixN xs.length i) b
  | none => .no
def kbs3 (env : Env) (p q : P) (o : Out P) : SOut := o.st env fun r b => match q, r with
  | .box n, .int i => kbsC env n i p (cellL b n) b
  | _, _ => .no
def kbs2 (env : Env) (p : P) (o : Out P) (fi : FE) : SOut := o.st env fun q b => kbs3 env p q (fi env b)
def kbs1 (env : Env) (o : Out P) (fo fi : FE) : SOut := o.st env fun p b => kbs2 env p (fo env b) fi
def kfsC (env : Env) (C x : Str) (n : Nat) (p : P) (c : Option (List (Str × P))) (b : Bx) : SOut := match c with
  | some fs => if fs.length < 900 then .nx env (b.set n (.ins C (putP x p fs))) else .no
  | none => .no
def kfs2 (C x : Str) (env : Env) (p : P) (o : Out P) : SOut := o.st env fun q b => match q with
  | .box n => kfsC env C x n p (cellI C b n) b
  | _ => .no
def kfs1 (C x : Str) (env : Env) (o : Out P) (fo : FE) : SOut := o.st env fun p b => kfs2 C x env p (fo env b)
def ktr (o : SOut) : SOut := match o with
  | .ex _ _ _ => .no
  | o => o
section
variable {env e : Env} {b b1 : Bx} {p q r z : P} {ps xs items : List P} {fa fb fc fe fo fi fv : FE} {fr fA : FA} {ft gt : FT} {f g : FS} {gf : FG} {i j n m : Nat} {x y C acc : Str} {c : Bool} {k l : Int} {fs : List FE} {fl fh : FOpt}
  {h h' : Bx → P → P → Option P} {d : List P → Bx → Out P}
theorem q_var : eVar i env b = vaO env[i]? b := by unfold eVar vaO; cases env[i]? with | none => rfl | some s => cases s <;> rfl
theorem q_va : vaO (some (.va p)) b = .ok p b := rfl
theorem q_c : eC p env b = .ok p b := rfl
theorem q_op2 : eOp2 h fa fb env b = k2a h (fa env b) fb env := rfl
theorem q_2a : k2a h (.ok p b) fb env = k2b h p (fb env b) := rfl
theorem q_2b : k2b h p (.ok q b) = ofO (h b p q) b := rfl
theorem q_op1 {h : Bx → P → Option P} : eOp1 h fa env b = k1 h (fa env b) := rfl
theorem q_isi {T : String} : eIsi T fa env b = k1 (isiP T) (fa env b) := rfl
theorem q_call {h : Bx → List P → Option P} : eCall h fA env b = k1 h (fA env b) := rfl
theorem q_oCall {h : Bx → List P → Option (List P)} : oCall h fA env b = k1 h (fA env b) := rfl
theorem q_oSort : oSortSet fa env b = k1 (fun _ => ssP) (fa env b) := rfl
theorem q_1 {α β : Type} {h : Bx → α → Option β} {a : α} : k1 h (.ok a b) = ofO (h b a) b := rfl
theorem q_fn : eFn d fA env b = kf d (fA env b) := rfl
theorem q_f : kf d (.ok ps b) = d ps b := rfl
theorem q_nil : aNil env b = .ok [] b := rfl
theorem q_cons : aCons fa fr env b = kca (fa env b) fr env := rfl
theorem q_ca : kca (.ok p b) fr env = kcb p (fr env b) := rfl
theorem q_cb : kcb p (.ok ps b) = .ok (p :: ps) b := rfl
theorem q_tup : eTup fA env b = ktu (fA env b) := rfl
theorem q_tu : ktu (.ok ps b) = if ps.length ≤ 1000 then .ok (.tup ps) b else .no := rfl
theorem q_oLst : oLst fA env b = kol (fA env b) := rfl
theorem q_ol : kol (.ok ps b) = if ps.length ≤ 1000 then .ok ps b else .no := rfl
theorem q_and : eAnd fa fb env b = kand (fa env b) fb env := rfl
theorem q_andT : kand (.ok (.bl true) b) fb env = fb env b := rfl
theorem q_andF : kand (.ok (.bl false) b) fb env = .ok (.bl false) b := rfl
theorem q_or : eOr fa fb env b = kor (fa env b) fb env := rfl
theorem q_orT : kor (.ok (.bl true) b) fb env = .ok (.bl true) b := rfl
theorem q_orF : kor (.ok (.bl false) b) fb env = fb env b := rfl
theorem q_if : eIf ft fa fb env b = kif (ft env b) fa fb env := rfl
theorem q_ifT : kif (.ok true b) fa fb env = fa env b := rfl
theorem q_ifF : kif (.ok false b) fa fb env = fb env b := rfl
theorem q_tVal : tVal fa env b = ktv (fa env b) := rfl
theorem q_tv : ktv (.ok (.bl c) b) = .ok c b := rfl
theorem q_tAnd : tAndF ft gt env b = kta (ft env b) gt env := rfl
theorem q_taT : kta (.ok true b) gt env = gt env b := rfl
theorem q_taF : kta (.ok false b) gt env = .ok false b := rfl
theorem q_tOr : tOrF ft gt env b = kto (ft env b) gt env := rfl
theorem q_toT : kto (.ok true b) gt env = .ok true b := rfl
theorem q_toF : kto (.ok false b) gt env = gt env b := rfl
theorem q_tNot : tNotF ft env b = ktn (ft env b) := rfl
theorem q_tn : ktn (.ok c b) = .ok (!c) b := rfl
theorem q_yes : tYesF env b = .ok true b := rfl
theorem q_frz {fo : FO} : eFrz fo env b = kfz (fo env b) := rfl
theorem q_fz : kfz (.ok ps b) = .ok (.lst ps) b := rfl
theorem q_box {fo : FO} : eBox fo env b = kbx (fo env b) := rfl
theorem q_bx : kbx (.ok ps b) = .ok (.box b.length) (b ++ [.lst ps]) := rfl
theorem q_chain : eChain h h' fa fb fc env b = kc1 h h' (fa env b) fb fc env := rfl
theorem q_c1 : kc1 h h' (.ok p b) fb fc env = kc2 h h' p (fb env b) fc env := rfl
theorem q_c2 : kc2 h h' p (.ok q b) fc env = kc2c h' q (h b p q) fc env b := rfl
theorem q_c2T : kc2c h' q (some (.bl true)) fc env b = kc3 h' q (fc env b) := rfl
theorem q_c2F : kc2c h' q (some (.bl false)) fc env b = .ok (.bl false) b := rfl
theorem q_c3 : kc3 h' q (.ok r b) = ofO (h' b q r) b := rfl
theorem q_met1 {h : P → P → Option P} : eMet1 h fo fe env b = km1 h (fo env b) fe env := rfl
theorem q_m1 {h : P → P → Option P} : km1 h (.ok (.str x) b) fe env = km2 h x (fe env b) := rfl
theorem q_m2 {h : P → P → Option P} : km2 h x (.ok q b) = ofO (h (.str x) q) b := rfl
theorem q_sl : eSl fe fl fh env b = ks1 (fe env b) fl fh env := rfl
theorem q_s1 : ks1 (.ok p b) fl fh env = ks2 p (fl env b) fh env := rfl
theorem q_s2 {lo : Option Int} : ks2 p (.ok lo b) fh env = ks3 p lo (fh env b) := rfl
theorem q_s3 {lo hi : Option Int} : ks3 p lo (.ok hi b) = ofO (slP b p lo hi) b := rfl
theorem q_qN : qNone env b = .ok none b := rfl
theorem q_qS : qSome fe env b = kqs (fe env b) := rfl
theorem q_qs : kqs (.ok (.int k) b) = .ok (some k) b := rfl
theorem q_fld : eFld C x fo env b = kfl C x (fo env b) := rfl
theorem q_fl : kfl C x (.ok (.box n) b) = ofO (lkF x (cellI C b n)) b := rfl
theorem q_lk {fs : List (Str × P)} : lkF x (some fs) = fs.lookup x := rfl
theorem q_meth : eMethC C x d fo fA env b = kmc C x d (fo env b) fA env := by
  unfold eMethC kmc kmc2 kmd
  congr 1
  funext p b1
  cases p <;> try rfl
theorem q_mc : kmc C x d (.ok (.box n) b) fA env = kmc2 x d n (cellI C b n) fA env b := rfl
theorem q_mc2 {fs : List (Str × P)} : kmc2 x d n (some fs) fA env b = if (fs.lookup x).isNone then kmd d (.box n) (fA env b) else .no := rfl
theorem q_md : kmd d p (.ok ps b) = d (p :: ps) b := rfl
theorem q_make : eMake0 C d env b = kmk b.length (d [.box b.length] (b ++ [.ins C []])) := by
  unfold eMake0 kmk
  generalize d [.box b.length] (b ++ [.ins C []]) = o
  cases o with
  | ok p b1 => cases p <;> rfl
  | _ => rfl
theorem q_mk : kmk n (.ok .non b) = .ok (.box n) b := rfl
theorem q_jsN : eJs [] acc env b = .ok (.str acc) b := rfl
theorem q_jsC : eJs (fa :: fs) acc env b = kjs (fa env b) fs acc env := rfl
theorem q_js : kjs (.ok (.str y) b) fs acc env = if (acc ++ y).length ≤ 16000000 then eJs fs (acc ++ y) env b else .no := rfl
theorem q_iAny : iAny fe env b = kit (fe env b) := rfl
theorem q_itL : kit (.ok (.lst ps) b) = .ok ps b := rfl
theorem q_itT : kit (.ok (.tup ps) b) = .ok ps b := rfl
theorem q_itS : kit (.ok (.str x) b) = .ok (signs x) b := rfl
theorem q_iRg1 : iRg1 fe env b = krg (fe env b) := rfl
theorem q_rg1 : krg (.ok (.int k) b) = if -(2 ^ 62) ≤ k ∧ k < 2 ^ 62 then .ok (rangeP 0 k) b else .no := rfl
theorem q_iRg2 : iRg2 fa fb env b = krg2 (fa env b) fb env := rfl
theorem q_rg2 : krg2 (.ok p b) fb env = krg3 p (fb env b) := rfl
theorem q_rg3 : krg3 (.int l) (.ok (.int k) b) = if -(2 ^ 62) ≤ l ∧ l < 2 ^ 62 ∧ -(2 ^ 62) ≤ k ∧ k < 2 ^ 62 then .ok (rangeP l k) b else .no := rfl
theorem q_comp {fi : FI} {vs : List Nat} : oComp fi gf ft fe vs env b = kcm (fi env b) gf ft fe (wipeE env vs) := rfl
theorem q_cm : kcm (.ok items b) gf ft fe env = if items.length < 1000000 then noEx (compL gf ft fe env items b) else .no := rfl
theorem q_noEx {α : Type} {a : α} : noEx (.ok a b) = .ok a b := rfl
theorem q_w0 : wipeE env [] = env := rfl
theorem q_w1 {vs : List Nat} : wipeE env (i :: vs) = (wipeE env vs).set i .un := rfl
theorem q_seq : sSeq f g env b = ksq (f env b) g := by unfold sSeq ksq; cases f env b <;> rfl
theorem q_sqN : ksq (.nx e b) g = g e b := rfl
theorem q_sqR : ksq (.rt p b) g = .rt p b := rfl
theorem q_sqC : ksq (.ct e b) g = .ct e b := rfl
theorem q_sqB : ksq (.bk e b) g = .bk e b := rfl
theorem q_skip : sSkip env b = .nx env b := rfl
theorem q_cont : sCont env b = .ct env b := rfl
theorem q_break : sBreak env b = .bk env b := rfl
theorem q_retN : sRetN env b = .rt .non b := rfl
theorem q_set : sSet i fe env b = kst i env (fe env b) := rfl
theorem q_st : kst i env (.ok p b) = .nx (env.set i (.va p)) b := rfl
theorem q_setO {fo : FO} : sSetO i fo env b = kso i env (fo env b) := rfl
theorem q_so : kso i env (.ok ps b) = .nx (env.set i (.ow ps)) b := rfl
theorem q_ret : sRet fe env b = krt env (fe env b) := rfl
theorem q_rt : krt env (.ok p b) = .rt p b := rfl
theorem q_expr : sExpr fe env b = kex env (fe env b) := rfl
theorem q_ex : kex env (.ok p b) = .nx env b := rfl
theorem q_sIf : sIf ft f g env b = ksi (ft env b) f g env := rfl
theorem q_siT : ksi (.ok true b) f g env = f env b := rfl
theorem q_siF : ksi (.ok false b) f g env = g env b := rfl
theorem q_asg : sAsg gf fe env b = kas gf env (fe env b) := by unfold sAsg kas; cases fe env b with | ok p b1 => simp only [Out.st_ok]; unfold ofE; cases gf p env <;> rfl | _ => rfl
theorem q_as : kas gf env (.ok p b) = ofE (gf p env) b := rfl
theorem q_ofE : ofE (some e) b = .nx e b := rfl
theorem q_append : sAppend i fe env b = kap0 env[i]? i fe env b := by unfold sAppend kap0 kap; cases env[i]? with | none => rfl | some s => cases s <;> rfl
theorem q_ap0 : kap0 (some (.ow xs)) i fe env b = kap xs i env (fe env b) := rfl
theorem q_ap : kap xs i env (.ok p b) = if xs.length < 1000000 then .nx (env.set i (.ow (xs ++ [p]))) b else .no := rfl
theorem q_extend : sExtend i fe env b = kxt0 env[i]? i fe env b := by unfold sExtend kxt0 kxt; cases env[i]? with | none => rfl | some s => cases s <;> rfl
theorem q_xt0 : kxt0 (some (.ow xs)) i fe env b = kxt xs i env (fe env b) := rfl
theorem q_xt : kxt xs i env (.ok (.lst ps) b) = if xs.length + ps.length < 1000000 then .nx (env.set i (.ow (xs ++ ps))) b else .no := rfl
theorem q_for {fi : FI} : sFor fi gf f env b = kfo gf f env (fi env b) := rfl
theorem q_fo : kfo gf f env (.ok items b) = forL gf f items env b := rfl
theorem q_boxSet : sBoxSet fv fo fi env b = kbs1 env (fv env b) fo fi := by
  unfold sBoxSet kbs1 kbs2 kbs3 kbsC kbsB
  first
  | rfl
  | (cases fv env b with
     | ok p b1 =>
       simp only [Out.st_ok]
       cases fo env b1 with
       | ok q b2 =>
         simp only [Out.st_ok]
         cases fi env b2 with
         | ok r b3 =>
           simp only [Out.st_ok]
           cases q <;> cases r <;> first
             | rfl
             | (simp only
                cases cellL b3 _ with
                | none => rfl
                | some xs => simp only; cases ixN xs.length _ <;> rfl)
         | _ => simp only [Out.st_ex, Out.st_no]
       | _ => simp only [Out.st_ex, Out.st_no]
     | _ => simp only [Out.st_ex, Out.st_no])
theorem q_b1 : kbs1 env (.ok p b) fo fi = kbs2 env p (fo env b) fi := rfl
theorem q_b2 : kbs2 env p (.ok q b) fi = kbs3 env p q (fi env b) := rfl
theorem q_b3 : kbs3 env p (.box n) (.ok (.int k) b) = kbsC env n k p (cellL b n) b := rfl
theorem q_bC : kbsC env n k p (some xs) b = kbsB env n p xs (ixN xs.length k) b := rfl
theorem q_bB : kbsB env n p xs (some j) b = .nx env (b.set n (.lst (xs.set j p))) := rfl
theorem q_fldSet : sFldSet C x fv fo env b = kfs1 C x env (fv env b) fo := by
  unfold sFldSet kfs1 kfs2 kfsC
  first
  | rfl
  | (cases fv env b with
     | ok p b1 =>
       simp only [Out.st_ok]
       cases fo env b1 with
       | ok q b2 => simp only [Out.st_ok]; cases q <;> first | rfl | (simp only; cases cellI C b2 _ <;> rfl)
       | _ => rfl
     | _ => rfl)
theorem q_fs1 : kfs1 C x env (.ok p b) fo = kfs2 C x env p (fo env b) := rfl
theorem q_fs2 : kfs2 C x env p (.ok (.box n) b) = kfsC env C x n p (cellI C b n) b := rfl
theorem q_fsC {fs : List (Str × P)} : kfsC env C x n p (some fs) b = if fs.length < 900 then .nx env (b.set n (.ins C (putP x p fs))) else .no := rfl
theorem q_sFrz : sFrz i f env b = f (frzE env i) b := rfl
theorem q_fzE : frzE env i = match env[i]? with
  | some (.ow xs) => env.set i (.va (.lst xs))
  | _ => env := by unfold frzE; rfl
theorem q_tryNo : sTryNo f env b = ktr (f env b) := by unfold sTryNo ktr; cases f env b <;> rfl
theorem q_trN : ktr (.nx e b) = .nx e b := rfl
theorem q_trR : ktr (.rt p b) = .rt p b := rfl
theorem q_trC : ktr (.ct e b) = .ct e b := rfl
theorem q_trB : ktr (.bk e b) = .bk e b := rfl
theorem q_gTp {gs : List FG} : gTp gs (.tup ps) env = gAll gs ps env := rfl
theorem q_gTpL {gs : List FG} : gTp gs (.lst ps) env = gTp gs (.lst ps) env := rfl
theorem q_gNm : gNm i p env = some (env.set i (.va p)) := rfl
theorem q_def : mkDef n m f ps b = if ps.length = n then defOut (f (ps.map .va ++ List.replicate (m - n) .un) b) else .no := rfl
theorem q_dN : defOut (.nx e b) = .ok .non b := rfl
theorem q_dR : defOut (.rt p b) = .ok p b := rfl
/-! one turn of a loop -/
def kfrB (g : FG) (f : FS) (ps : List P) (o : SOut) : SOut := match o with
  | .nx e b => forL g f ps e b
  | .ct e b => forL g f ps e b
  | .bk e b => .nx e b
  | .rt p b => .rt p b
  | .ex x e b => .ex x e b
  | .no => .no
def kfrA (g : FG) (f : FS) (ps : List P) (o : Option Env) (b : Bx) : SOut := match o with
  | some e => kfrB g f ps (f e b)
  | none => .no
theorem u_forN : forL gf f [] env b = .nx env b := rfl
theorem u_forC : forL gf f (p :: ps) env b = kfrA gf f ps (gf p env) b := by unfold forL kfrA kfrB; cases gf p env with | none => rfl | some e => first | (simp only; done) | (simp only; cases f e b <;> rfl)
theorem u_frA : kfrA gf f ps (some e) b = kfrB gf f ps (f e b) := rfl
theorem u_frN : kfrB gf f ps (.nx e b) = forL gf f ps e b := rfl
theorem u_frT : kfrB gf f ps (.ct e b) = forL gf f ps e b := rfl
theorem u_frB : kfrB gf f ps (.bk e b) = .nx e b := rfl
theorem u_frR : kfrB gf f ps (.rt p b) = .rt p b := rfl
def kcpD (q : P) (o : Out (List P)) : Out (List P) := o.bind fun qs b => .ok (q :: qs) b
def kcpC (gf : FG) (ft : FT) (fe : FE) (env : Env) (ps : List P) (o : Out P) : Out (List P) := o.bind fun q b => kcpD q (compL gf ft fe env ps b)
def kcpB (gf : FG) (ft : FT) (fe : FE) (env e : Env) (ps : List P) (o : Out Bool) : Out (List P) := o.bind fun c b => if c = true then kcpC gf ft fe env ps (fe e b) else compL gf ft fe env ps b
def kcpA (gf : FG) (ft : FT) (fe : FE) (env : Env) (ps : List P) (o : Option Env) (b : Bx) : Out (List P) := match o with
  | some e => kcpB gf ft fe env e ps (ft e b)
  | none => .no
theorem u_cpN : compL gf ft fe env [] b = .ok [] b := rfl
theorem u_cpC : compL gf ft fe env (p :: ps) b = kcpA gf ft fe env ps (gf p env) b := by unfold compL; cases gf p env <;> rfl
theorem u_cpA : kcpA gf ft fe env ps (some e) b = kcpB gf ft fe env e ps (ft e b) := rfl
theorem u_cpT : kcpB gf ft fe env e ps (.ok true b) = kcpC gf ft fe env ps (fe e b) := rfl
theorem u_cpF : kcpB gf ft fe env e ps (.ok false b) = compL gf ft fe env ps b := rfl
theorem u_cpc : kcpC gf ft fe env ps (.ok q b) = kcpD q (compL gf ft fe env ps b) := rfl
theorem u_cpD : kcpD q (.ok ps b) = .ok (q :: ps) b := rfl
/-! operators -/
theorem q_add : addP b (.int k) (.int l) = some (.int (k + l)) := rfl
theorem q_addS : addP b (.str x) (.str y) = if x.length + y.length ≤ 16000000 then some (.str (x ++ y)) else none := rfl
theorem q_addT : addP b (.tup ps) (.tup xs) = if ps.length + xs.length ≤ 1000000 then some (.tup (ps ++ xs)) else none := rfl
theorem q_addL : addP b (.lst ps) (.lst xs) = if ps.length + xs.length ≤ 1000000 then some (.lst (ps ++ xs)) else none := rfl
theorem q_sub : subP b (.int k) (.int l) = some (.int (k - l)) := rfl
theorem q_mul : mulP b (.int k) (.int l) = if (-(2 ^ 64) < k ∧ k < 2 ^ 64) ∨ (-(2 ^ 64) < l ∧ l < 2 ^ 64) then some (.int (k * l)) else none := rfl
theorem q_mod : modP b (.int k) (.int l) = if 0 < l then some (.int (k % l)) else none := rfl
theorem q_div : divP b (.int k) (.int l) = if 0 < l ∧ l < 1073741824 then some (.int (k / l)) else none := rfl
theorem q_neg : negP b (.int k) = some (.int (-k)) := rfl
theorem q_le : leP b (.int k) (.int l) = some (.bl (decide (k ≤ l))) := rfl
theorem q_ge : geP b (.int k) (.int l) = some (.bl (decide (l ≤ k))) := rfl
theorem q_gt : gtP b (.int k) (.int l) = some (.bl (decide (l < k))) := rfl
theorem q_lt : ltP b (.int k) (.int l) = some (.bl (decide (k < l))) := rfl
theorem q_eq : eqP b (.int k) (.int l) = some (.bl (decide (k = l))) := rfl
theorem q_ne : neP b (.int k) (.int l) = some (.bl (!decide (k = l))) := rfl
theorem q_eqS : eqP b (.str x) (.str y) = some (.bl (decide (x = y))) := rfl
theorem q_neS : neP b (.str x) (.str y) = some (.bl (!decide (x = y))) := rfl
theorem q_ixT : ixP b (.tup ps) (.int k) = atI ps k := rfl
theorem q_ixL : ixP b (.lst ps) (.int k) = atI ps k := rfl
theorem q_ixB : ixP b (.box n) (.int k) = (cellL b n).bind fun xs => atI xs k := rfl
theorem q_lenT : lenP b [.tup ps] = some (.int ps.length) := rfl
theorem q_lenL : lenP b [.lst ps] = some (.int ps.length) := rfl
theorem q_int : intP b [.int k] = some (.int k) := rfl
theorem q_tupleL : tupleP b [.lst ps] = some (.tup ps) := rfl
theorem q_tupleT : tupleP b [.tup ps] = some (.tup ps) := rfl
theorem q_cellL : cellL (.lst ps :: b) 0 = some ps := rfl
theorem q_cellLs {c : Cell} : cellL (c :: b) (n + 1) = cellL b n := rfl
theorem q_not : notP b (.bl c) = some (.bl (!c)) := rfl
end
end PV

/-! PvD: loops and comprehensions by what they keep. -/
namespace PV
open PySem L2
section
variable {gf : FG} {ft : FT} {fe : FE} {f : FS} {α β : Type}
/-- a comprehension: each item gives an answer of a kind; the boxes keep I -/
theorem comp_ex {env0 : Env} (ea : α → P) (eb : α → β → P) (G : α → β → Prop) (I : Bx → Prop) : ∀ {as : List α}, (∀ a, a ∈ as → ∀ b, I b → ∃ e1 z b', gf (ea a) env0 = some e1 ∧ ft e1 b = .ok true b ∧ fe e1 b = .ok (eb a z) b' ∧ G a z ∧ I b') → ∀ b, I b →
    ∃ (zs : List (α × β)) (b' : Bx), zs.map (·.1) = as ∧ (∀ z, z ∈ zs → G z.1 z.2) ∧ compL gf ft fe env0 (as.map ea) b = .ok (zs.map fun z => eb z.1 z.2) b' ∧ I b'
  | [], _, b, i => ⟨[], b, rfl, fun _ h => (nomatch h), rfl, i⟩
  | a :: as, H, b, i => by
    obtain ⟨e1, z, b', h1, h2, h3, h4, h5⟩ := H a List.mem_cons_self b i
    obtain ⟨zs, b2, k1, k2, k3, k4⟩ := comp_ex ea eb G I (fun a' ha => H a' (List.mem_cons_of_mem _ ha)) b' h5
    refine ⟨(a, z) :: zs, b2, by simp [k1], fun w hw => ?_, ?_, k4⟩
    · rcases List.mem_cons.mp hw with rfl | hw
      · exact h4
      · exact k2 w hw
    · simp only [List.map_cons]
      unfold compL
      simp only [h1, h2, Out.bind_ok, if_true, h3, k3]
/-- a comprehension of plain answers -/
theorem comp_pl {env0 : Env} (ea eb : α → P) {b : Bx} : ∀ {as : List α}, (∀ a, a ∈ as → ∃ e1, gf (ea a) env0 = some e1 ∧ ft e1 b = .ok true b ∧ fe e1 b = .ok (eb a) b) → compL gf ft fe env0 (as.map ea) b = .ok (as.map eb) b
  | [], _ => rfl
  | a :: as, H => by
    obtain ⟨e1, h1, h2, h3⟩ := H a List.mem_cons_self
    have ih : compL gf ft fe env0 (as.map ea) b = .ok (as.map eb) b := comp_pl ea eb fun a' ha => H a' (List.mem_cons_of_mem _ ha)
    simp only [List.map_cons]
    unfold compL
    simp only [h1, h2, Out.bind_ok, if_true, h3, ih]
/-- a comprehension with a test -/
theorem comp_fl {env0 : Env} (ea eb : α → P) (t : α → Bool) {b : Bx} : ∀ {as : List α}, (∀ a, a ∈ as → ∃ e1, gf (ea a) env0 = some e1 ∧ ft e1 b = .ok (t a) b ∧ (t a = true → fe e1 b = .ok (eb a) b)) → compL gf ft fe env0 (as.map ea) b = .ok ((as.filter t).map eb) b
  | [], _ => rfl
  | a :: as, H => by
    obtain ⟨e1, h1, h2, h3⟩ := H a List.mem_cons_self
    have ih : compL gf ft fe env0 (as.map ea) b = .ok ((as.filter t).map eb) b := comp_fl ea eb t fun a' ha => H a' (List.mem_cons_of_mem _ ha)
    simp only [List.map_cons]
    unfold compL
    cases ht : t a with
    | true => simp only [h1, h2, ht, Out.bind_ok, if_true, h3 ht, ih, List.filter_cons, List.map_cons]
    | false => simp only [h1, h2, ht, Out.bind_ok, Bool.false_eq_true, if_false, ih, List.filter_cons]
/-- a for that keeps I -/
theorem for_ex (ea : α → P) (I : Env → Bx → Prop) : ∀ {as : List α}, (∀ a, a ∈ as → ∀ e b, I e b → ∃ e1 e2 b2, gf (ea a) e = some e1 ∧ (f e1 b = .nx e2 b2 ∨ f e1 b = .ct e2 b2) ∧ I e2 b2) → ∀ e b, I e b → ∃ e2 b2, forL gf f (as.map ea) e b = .nx e2 b2 ∧ I e2 b2
  | [], _, e, b, i => ⟨e, b, rfl, i⟩
  | a :: as, H, e, b, i => by
    obtain ⟨e1, e2, b2, h1, h2, h3⟩ := H a List.mem_cons_self e b i
    obtain ⟨e3, b3, k1, k2⟩ := for_ex ea I (fun a' ha => H a' (List.mem_cons_of_mem _ ha)) e2 b2 h3
    refine ⟨e3, b3, ?_, k2⟩
    simp only [List.map_cons]
    unfold forL
    rcases h2 with h2 | h2 <;> simp only [h1, h2, k1]
/-- a for over a known row: the state after each turn is a plain function -/
theorem for_pl {S : Type} (ea : α → P) (enc : S → Env) (st : S → α → S) {b : Bx} : ∀ {as : List α} {s : S}, (∀ s a, a ∈ as → ∃ e1, gf (ea a) (enc s) = some e1 ∧ (f e1 b = .nx (enc (st s a)) b ∨ f e1 b = .ct (enc (st s a)) b)) → forL gf f (as.map ea) (enc s) b = .nx (enc (as.foldl st s)) b
  | [], s, _ => rfl
  | a :: as, s, H => by
    obtain ⟨e1, h1, h2⟩ := H s a List.mem_cons_self
    have ih : forL gf f (as.map ea) (enc (st s a)) b = .nx (enc (as.foldl st (st s a))) b := for_pl ea enc st fun s q hq => H s q (List.mem_cons_of_mem _ hq)
    simp only [List.map_cons]
    unfold forL
    rcases h2 with h2 | h2 <;> simp only [h1, h2, ih, List.foldl_cons]
/-- as for_ex, the part of the row done is known -/
theorem for_exP (ea : α → P) (I : List α → Env → Bx → Prop) : ∀ {as done : List α}, (∀ pre a e b, (∃ post, done ++ as = pre ++ a :: post) → I pre e b → ∃ e1 e2 b2, gf (ea a) e = some e1 ∧ (f e1 b = .nx e2 b2 ∨ f e1 b = .ct e2 b2) ∧ I (pre ++ [a]) e2 b2) → ∀ e b, I done e b → ∃ e2 b2, forL gf f (as.map ea) e b = .nx e2 b2 ∧ I (done ++ as) e2 b2
  | [], done, _, e, b, i => ⟨e, b, rfl, by rw [List.append_nil]; exact i⟩
  | a :: as, done, H, e, b, i => by
    obtain ⟨e1, e2, b2, h1, h2, h3⟩ := H done a e b ⟨as, rfl⟩ i
    obtain ⟨e3, b3, k1, k2⟩ := for_exP ea I (as := as) (done := done ++ [a]) (fun pre a' e b hp => H pre a' e b (by simpa using hp)) e2 b2 h3
    refine ⟨e3, b3, ?_, by simpa using k2⟩
    simp only [List.map_cons]
    unfold forL
    rcases h2 with h2 | h2 <;> simp only [h1, h2, k1]
end
theorem rangeP_map (n : Int) : rangeP 0 n = (List.range n.toNat).map fun k => P.int (k : Nat) := by
  unfold rangeP
  rw [Int.sub_zero]
  congr 1
  funext k
  rw [Int.zero_add]
theorem range_map2 (m n : Int) : rangeP m n = (List.range (n - m).toNat).map fun k => P.int (m + (k : Nat)) := rfl
theorem ssP_ints (ns : List Int) : ssP (.lst (ns.map .int)) = if ns.length < 60 then some ((sortU ns).map .int) else none := by
  unfold ssP; simp only [intsOf_map, Option.bind_some]
theorem sortU_len : ∀ (ns : List Int), (sortU ns).length ≤ ns.length
  | [] => Nat.le_refl _
  | n :: ns => by
    have h : ∀ (x : Int) (l : List Int), (insU x l).length ≤ l.length + 1 := fun x l => by
      induction l with
      | nil => simp [insU]
      | cons y r ih => unfold insU; split <;> (try split) <;> simp <;> omega
    have := sortU_len ns
    have h2 := h n (sortU ns)
    show (insU n (sortU ns)).length ≤ _
    simp only [List.length_cons]
    omega
theorem cut_take {α : Type} (xs : List α) (n : Nat) : cutP xs none (some (n : Int)) = xs.take n := by
  have h0 : HT.sIx xs.length 0 none = 0 := rfl
  unfold cutP
  rw [h0]
  have : HT.sIx xs.length xs.length (some (n : Int)) = min n xs.length := by
    unfold HT.sIx
    simp only
    split <;> omega
  rw [this, List.drop_zero, Nat.sub_zero]
  by_cases h : n ≤ xs.length
  · rw [Nat.min_eq_left h]
  · rw [Nat.min_eq_right (by omega), List.take_length, List.take_of_length_le (by omega)]
theorem cut_tail {α : Type} (x : α) (xs : List α) : cutP (x :: xs) (some 1) none = xs := by
  have h0 : HT.sIx (x :: xs).length 0 (some 1) = 1 := by
    unfold HT.sIx
    simp only [List.length_cons]
    split <;> omega
  have h1 : HT.sIx (x :: xs).length (x :: xs).length none = (x :: xs).length := rfl
  unfold cutP
  rw [h0, h1]
  simp only [List.drop_succ_cons, List.drop_zero, List.length_cons, Nat.add_sub_cancel]
  exact List.take_length ..
theorem all_map {b0 : Bx} {α : Type} (as : List α) (t : α → Bool) : allP b0 [.lst (as.map fun a => .bl (t a))] = some (.bl (as.all t)) := by
  have : (as.map fun a => P.bl (t a)) = (as.map t).map P.bl := by rw [List.map_map]; rfl
  unfold allP
  simp only [this, blsOf_map, Option.map_some, List.all_map]
  rfl
theorem joinP_map {α : Type} (x : Str) (as : List α) (t : α → Str) (h : ((as.map t).map (·.length)).sum + as.length * x.length ≤ 16000000) : joinP (.str x) (.lst (as.map fun a => .str (t a))) = some (.str (Txt.join x (as.map t))) := by
  have : (as.map fun a => P.str (t a)) = (as.map t).map P.str := by rw [List.map_map]; rfl
  unfold joinP
  simp only [this, strsOf_map, Option.bind_some]
  rw [if_pos (by rw [List.length_map]; exact h)]
end PV

/-! PvE: texts. -/
namespace PV
open PySem L2 TL
def num (i : Int) : Str := Str.ofString (toString i)
theorem num_len {i : Int} (h0 : 0 ≤ i) (h : i < 10 ^ 9) : (num i).length ≤ 9 := PyProof.Rows.toString_length_le h0 (by decide) h
theorem num_tl {i : Int} (h0 : 0 ≤ i) : tl (num i) = numL i.toNat := by
  have := tl_num i.toNat
  rw [Int.toNat_of_nonneg h0] at this
  exact this
theorem num_free {i : Int} {s : Nat} (h0 : 0 ≤ i) (h : s < 48 ∨ 57 < s) : s ∉ tl (num i) := by rw [num_tl h0]; exact numL_free h
theorem log2_small {i : Int} (h : -(2 ^ 64) < i ∧ i < 2 ^ 64) : i.natAbs.log2 < 1920 := by
  by_cases h0 : i.natAbs = 0
  · rw [h0]; decide
  · have : i.natAbs.log2 < 64 := by rw [Nat.log2_lt h0]; omega
    omega
theorem strP_num {b : Bx} {i : Int} (h : -(2 ^ 64) < i ∧ i < 2 ^ 64) : strP b [.int i] = some (.str (num i)) := by
  unfold strP; simp only; rw [if_pos (log2_small h)]; rfl
theorem fmtP_num {b : Bx} {i : Int} (h : -(2 ^ 64) < i ∧ i < 2 ^ 64) : fmtP b (.int i) = some (.str (num i)) := by
  unfold fmtP; simp only; rw [if_pos (log2_small h)]; rfl
theorem len_app (x y : Str) : (x ++ y).length = x.length + y.length := Str.length_append x y
theorem join_len (y : Str) : ∀ parts : List Str, (Txt.join y parts).length ≤ (parts.map (·.length)).sum + parts.length * y.length
  | [] => by rw [join_eq]; exact Nat.zero_le _
  | [x] => by rw [join_eq]; show x.length ≤ _; simp
  | x :: z :: r => by
    have ih := join_len y (z :: r)
    rw [join_eq] at ih ⊢
    show (x ++ y ++ Str.join y (z :: r)).length ≤ _
    rw [len_app, len_app]
    simp only [List.map_cons, List.sum_cons, List.length_cons] at ih ⊢
    have : (r.length + 1 + 1) * y.length = (r.length + 1) * y.length + y.length := by rw [Nat.succ_mul]
    omega
theorem sum_le {α : Type} {f : α → Nat} {c : Nat} : ∀ {l : List α}, (∀ a, a ∈ l → f a ≤ c) → (l.map f).sum ≤ l.length * c
  | [], _ => Nat.zero_le _
  | a :: l, h => by
    have := sum_le (l := l) fun x hx => h x (List.mem_cons_of_mem _ hx)
    have h1 := h a List.mem_cons_self
    simp only [List.map_cons, List.sum_cons, List.length_cons, Nat.succ_mul]
    omega
theorem join_cons {y x : Str} {parts : List Str} (h : parts ≠ []) : Txt.join y (x :: parts) = x ++ y ++ Txt.join y parts := by
  rw [join_eq, join_eq]
  cases parts with
  | nil => exact absurd rfl h
  | cons z r => rfl
theorem join_one {y x : Str} : Txt.join y [x] = x := by rw [join_eq]; rfl
theorem join_le {y : Str} {c : Nat} {parts : List Str} (h : ∀ a, a ∈ parts → a.length ≤ c) : (Txt.join y parts).length ≤ parts.length * (c + y.length) := by
  have h1 := join_len y parts
  have h2 : (parts.map (·.length)).sum ≤ parts.length * c := sum_le h
  rw [Nat.mul_add]
  omega
/-- join over a row of texts given by a function -/
theorem joinP_le {α : Type} (x : Str) (c : Nat) (as : List α) (t : α → Str) (h : ∀ a, a ∈ as → (t a).length ≤ c) (hc : as.length * (c + x.length) ≤ 16000000) : joinP (.str x) (.lst (as.map fun a => .str (t a))) = some (.str (Txt.join x (as.map t))) := by
  refine joinP_map x as t ?_
  have : ((as.map t).map (·.length)).sum ≤ as.length * c := by
    rw [List.map_map]
    exact sum_le h
  rw [Nat.mul_add] at hc
  omega
theorem joinP_strs (x : Str) (c : Nat) (as : List Str) (h : ∀ a, a ∈ as → a.length ≤ c) (hc : as.length * (c + x.length) ≤ 16000000) : joinP (.str x) (.lst (as.map P.str)) = some (.str (Txt.join x as)) := by
  have := joinP_le x c as id (by simpa using h) hc
  simpa using this
theorem splitP_join {y : Str} {s : Nat} {S : List Nat} (ey : tl y = s :: S) (hk : y.cps.all (· < 256) = true) {parts : List Str} (hne : parts ≠ []) (hp : ∀ p ∈ parts, s ∉ tl p) (hl : (Txt.join y parts).length ≤ 1000000) :
    splitP (.str (Txt.join y parts)) (.str y) = some (.lst (parts.map .str)) := by
  have h0 : y.length ≠ 0 := by rw [len_tl, ey]; simp
  unfold splitP
  simp only
  rw [if_pos ⟨h0, hl⟩, split_join ey hk hne hp]
theorem partP_app {y : Str} {s : Nat} {S : List Nat} (ey : tl y = s :: S) {a b : Str} (h : s ∉ tl a) (hl : (a ++ y ++ b).length ≤ 1000000) : partP (.str (a ++ y ++ b)) (.str y) = some (.tup [.str a, .str y, .str b]) := by
  have h0 : y.length ≠ 0 := by rw [len_tl, ey]; simp
  unfold partP
  simp only
  rw [if_pos ⟨h0, hl⟩, partition_app ey h]
theorem numL_head {n : Nat} (h : 0 < n) : ∃ d r, numL n = d :: r ∧ 49 ≤ d ∧ d ≤ 57 := by
  induction n using Nat.strongRecOn with
  | _ n ih =>
    by_cases h10 : n < 10
    · exact ⟨_, _, numL_lt h10, by omega, by omega⟩
    · obtain ⟨d, r, e, h1, h2⟩ := ih (n / 10) (by omega) (by omega)
      exact ⟨d, r ++ [48 + n % 10], by rw [numL_step (by omega), e]; rfl, h1, h2⟩
theorem num_len_pos {i : Int} (h0 : 0 ≤ i) : 1 ≤ (num i).length := by
  rw [len_tl, num_tl h0]
  exact List.length_pos_iff.mpr (numL_ne _)
theorem num_len1 {i : Int} (h0 : 0 ≤ i) (h : 1 < (num i).length) : 10 ≤ i := by
  rw [len_tl, num_tl h0] at h
  by_cases h10 : i.toNat < 10
  · rw [numL_lt h10] at h; simp at h
  · omega
theorem num_int {i : Int} (h0 : 0 ≤ i) (h : i < 10 ^ 9) : PySem.intText? (num i) = some i := by
  have h1 := num_len h0 h
  rw [len_tl, num_tl h0] at h1
  have := int_num (n := i.toNat) (by omega)
  rw [Int.toNat_of_nonneg h0] at this
  exact this
theorem intP_num {b : Bx} {i : Int} (h0 : 0 ≤ i) (h : i < 10 ^ 9) : intP b [.str (num i)] = some (.int i) := by
  unfold intP
  simp only
  rw [if_pos (by have := num_len h0 h; omega), num_int h0 h]; rfl
theorem lenP_str {b : Bx} {x : Str} (h : x.length ≤ 16000000) : lenP b [.str x] = some (.int x.length) := by unfold lenP; simp only; rw [if_pos h]
theorem inP_digit {b : Bx} {c : Nat} (h0 : 48 ≤ c) (h1 : c ≤ 57) : inP b (.str ⟨#[c]⟩) (.str "0123456789") = some (.bl true) := by
  unfold inP inB
  have e : tl ("0123456789" : Str) = [48, 49, 50, 51, 52, 53, 54, 55, 56, 57] := by decide
  simp only
  show Option.map P.bl (some (decide (c ∈ tl ("0123456789" : Str)))) = _
  rw [e]
  have : c ∈ [48, 49, 50, 51, 52, 53, 54, 55, 56, 57] := by
    simp only [List.mem_cons, List.not_mem_nil, or_false]
    omega
  rw [decide_eq_true this]; rfl
theorem signs_num {i : Int} (h0 : 0 ≤ i) : signs (num i) = (numL i.toNat).map fun c => .str ⟨#[c]⟩ := by
  unfold signs
  show (tl (num i)).map _ = _
  rw [num_tl h0]
theorem one_ne {d : Nat} (h : d ≠ 48) : decide ((⟨#[d]⟩ : Str) = "0") = false := by
  apply decide_eq_false
  intro e
  have e2 : tl (⟨#[d]⟩ : Str) = tl ("0" : Str) := by rw [e]
  have e3 : tl ("0" : Str) = [48] := by decide
  rw [e3] at e2
  have : [d] = [48] := e2
  simp at this
  exact h this
theorem ix0_num {b : Bx} {i : Int} (h0 : 0 < i) (h : i < 10 ^ 9) : ∃ d : Nat, ixP b (.str (num i)) (.int 0) = some (.str ⟨#[d]⟩) ∧ d ≠ 48 := by
  obtain ⟨d, r, e, h1, h2⟩ := numL_head (n := i.toNat) (by omega)
  refine ⟨d, ?_, by omega⟩
  unfold ixP
  simp only
  rw [if_pos (by have := num_len (by omega) h; omega)]
  show Option.map _ (atI (tl (num i)) 0) = _
  rw [num_tl (by omega), e, atI0]; rfl
/-! isinstance, value by value -/
theorem isi_non_tuple {b : Bx}  : isiP "tuple" b .non = some (.bl false) := by simp only [isiP]; rw [if_pos (by decide)]; rfl
theorem isi_non_int {b : Bx}  : isiP "int" b .non = some (.bl false) := by simp only [isiP]; rw [if_pos (by decide)]; rfl
theorem isi_non_str {b : Bx}  : isiP "str" b .non = some (.bl false) := by simp only [isiP]; rw [if_pos (by decide)]; rfl
theorem isi_non_bool {b : Bx}  : isiP "bool" b .non = some (.bl false) := by simp only [isiP]; rw [if_pos (by decide)]; rfl
theorem isi_non_list {b : Bx}  : isiP "list" b .non = some (.bl false) := by simp only [isiP]; rw [if_pos (by decide)]; rfl
theorem isi_bl_tuple {b : Bx} {k : Bool} : isiP "tuple" b (.bl k) = some (.bl false) := by simp only [isiP]; rw [if_pos (by decide)]; rfl
theorem isi_bl_int {b : Bx} {k : Bool} : isiP "int" b (.bl k) = some (.bl true) := by simp only [isiP]; rw [if_pos (by decide)]; rfl
theorem isi_bl_str {b : Bx} {k : Bool} : isiP "str" b (.bl k) = some (.bl false) := by simp only [isiP]; rw [if_pos (by decide)]; rfl
theorem isi_bl_bool {b : Bx} {k : Bool} : isiP "bool" b (.bl k) = some (.bl true) := by simp only [isiP]; rw [if_pos (by decide)]; rfl
theorem isi_bl_list {b : Bx} {k : Bool} : isiP "list" b (.bl k) = some (.bl false) := by simp only [isiP]; rw [if_pos (by decide)]; rfl
theorem isi_int_tuple {b : Bx} {i : Int} : isiP "tuple" b (.int i) = some (.bl false) := by simp only [isiP]; rw [if_pos (by decide)]; rfl
theorem isi_int_int {b : Bx} {i : Int} : isiP "int" b (.int i) = some (.bl true) := by simp only [isiP]; rw [if_pos (by decide)]; rfl
theorem isi_int_str {b : Bx} {i : Int} : isiP "str" b (.int i) = some (.bl false) := by simp only [isiP]; rw [if_pos (by decide)]; rfl
theorem isi_int_bool {b : Bx} {i : Int} : isiP "bool" b (.int i) = some (.bl false) := by simp only [isiP]; rw [if_pos (by decide)]; rfl
theorem isi_int_list {b : Bx} {i : Int} : isiP "list" b (.int i) = some (.bl false) := by simp only [isiP]; rw [if_pos (by decide)]; rfl
theorem isi_str_tuple {b : Bx} {x : Str} : isiP "tuple" b (.str x) = some (.bl false) := by simp only [isiP]; rw [if_pos (by decide)]; rfl
theorem isi_str_int {b : Bx} {x : Str} : isiP "int" b (.str x) = some (.bl false) := by simp only [isiP]; rw [if_pos (by decide)]; rfl
theorem isi_str_str {b : Bx} {x : Str} : isiP "str" b (.str x) = some (.bl true) := by simp only [isiP]; rw [if_pos (by decide)]; rfl
theorem isi_str_bool {b : Bx} {x : Str} : isiP "bool" b (.str x) = some (.bl false) := by simp only [isiP]; rw [if_pos (by decide)]; rfl
theorem isi_str_list {b : Bx} {x : Str} : isiP "list" b (.str x) = some (.bl false) := by simp only [isiP]; rw [if_pos (by decide)]; rfl
theorem isi_tup_tuple {b : Bx} {ps : List P} : isiP "tuple" b (.tup ps) = some (.bl true) := by simp only [isiP]; rw [if_pos (by decide)]; rfl
theorem isi_tup_int {b : Bx} {ps : List P} : isiP "int" b (.tup ps) = some (.bl false) := by simp only [isiP]; rw [if_pos (by decide)]; rfl
theorem isi_tup_str {b : Bx} {ps : List P} : isiP "str" b (.tup ps) = some (.bl false) := by simp only [isiP]; rw [if_pos (by decide)]; rfl
theorem isi_tup_bool {b : Bx} {ps : List P} : isiP "bool" b (.tup ps) = some (.bl false) := by simp only [isiP]; rw [if_pos (by decide)]; rfl
theorem isi_tup_list {b : Bx} {ps : List P} : isiP "list" b (.tup ps) = some (.bl false) := by simp only [isiP]; rw [if_pos (by decide)]; rfl
theorem isi_lst_tuple {b : Bx} {ps : List P} : isiP "tuple" b (.lst ps) = some (.bl false) := by simp only [isiP]; rw [if_pos (by decide)]; rfl
theorem isi_lst_int {b : Bx} {ps : List P} : isiP "int" b (.lst ps) = some (.bl false) := by simp only [isiP]; rw [if_pos (by decide)]; rfl
theorem isi_lst_str {b : Bx} {ps : List P} : isiP "str" b (.lst ps) = some (.bl false) := by simp only [isiP]; rw [if_pos (by decide)]; rfl
theorem isi_lst_bool {b : Bx} {ps : List P} : isiP "bool" b (.lst ps) = some (.bl false) := by simp only [isiP]; rw [if_pos (by decide)]; rfl
theorem isi_lst_list {b : Bx} {ps : List P} : isiP "list" b (.lst ps) = some (.bl true) := by simp only [isiP]; rw [if_pos (by decide)]; rfl
end PV

namespace LW
open PySem L2 PV PyProof.Rows
def top (i : Nat) : Stmt := PySem.Challenge.pw_everyweather_k60_texts_of_farms.main.body.getD i (.Pass ⟨0, 0, 0, 0⟩)
abbrev Pr : Program := PySem.Challenge.pw_everyweather_k60_texts_of_farms
def c_DIGITS : P := .str "0123456789"
def c_DIRECTIONS : P := .int 4
def c_LOW : P := .tup [(.tup [(.int 0), (.int 0)]), (.tup [(.int 1), (.int 0)])]
def c_STRONGEST : P := .int 40
structure Tx (K : Frag) (mg : Mg) : Prop where
  f_all : mg "all" = none
  f_bool : mg "bool" = none
  f_int : mg "int" = none
  f_isinstance : mg "isinstance" = none
  f_len : mg "len" = none
  f_list : mg "list" = none
  f_range : mg "range" = none
  f_set : mg "set" = none
  f_sorted : mg "sorted" = none
  f_str : mg "str" = none
  f_tuple : mg "tuple" = none
  g_law_pool : mg "_law_pool" = some (.ref (He.ga K "_law_pool"))
  g_law_spread : mg "_law_spread" = some (.ref (He.ga K "_law_spread"))
  g_law_draw : mg "_law_draw" = some (.ref (He.ga K "_law_draw"))
  g_law_curve : mg "_law_curve" = some (.ref (He.ga K "_law_curve"))
  g_law_farm : mg "_law_farm" = some (.ref (He.ga K "_law_farm"))
  g_law_farm_text : mg "_law_farm_text" = some (.ref (He.ga K "_law_farm_text"))
  g_law_same : mg "_law_same" = some (.ref (He.ga K "_law_same"))
  g_write_farm : mg "write_farm" = some (.ref (He.ga K "write_farm"))
  g_read_number : mg "read_number" = some (.ref (He.ga K "read_number"))
  g_read_point : mg "read_point" = some (.ref (He.ga K "read_point"))
  g_is_whole : mg "is_whole" = some (.ref (He.ga K "is_whole"))
  g_is_from : mg "is_from" = some (.ref (He.ga K "is_from"))
  g_is_row : mg "is_row" = some (.ref (He.ga K "is_row"))
  g_rises : mg "rises" = some (.ref (He.ga K "rises"))
  g_is_curve : mg "is_curve" = some (.ref (He.ga K "is_curve"))
  g_is_wake : mg "is_wake" = some (.ref (He.ga K "is_wake"))
  g_is_farm : mg "is_farm" = some (.ref (He.ga K "is_farm"))
  g_read_farm : mg "read_farm" = some (.ref (He.ga K "read_farm"))
  g_law : mg "law" = some (.ref (He.ga K "law"))
  kg_FarmReader : mg "FarmReader" = some (.ref (He.ga K "FarmReader"))
  kc_FarmReader : Cls K (He.ga K "FarmReader")
  n_FarmReader_curves : NoAttr K (He.ga K "FarmReader") "curves"
  n_FarmReader_machines : NoAttr K (He.ga K "FarmReader") "machines"
  n_FarmReader_wakes : NoAttr K (He.ga K "FarmReader") "wakes"
  m_FarmReader_farm : Meth K (He.ga K "FarmReader") "farm" (He.ma K (He.ga K "FarmReader") "farm")
  m_FarmReader_take : Meth K (He.ga K "FarmReader") "take" (He.ma K (He.ga K "FarmReader") "take")
  mk_FarmReader : Mk K (He.ga K "FarmReader") (He.ma K (He.ga K "FarmReader") "__init__")
  c_DIGITS : ∃ u v, mg "DIGITS" = some u ∧ ConstOk K u v c_DIGITS
  c_DIRECTIONS : ∃ u v, mg "DIRECTIONS" = some u ∧ ConstOk K u v c_DIRECTIONS
  c_LOW : ∃ u v, mg "LOW" = some u ∧ ConstOk K u v c_LOW
  c_STRONGEST : ∃ u v, mg "STRONGEST" = some u ∧ ConstOk K u v c_STRONGEST
theorem Tx.k_FarmReader {K : Frag} {mg : Mg} (T : Tx K mg) : KC K mg "FarmReader" (He.ga K "FarmReader") := ⟨T.kg_FarmReader, T.kc_FarmReader⟩
abbrev s_law_pool : Stmt := top 26
abbrev s_law_spread : Stmt := top 27
abbrev s_law_draw : Stmt := top 28
abbrev s_law_curve : Stmt := top 29
abbrev s_law_farm : Stmt := top 30
abbrev s_law_farm_text : Stmt := top 31
abbrev s_law_same : Stmt := top 25
abbrev s_write_farm : Stmt := top 20
abbrev s_FarmReader_init__ : Stmt := inClass (top 22) 0
abbrev s_read_number : Stmt := top 10
abbrev s_read_point : Stmt := top 21
abbrev s_is_whole : Stmt := top 6
abbrev s_is_from : Stmt := top 7
abbrev s_is_row : Stmt := top 9
abbrev s_rises : Stmt := top 8
abbrev s_is_curve : Stmt := top 13
abbrev s_is_wake : Stmt := top 16
abbrev s_is_farm : Stmt := top 17
abbrev s_FarmReader_farm : Stmt := inClass (top 22) 1
abbrev s_FarmReader_take : Stmt := inClass (top 22) 2
abbrev s_read_farm : Stmt := top 23
abbrev s_law : Stmt := top 32
structure Fx (K : Frag) : Prop where
  d_law_pool : ∃ fd, FunD K "_law_pool" "_law_pool" (defArgs s_law_pool) (defBody s_law_pool) (defScope s_law_pool) [] [] (He.ga K "_law_pool") fd
  d_law_spread : ∃ fd, FunD K "_law_spread" "_law_spread" (defArgs s_law_spread) (defBody s_law_spread) (defScope s_law_spread) [] [] (He.ga K "_law_spread") fd
  d_law_draw : ∃ fd, FunD K "_law_draw" "_law_draw" (defArgs s_law_draw) (defBody s_law_draw) (defScope s_law_draw) [] [] (He.ga K "_law_draw") fd
  d_law_curve : ∃ fd, FunD K "_law_curve" "_law_curve" (defArgs s_law_curve) (defBody s_law_curve) (defScope s_law_curve) [] [] (He.ga K "_law_curve") fd
  d_law_farm : ∃ fd, FunD K "_law_farm" "_law_farm" (defArgs s_law_farm) (defBody s_law_farm) (defScope s_law_farm) [] [] (He.ga K "_law_farm") fd
  d_law_farm_text : ∃ fd, FunD K "_law_farm_text" "_law_farm_text" (defArgs s_law_farm_text) (defBody s_law_farm_text) (defScope s_law_farm_text) [] [] (He.ga K "_law_farm_text") fd
  d_law_same : ∃ fd, FunD K "_law_same" "_law_same" (defArgs s_law_same) (defBody s_law_same) (defScope s_law_same) [] [] (He.ga K "_law_same") fd
  d_write_farm : ∃ fd, FunD K "write_farm" "write_farm" (defArgs s_write_farm) (defBody s_write_farm) (defScope s_write_farm) [] [] (He.ga K "write_farm") fd
  d_FarmReader_init__ : ∃ fd, FunD K "__init__" "FarmReader.__init__" (defArgs s_FarmReader_init__) (defBody s_FarmReader_init__) (defScope s_FarmReader_init__) [] [] (He.ma K (He.ga K "FarmReader") "__init__") fd
  d_read_number : ∃ fd, FunD K "read_number" "read_number" (defArgs s_read_number) (defBody s_read_number) (defScope s_read_number) [] [] (He.ga K "read_number") fd
  d_read_point : ∃ fd, FunD K "read_point" "read_point" (defArgs s_read_point) (defBody s_read_point) (defScope s_read_point) [] [] (He.ga K "read_point") fd
  d_is_whole : ∃ fd, FunD K "is_whole" "is_whole" (defArgs s_is_whole) (defBody s_is_whole) (defScope s_is_whole) [] [] (He.ga K "is_whole") fd
  d_is_from : ∃ fd, FunD K "is_from" "is_from" (defArgs s_is_from) (defBody s_is_from) (defScope s_is_from) [] [] (He.ga K "is_from") fd
  d_is_row : ∃ fd, FunD K "is_row" "is_row" (defArgs s_is_row) (defBody s_is_row) (defScope s_is_row) [] [] (He.ga K "is_row") fd
  d_rises : ∃ fd, FunD K "rises" "rises" (defArgs s_rises) (defBody s_rises) (defScope s_rises) [] [] (He.ga K "rises") fd
  d_is_curve : ∃ fd, FunD K "is_curve" "is_curve" (defArgs s_is_curve) (defBody s_is_curve) (defScope s_is_curve) [] [] (He.ga K "is_curve") fd
  d_is_wake : ∃ fd, FunD K "is_wake" "is_wake" (defArgs s_is_wake) (defBody s_is_wake) (defScope s_is_wake) [] [] (He.ga K "is_wake") fd
  d_is_farm : ∃ fd, FunD K "is_farm" "is_farm" (defArgs s_is_farm) (defBody s_is_farm) (defScope s_is_farm) [] [] (He.ga K "is_farm") fd
  d_FarmReader_farm : ∃ fd, FunD K "farm" "FarmReader.farm" (defArgs s_FarmReader_farm) (defBody s_FarmReader_farm) (defScope s_FarmReader_farm) [] [] (He.ma K (He.ga K "FarmReader") "farm") fd
  d_FarmReader_take : ∃ fd, FunD K "take" "FarmReader.take" (defArgs s_FarmReader_take) (defBody s_FarmReader_take) (defScope s_FarmReader_take) [] [] (He.ma K (He.ga K "FarmReader") "take") fd
  d_read_farm : ∃ fd, FunD K "read_farm" "read_farm" (defArgs s_read_farm) (defBody s_read_farm) (defScope s_read_farm) [] [] (He.ga K "read_farm") fd
  d_law : ∃ fd, FunD K "law" "law" (defArgs s_law) (defBody s_law) (defScope s_law) [] [] (He.ga K "law") fd
section
variable {w : World} {K : Frag} {mg : Mg} {base : Heap}
theorem sc_law_pool : FnScope ["script", "salt", "cell"] ["script"] (defScope s_law_pool) := ⟨rfl, rfl, rfl, by decide +kernel, rfl, by decide +kernel, by decide +kernel⟩
def b_law_pool : FS := (sSeq (sSet 1 (eC (.int 7))) (sSeq (sFor (iAny (eSl (eVar 0) qNone (qSome (eC (.int 63))))) (gNm 2) (sSet 1 (eOp2 modP (eCall intP (aCons (eOp2 addP (eOp2 mulP (eVar 1) (eC (.int 31))) (eVar 2)) aNil)) (eC (.int 1000003))))) (sRet (eBox (oLst (aCons (eFrz (oCall listP (aCons (eVar 0) aNil))) (aCons (eC (.int 0)) (aCons (eC (.int 0)) (aCons (eC (.int 0)) (aCons (eVar 1) aNil))))))))))
def d_law_pool : List P → Bx → Out P := mkDef 1 3 b_law_pool
theorem ok_law_pool (T : Tx K mg) (F : Fx K) : Gd Pr w K mg base (He.ga K "_law_pool") 1 d_law_pool := by
  obtain ⟨fd, F0⟩ := F.d_law_pool
  refine ⟨⟨fd, ["script"], fn_ok F0 sc_law_pool (fun cdv A outer s H E hr => ⟨_, (ssu_cons (su_set 1 sc_law_pool.nd pu_int) (ssu_cons (su_for (passes_of rfl) rfl (iu_any (pu_sl (pu_var 0) qu_none (qu_some pu_int))) (gu_name 2 sc_law_pool.nd) (ssu_one (su_set 1 sc_law_pool.nd (pu_bin op_mod g_mod (pu_callT o_int g_intc T.f_int (au_cons (pu_bin o_add g_add (pu_bin op_mul g_mul (pu_var 1) pu_int) (pu_var 2)) au_nil)) pu_int)))) (ssu_one (su_ret (pu_box (ou_lst (au_cons (pu_frz (ou_callT o_list g_list T.f_list (au_cons (pu_var 0) au_nil))) (au_cons pu_int (au_cons pu_int (au_cons pu_int (au_cons (pu_var 1) au_nil)))))))))))⟩), F0.bindsN fun _ _ _ _ _ _ us hl => match us, hl with | [_], _ => rfl⟩, F0.kp⟩
theorem sc_law_spread : FnScope ["cell", "mixed", "total", "k"] ["cell"] (defScope s_law_spread) := ⟨rfl, rfl, rfl, by decide +kernel, rfl, by decide +kernel, by decide +kernel⟩
def b_law_spread : FS := (sSeq (sSet 1 (eOp2 modP (eCall intP (aCons (eVar 0) aNil)) (eC (.int 2147483647)))) (sSeq (sSet 2 (eC (.int 1))) (sSeq (sFor (iRg1 (eC (.int 4))) (gNm 3) (sSeq (sSet 1 (eOp2 modP (eCall intP (aCons (eOp2 addP (eOp2 addP (eOp2 mulP (eVar 1) (eC (.int 48271))) (eC (.int 12345))) (eVar 3)) aNil)) (eC (.int 2147483647)))) (sSet 2 (eOp2 addP (eOp2 mulP (eVar 2) (eC (.int 2147483647))) (eVar 1))))) (sRet (eVar 2)))))
def d_law_spread : List P → Bx → Out P := mkDef 1 4 b_law_spread
theorem ok_law_spread (T : Tx K mg) (F : Fx K) : Gd Pr w K mg base (He.ga K "_law_spread") 1 d_law_spread := by
  obtain ⟨fd, F0⟩ := F.d_law_spread
  refine ⟨⟨fd, ["cell"], fn_ok F0 sc_law_spread (fun cdv A outer s H E hr => ⟨_, (ssu_cons (su_set 1 sc_law_spread.nd (pu_bin op_mod g_mod (pu_callT o_int g_intc T.f_int (au_cons (pu_var 0) au_nil)) pu_int)) (ssu_cons (su_set 2 sc_law_spread.nd pu_int) (ssu_cons (su_for (passes_of rfl) rfl (iu_range1 T.f_range pu_int) (gu_name 3 sc_law_spread.nd) (ssu_cons (su_set 1 sc_law_spread.nd (pu_bin op_mod g_mod (pu_callT o_int g_intc T.f_int (au_cons (pu_bin o_add g_add (pu_bin o_add g_add (pu_bin op_mul g_mul (pu_var 1) pu_int) pu_int) (pu_var 3)) au_nil)) pu_int)) (ssu_one (su_set 2 sc_law_spread.nd (pu_bin o_add g_add (pu_bin op_mul g_mul (pu_var 2) pu_int) (pu_var 1)))))) (ssu_one (su_ret (pu_var 2))))))⟩), F0.bindsN fun _ _ _ _ _ _ us hl => match us, hl with | [_], _ => rfl⟩, F0.kp⟩
theorem sc_law_draw : FnScope ["pool", "many", "value", "cell", "mixed"] ["pool", "many"] (defScope s_law_draw) := ⟨rfl, rfl, rfl, by decide +kernel, rfl, by decide +kernel, by decide +kernel⟩
def b_law_draw : FS := (sSeq (sIf (tAndF (tVal (eOp2 leP (eOp2 ixP (eVar 0) (eC (.int 2))) (eC (.int 0)))) (tVal (eOp2 ltP (eOp2 ixP (eVar 0) (eC (.int 1))) (eCall lenP (aCons (eOp2 ixP (eVar 0) (eC (.int 0))) aNil))))) (sSeq (sSet 3 (eOp2 ixP (eOp2 ixP (eVar 0) (eC (.int 0))) (eOp2 ixP (eVar 0) (eC (.int 1))))) (sSeq (sBoxSet (eOp2 addP (eOp2 ixP (eVar 0) (eC (.int 1))) (eC (.int 1))) (eVar 0) (eC (.int 1))) (sSeq (sBoxSet (eVar 3) (eVar 0) (eC (.int 2))) (sIf (tVal (eOp2 ltP (eVar 3) (eC (.int 1000000000000000000)))) (sBoxSet (eFn d_law_spread (aCons (eVar 3) aNil)) (eVar 0) (eC (.int 2))) sSkip)))) sSkip) (sSeq (sBoxSet (eOp2 addP (eOp2 ixP (eVar 0) (eC (.int 3))) (eC (.int 1))) (eVar 0) (eC (.int 3))) (sSeq (sIf (tVal (eOp2 leP (eOp2 ixP (eVar 0) (eC (.int 2))) (eC (.int 0)))) (sSeq (sSet 4 (eOp2 modP (eCall intP (aCons (eOp2 addP (eOp2 addP (eOp2 mulP (eOp2 ixP (eVar 0) (eC (.int 4))) (eC (.int 48271))) (eOp2 mulP (eOp2 ixP (eVar 0) (eC (.int 3))) (eC (.int 69621)))) (eC (.int 1))) aNil)) (eC (.int 2147483647)))) (sSeq (sSet 4 (eOp2 modP (eCall intP (aCons (eOp2 addP (eOp2 mulP (eVar 4) (eC (.int 16807))) (eOp2 ixP (eVar 0) (eC (.int 3)))) aNil)) (eC (.int 2147483629)))) (sRet (eOp2 modP (eOp2 divP (eVar 4) (eC (.int 5))) (eVar 1))))) sSkip) (sSeq (sSet 2 (eOp2 modP (eCall intP (aCons (eOp2 ixP (eVar 0) (eC (.int 2))) aNil)) (eVar 1))) (sSeq (sBoxSet (eOp2 divP (eOp2 ixP (eVar 0) (eC (.int 2))) (eVar 1)) (eVar 0) (eC (.int 2))) (sRet (eVar 2)))))))
def d_law_draw : List P → Bx → Out P := mkDef 2 5 b_law_draw
theorem ok_law_draw (T : Tx K mg) (F : Fx K) : Gd Pr w K mg base (He.ga K "_law_draw") 2 d_law_draw := by
  obtain ⟨fd, F0⟩ := F.d_law_draw
  refine ⟨⟨fd, ["pool", "many"], fn_ok F0 sc_law_draw (fun cdv A outer s H E hr => ⟨_, (ssu_cons (su_if (tu_w (tw_and (tu_cmp op_le g_cmpI (pu_ix o_ix g_ix (pu_var 0) pu_int) pu_int) (tw_and1 (tu_cmp (o_lt hr.units0) g_lt (pu_ix o_ix g_ix (pu_var 0) pu_int) (pu_callB o_len g_len T.f_len (au_cons (pu_ix o_ix g_ix (pu_var 0) pu_int) au_nil)))))) (ssu_cons (su_set 3 sc_law_draw.nd (pu_ix o_ix g_ix (pu_ix o_ix g_ix (pu_var 0) pu_int) (pu_ix o_ix g_ix (pu_var 0) pu_int))) (ssu_cons (su_boxSet (pu_bin o_add g_add (pu_ix o_ix g_ix (pu_var 0) pu_int) pu_int) (pu_var 0) pu_int) (ssu_cons (su_boxSet (pu_var 3) (pu_var 0) pu_int) (ssu_one (su_if (tu_cmp (o_lt hr.units0) g_lt (pu_var 3) pu_int) (ssu_one (su_boxSet (pu_fn (takes_of rfl rfl rfl rfl) (ok_law_spread T F) (hr.mono (by decide)) T.g_law_spread (au_cons (pu_var 3) au_nil)) (pu_var 0) pu_int)) ssu_nil))))) ssu_nil) (ssu_cons (su_boxSet (pu_bin o_add g_add (pu_ix o_ix g_ix (pu_var 0) pu_int) pu_int) (pu_var 0) pu_int) (ssu_cons (su_if (tu_cmp op_le g_cmpI (pu_ix o_ix g_ix (pu_var 0) pu_int) pu_int) (ssu_cons (su_set 4 sc_law_draw.nd (pu_bin op_mod g_mod (pu_callT o_int g_intc T.f_int (au_cons (pu_bin o_add g_add (pu_bin o_add g_add (pu_bin op_mul g_mul (pu_ix o_ix g_ix (pu_var 0) pu_int) pu_int) (pu_bin op_mul g_mul (pu_ix o_ix g_ix (pu_var 0) pu_int) pu_int)) pu_int) au_nil)) pu_int)) (ssu_cons (su_set 4 sc_law_draw.nd (pu_bin op_mod g_mod (pu_callT o_int g_intc T.f_int (au_cons (pu_bin o_add g_add (pu_bin op_mul g_mul (pu_var 4) pu_int) (pu_ix o_ix g_ix (pu_var 0) pu_int)) au_nil)) pu_int)) (ssu_one (su_ret (pu_bin op_mod g_mod (pu_bin op_fdiv g_div (pu_var 4) pu_int) (pu_var 1)))))) ssu_nil) (ssu_cons (su_set 2 sc_law_draw.nd (pu_bin op_mod g_mod (pu_callT o_int g_intc T.f_int (au_cons (pu_ix o_ix g_ix (pu_var 0) pu_int) au_nil)) (pu_var 1))) (ssu_cons (su_boxSet (pu_bin op_fdiv g_div (pu_ix o_ix g_ix (pu_var 0) pu_int) (pu_var 1)) (pu_var 0) pu_int) (ssu_one (su_ret (pu_var 2))))))))⟩), F0.bindsN fun _ _ _ _ _ _ us hl => match us, hl with | [_, _], _ => rfl⟩, F0.kp⟩
theorem sc_law_curve : FnScope ["pool", "top", "winds", "k", "wind"] ["pool", "top"] (defScope s_law_curve) := ⟨rfl, rfl, rfl, by decide +kernel, rfl, by decide +kernel, by decide +kernel⟩
def b_law_curve : FS := (sSeq (sSet 2 (eFrz (oSortSet (eFrz (oComp (iRg1 (eOp2 addP (eC (.int 1)) (eFn d_law_draw (aCons (eVar 0) (aCons (eC (.int 7)) aNil))))) (gNm 3) tYesF (eOp2 addP (eC (.int 1)) (eFn d_law_draw (aCons (eVar 0) (aCons (eC (.int 40)) aNil)))) [3]))))) (sRet (eOp2 addP (eTup (aCons (eTup (aCons (eC (.int 0)) (aCons (eFn d_law_draw (aCons (eVar 0) (aCons (eC (.int 3)) aNil))) aNil))) aNil)) (eCall tupleP (aCons (eFrz (oComp (iAny (eVar 2)) (gNm 4) tYesF (eTup (aCons (eVar 4) (aCons (eFn d_law_draw (aCons (eVar 0) (aCons (eOp2 addP (eVar 1) (eC (.int 1))) aNil))) aNil))) [4])) aNil)))))
def d_law_curve : List P → Bx → Out P := mkDef 2 5 b_law_curve
theorem ok_law_curve (T : Tx K mg) (F : Fx K) : Gd Pr w K mg base (He.ga K "_law_curve") 3 d_law_curve := by
  obtain ⟨fd, F0⟩ := F.d_law_curve
  refine ⟨⟨fd, ["pool", "top"], fn_ok F0 sc_law_curve (fun cdv A outer s H E hr => ⟨_, (ssu_cons (su_set 2 sc_law_curve.nd (pu_frz (ou_sortSet rfl (pu_frz (ou_lc [("k", 3)] rfl sc_law_curve.nd (iu_range1 T.f_range (pu_bin o_add g_add pu_int (pu_fn (takes_of rfl rfl rfl rfl) (ok_law_draw T F) (hr.mono (by decide)) T.g_law_draw (au_cons (pu_var 0) (au_cons pu_int au_nil))))) (fun _ _ _ _ _ => (gu_name 3 sc_law_curve.nd)) (fun _ _ _ _ _ => tsu_nil) (fun _ _ _ _ _ => (pu_bin o_add g_add pu_int (pu_fn takes0 (ok_law_draw T F) (hr.mono (by decide)) T.g_law_draw (au_cons (pu_var 0) (au_cons pu_int au_nil))))) )) T.f_sorted T.f_set))) (ssu_one (su_ret (pu_bin o_add g_add (pu_tup (au_cons (pu_tup (au_cons pu_int (au_cons (pu_fn (takes_of rfl rfl rfl rfl) (ok_law_draw T F) (hr.mono (by decide)) T.g_law_draw (au_cons (pu_var 0) (au_cons pu_int au_nil))) au_nil))) au_nil)) (pu_callT o_tuple g_tuple T.f_tuple (au_cons (pu_frz (ou_lc [("wind", 4)] rfl sc_law_curve.nd (iu_any (pu_var 2)) (fun _ _ _ _ _ => (gu_name 4 sc_law_curve.nd)) (fun _ _ _ _ _ => tsu_nil) (fun _ _ _ _ _ => (pu_tup (au_cons (pu_var 4) (au_cons (pu_fn takes0 (ok_law_draw T F) (hr.mono (by decide)) T.g_law_draw (au_cons (pu_var 0) (au_cons (pu_bin o_add g_add (pu_var 1) pu_int) au_nil))) au_nil)))) )) au_nil))))))⟩), F0.bindsN fun _ _ _ _ _ _ us hl => match us, hl with | [_, _], _ => rfl⟩, F0.kp⟩
theorem sc_law_farm : FnScope ["pool", "most", "top", "curves", "many", "wakes", "where", "i", "j", "k"] ["pool", "most", "top"] (defScope s_law_farm) := ⟨rfl, rfl, rfl, by decide +kernel, rfl, by decide +kernel, by decide +kernel⟩
def b_law_farm : FS := (sSeq (sSet 3 (eCall tupleP (aCons (eFrz (oComp (iRg1 (eOp2 addP (eC (.int 1)) (eFn d_law_draw (aCons (eVar 0) (aCons (eC (.int 3)) aNil))))) (gNm 9) tYesF (eFn d_law_curve (aCons (eVar 0) (aCons (eVar 2) aNil))) [9])) aNil))) (sSeq (sSet 4 (eOp2 addP (eC (.int 1)) (eFn d_law_draw (aCons (eVar 0) (aCons (eVar 1) aNil))))) (sSeq (sSetO 5 (oLst aNil)) (sSeq (sFor (iRg1 (eC (.int 4))) (gNm 6) (sFor (iRg1 (eVar 4)) (gNm 7) (sFor (iRg1 (eVar 4)) (gNm 8) (sIf (tAndF (tVal (eOp2 neP (eVar 7) (eVar 8))) (tVal (eOp2 eqP (eFn d_law_draw (aCons (eVar 0) (aCons (eC (.int 3)) aNil))) (eC (.int 0))))) (sAppend 5 (eTup (aCons (eVar 6) (aCons (eVar 7) (aCons (eVar 8) (aCons (eOp2 addP (eC (.int 1)) (eFn d_law_draw (aCons (eVar 0) (aCons (eOp2 ixP (eTup (aCons (eC (.int 30)) (aCons (eC (.int 100)) aNil))) (eFn d_law_draw (aCons (eVar 0) (aCons (eC (.int 2)) aNil)))) aNil)))) aNil)))))) sSkip)))) (sFrz 5 (sRet (eTup (aCons (eVar 3) (aCons (eCall tupleP (aCons (eFrz (oComp (iRg1 (eVar 4)) (gNm 9) tYesF (eFn d_law_draw (aCons (eVar 0) (aCons (eCall lenP (aCons (eVar 3) aNil)) aNil))) [9])) aNil)) (aCons (eCall tupleP (aCons (eVar 5) aNil)) aNil))))))))))
def d_law_farm : List P → Bx → Out P := mkDef 3 10 b_law_farm
theorem ok_law_farm (T : Tx K mg) (F : Fx K) : Gd Pr w K mg base (He.ga K "_law_farm") 4 d_law_farm := by
  obtain ⟨fd, F0⟩ := F.d_law_farm
  refine ⟨⟨fd, ["pool", "most", "top"], fn_ok F0 sc_law_farm (fun cdv A outer s H E hr => ⟨_, (ssu_cons (su_set 3 sc_law_farm.nd (pu_callT o_tuple g_tuple T.f_tuple (au_cons (pu_frz (ou_lc [("k", 9)] rfl sc_law_farm.nd (iu_range1 T.f_range (pu_bin o_add g_add pu_int (pu_fn (takes_of rfl rfl rfl rfl) (ok_law_draw T F) (hr.mono (by decide)) T.g_law_draw (au_cons (pu_var 0) (au_cons pu_int au_nil))))) (fun _ _ _ _ _ => (gu_name 9 sc_law_farm.nd)) (fun _ _ _ _ _ => tsu_nil) (fun _ _ _ _ _ => (pu_fn takes0 (ok_law_curve T F) (hr.mono (by decide)) T.g_law_curve (au_cons (pu_var 0) (au_cons (pu_var 2) au_nil)))) )) au_nil))) (ssu_cons (su_set 4 sc_law_farm.nd (pu_bin o_add g_add pu_int (pu_fn (takes_of rfl rfl rfl rfl) (ok_law_draw T F) (hr.mono (by decide)) T.g_law_draw (au_cons (pu_var 0) (au_cons (pu_var 1) au_nil))))) (ssu_cons (su_setO 5 sc_law_farm.nd (ou_lst au_nil)) (ssu_cons (su_for (passes_of rfl) rfl (iu_range1 T.f_range pu_int) (gu_name 6 sc_law_farm.nd) (ssu_one (su_for (passes_of rfl) rfl (iu_range1 T.f_range (pu_var 4)) (gu_name 7 sc_law_farm.nd) (ssu_one (su_for (passes_of rfl) rfl (iu_range1 T.f_range (pu_var 4)) (gu_name 8 sc_law_farm.nd) (ssu_one (su_if (tu_w (tw_and (tu_cmp (o_ne hr.units) g_ne (pu_var 7) (pu_var 8)) (tw_and1 (tu_cmp (o_eq hr.units) g_eq (pu_fn (takes_of rfl rfl rfl rfl) (ok_law_draw T F) (hr.mono (by decide)) T.g_law_draw (au_cons (pu_var 0) (au_cons pu_int au_nil))) pu_int)))) (ssu_one (su_append 5 (pu_tup (au_cons (pu_var 6) (au_cons (pu_var 7) (au_cons (pu_var 8) (au_cons (pu_bin o_add g_add pu_int (pu_fn (takes_of rfl rfl rfl rfl) (ok_law_draw T F) (hr.mono (by decide)) T.g_law_draw (au_cons (pu_var 0) (au_cons (pu_ix o_ix g_ix (pu_tup (au_cons pu_int (au_cons pu_int au_nil))) (pu_fn (takes_of rfl rfl rfl rfl) (ok_law_draw T F) (hr.mono (by decide)) T.g_law_draw (au_cons (pu_var 0) (au_cons pu_int au_nil)))) au_nil)))) au_nil))))))) ssu_nil))))))) (ssu_one (su_frz 5 (su_ret (pu_tup (au_cons (pu_var 3) (au_cons (pu_callT o_tuple g_tuple T.f_tuple (au_cons (pu_frz (ou_lc [("k", 9)] rfl sc_law_farm.nd (iu_range1 T.f_range (pu_var 4)) (fun _ _ _ _ _ => (gu_name 9 sc_law_farm.nd)) (fun _ _ _ _ _ => tsu_nil) (fun _ _ _ _ _ => (pu_fn takes0 (ok_law_draw T F) (hr.mono (by decide)) T.g_law_draw (au_cons (pu_var 0) (au_cons (pu_callB o_len g_len T.f_len (au_cons (pu_var 3) au_nil)) au_nil)))) )) au_nil)) (au_cons (pu_callT o_tuple g_tuple T.f_tuple (au_cons (pu_var 5) au_nil)) au_nil)))))))))))⟩), F0.bindsN fun _ _ _ _ _ _ us hl => match us, hl with | [_, _, _], _ => rfl⟩, F0.kp⟩
theorem sc_law_farm_text : FnScope ["farm", "rows", "curve", "wake", "number", "part", "wind", "power"] ["farm"] (defScope s_law_farm_text) := ⟨rfl, rfl, rfl, by decide +kernel, rfl, by decide +kernel, by decide +kernel⟩
def b_law_farm_text : FS := (sSeq (sSetO 1 (oLst aNil)) (sSeq (sFor (iAny (eOp2 ixP (eVar 0) (eC (.int 0)))) (gNm 2) (sAppend 1 (eOp2 addP (eC (.str "curve ")) (eMet1 joinP (eC (.str " ")) (eFrz (oComp (iAny (eVar 2)) (gTp [(gNm 6), (gNm 7)]) tYesF (eOp2 addP (eOp2 addP (eCall strP (aCons (eVar 6) aNil)) (eC (.str ","))) (eCall strP (aCons (eVar 7) aNil))) [6, 7])))))) (sSeq (sAppend 1 (eOp2 addP (eC (.str "machines ")) (eMet1 joinP (eC (.str " ")) (eFrz (oComp (iAny (eOp2 ixP (eVar 0) (eC (.int 1)))) (gNm 4) tYesF (eCall strP (aCons (eVar 4) aNil)) [4]))))) (sFrz 1 (sRet (eOp2 addP (eVar 1) (eFrz (oComp (iAny (eOp2 ixP (eVar 0) (eC (.int 2)))) (gNm 3) tYesF (eOp2 addP (eC (.str "wake ")) (eMet1 joinP (eC (.str " ")) (eFrz (oComp (iAny (eVar 3)) (gNm 5) tYesF (eCall strP (aCons (eVar 5) aNil)) [5])))) [3]))))))))
def d_law_farm_text : List P → Bx → Out P := mkDef 1 8 b_law_farm_text
theorem ok_law_farm_text (T : Tx K mg) (F : Fx K) : Gd Pr w K mg base (He.ga K "_law_farm_text") 1 d_law_farm_text := by
  obtain ⟨fd, F0⟩ := F.d_law_farm_text
  refine ⟨⟨fd, ["farm"], fn_ok F0 sc_law_farm_text (fun cdv A outer s H E hr => ⟨_, (ssu_cons (su_setO 1 sc_law_farm_text.nd (ou_lst au_nil)) (ssu_cons (su_for (passes_of rfl) rfl (iu_any (pu_ix o_ix g_ix (pu_var 0) pu_int)) (gu_name 2 sc_law_farm_text.nd) (ssu_one (su_append 1 (pu_bin o_add g_add pu_str (pu_join pu_str (pu_frz (ou_lc [("wind", 6), ("power", 7)] rfl sc_law_farm_text.nd (iu_any (pu_var 2)) (fun _ _ _ _ _ => (gu_tup (n := 2) rfl (gsu_cons (gu_name 6 sc_law_farm_text.nd) (gsu_cons (gu_name 7 sc_law_farm_text.nd) gsu_nil)))) (fun _ _ _ _ _ => tsu_nil) (fun _ _ _ _ _ => (pu_bin o_add g_add (pu_bin o_add g_add (pu_callT call_str_int g_str T.f_str (au_cons (pu_var 6) au_nil)) pu_str) (pu_callT call_str_int g_str T.f_str (au_cons (pu_var 7) au_nil)))) ))))))) (ssu_cons (su_append 1 (pu_bin o_add g_add pu_str (pu_join pu_str (pu_frz (ou_lc [("number", 4)] rfl sc_law_farm_text.nd (iu_any (pu_ix o_ix g_ix (pu_var 0) pu_int)) (fun _ _ _ _ _ => (gu_name 4 sc_law_farm_text.nd)) (fun _ _ _ _ _ => tsu_nil) (fun _ _ _ _ _ => (pu_callT call_str_int g_str T.f_str (au_cons (pu_var 4) au_nil))) ))))) (ssu_one (su_frz 1 (su_ret (pu_bin o_add g_add (pu_var 1) (pu_frz (ou_lc [("wake", 3)] rfl sc_law_farm_text.nd (iu_any (pu_ix o_ix g_ix (pu_var 0) pu_int)) (fun _ _ _ _ _ => (gu_name 3 sc_law_farm_text.nd)) (fun _ _ _ _ _ => tsu_nil) (fun _ _ _ _ _ => (pu_bin o_add g_add pu_str (pu_join pu_str (pu_frz (ou_lc [("part", 5)] rfl sc_law_farm_text.nd (iu_any (pu_var 3)) (fun _ _ _ _ _ => (gu_name 5 sc_law_farm_text.nd)) (fun _ _ _ _ _ => tsu_nil) (fun _ _ _ _ _ => (pu_callT call_str_int g_str T.f_str (au_cons (pu_var 5) au_nil))) ))))) )))))))))⟩), F0.bindsN fun _ _ _ _ _ _ us hl => match us, hl with | [_], _ => rfl⟩, F0.kp⟩
theorem sc_law_same : FnScope ["actual", "due", "k"] ["actual", "due"] (defScope s_law_same) := ⟨rfl, rfl, rfl, by decide +kernel, rfl, by decide +kernel, by decide +kernel⟩
def b_law_same (dS : List P → Bx → Out P) : FS := (sSeq (sIf (tOrF (tVal (eIsi "tuple" (eVar 1))) (tVal (eIsi "list" (eVar 1)))) (sSeq (sIf (tOrF (tVal (eOp2 neP (eIsi "tuple" (eVar 1)) (eIsi "tuple" (eVar 0)))) (tOrF (tVal (eOp2 neP (eIsi "list" (eVar 1)) (eIsi "list" (eVar 0)))) (tVal (eOp2 neP (eCall lenP (aCons (eVar 0) aNil)) (eCall lenP (aCons (eVar 1) aNil)))))) (sRet (eC (.bl false))) sSkip) (sRet (eOp2 eqP (eCall lenP (aCons (eFrz (oComp (iRg1 (eCall lenP (aCons (eVar 1) aNil))) (gNm 2) (tNotF (tVal (eFn dS (aCons (eOp2 ixP (eVar 0) (eVar 2)) (aCons (eOp2 ixP (eVar 1) (eVar 2)) aNil))))) (eVar 2) [2])) aNil)) (eC (.int 0))))) sSkip) (sSeq (sIf (tVal (eOp2 isP (eVar 1) (eC .non))) (sRet (eOp2 isP (eVar 0) (eC .non))) sSkip) (sSeq (sIf (tOrF (tVal (eIsi "bool" (eVar 1))) (tVal (eIsi "bool" (eVar 0)))) (sRet (eAnd (eIsi "bool" (eVar 1)) (eAnd (eIsi "bool" (eVar 0)) (eOp2 eqP (eVar 0) (eVar 1))))) sSkip) (sSeq (sIf (tVal (eIsi "int" (eVar 1))) (sRet (eAnd (eIsi "int" (eVar 0)) (eOp2 eqP (eVar 0) (eVar 1)))) sSkip) (sRet (eAnd (eIsi "str" (eVar 0)) (eAnd (eIsi "str" (eVar 1)) (eOp2 eqP (eVar 0) (eVar 1)))))))))
def d_law_same : Nat → List P → Bx → Out P
  | 0 => fun _ _ => .no
  | n + 1 => mkDef 2 3 (b_law_same (d_law_same n))
theorem ok_law_same (T : Tx K mg) (F : Fx K) : ∀ n, Gd Pr w K mg base (He.ga K "_law_same") (0 + n) (d_law_same n)
  | 0 => by
    obtain ⟨fd, F0⟩ := F.d_law_same
    exact Gd.no (ps := ["actual", "due"]) (F0.bindsN fun _ _ _ _ _ _ us hl => match us, hl with | [_, _], _ => rfl) F0.kp
  | n + 1 => by
    have G0 : Gd Pr w K mg base (He.ga K "_law_same") (0 + n) (d_law_same n) := ok_law_same T F n
    obtain ⟨fd, F0⟩ := F.d_law_same
    refine ⟨⟨fd, ["actual", "due"], fn_ok F0 sc_law_same (fun cdv A outer s H E hr => ⟨_, (ssu_cons (su_if (tu_w (tw_or (tu_val (pu_isi (pu_var 1) T.f_isinstance T.f_tuple)) (tw_or1 (tu_val (pu_isi (pu_var 1) T.f_isinstance T.f_list))))) (ssu_cons (su_if (tu_w (tw_or (tu_cmp (o_ne hr.units) g_ne (pu_isi (pu_var 1) T.f_isinstance T.f_tuple) (pu_isi (pu_var 0) T.f_isinstance T.f_tuple)) (tw_or (tu_cmp (o_ne hr.units) g_ne (pu_isi (pu_var 1) T.f_isinstance T.f_list) (pu_isi (pu_var 0) T.f_isinstance T.f_list)) (tw_or1 (tu_cmp (o_ne hr.units) g_ne (pu_callB o_len g_len T.f_len (au_cons (pu_var 0) au_nil)) (pu_callB o_len g_len T.f_len (au_cons (pu_var 1) au_nil))))))) (ssu_one (su_ret pu_bl)) ssu_nil) (ssu_one (su_ret (pu_cmp (o_eq hr.units) g_eq (pu_callB o_len g_len T.f_len (au_cons (pu_frz (ou_lc [("k", 2)] rfl sc_law_same.nd (iu_range1 T.f_range (pu_callB o_len g_len T.f_len (au_cons (pu_var 1) au_nil))) (fun _ _ _ _ _ => (gu_name 2 sc_law_same.nd)) (fun _ _ _ _ _ => (tsu_one (tu_not (tu_val (pu_fn takes0 G0 hr T.g_law_same (au_cons (pu_ix o_ix g_ix (pu_var 0) (pu_var 2)) (au_cons (pu_ix o_ix g_ix (pu_var 1) (pu_var 2)) au_nil))))))) (fun _ _ _ _ _ => (pu_var 2)) )) au_nil)) pu_int)))) ssu_nil) (ssu_cons (su_if (tu_cmp op_isN g_is (pu_var 1) pu_non) (ssu_one (su_ret (pu_cmp op_isN g_is (pu_var 0) pu_non))) ssu_nil) (ssu_cons (su_if (tu_w (tw_or (tu_val (pu_isi (pu_var 1) T.f_isinstance T.f_bool)) (tw_or1 (tu_val (pu_isi (pu_var 0) T.f_isinstance T.f_bool))))) (ssu_one (su_ret (pu_and (pu_isi (pu_var 1) T.f_isinstance T.f_bool) (pu_and (pu_isi (pu_var 0) T.f_isinstance T.f_bool) (pu_one (pu_cmp (o_eq hr.units) g_eq (pu_var 0) (pu_var 1))))))) ssu_nil) (ssu_cons (su_if (tu_val (pu_isi (pu_var 1) T.f_isinstance T.f_int)) (ssu_one (su_ret (pu_and (pu_isi (pu_var 0) T.f_isinstance T.f_int) (pu_one (pu_cmp (o_eq hr.units) g_eq (pu_var 0) (pu_var 1)))))) ssu_nil) (ssu_one (su_ret (pu_and (pu_isi (pu_var 0) T.f_isinstance T.f_str) (pu_and (pu_isi (pu_var 1) T.f_isinstance T.f_str) (pu_one (pu_cmp (o_eq hr.units) g_eq (pu_var 0) (pu_var 1)))))))))))⟩), F0.bindsN fun _ _ _ _ _ _ us hl => match us, hl with | [_, _], _ => rfl⟩, F0.kp⟩
theorem sc_write_farm : FnScope ["farm", "lines", "curve", "curves", "machines", "wakes", "wake", "number", "wind", "power", "part"] ["farm"] (defScope s_write_farm) := ⟨rfl, rfl, rfl, by decide +kernel, rfl, by decide +kernel, by decide +kernel⟩
def b_write_farm : FS := (sSeq (sAsg (gTp [(gNm 3), (gNm 4), (gNm 5)]) (eVar 0)) (sSeq (sSetO 1 (oLst aNil)) (sSeq (sFor (iAny (eVar 3)) (gNm 2) (sAppend 1 (eMet1 joinP (eC (.str " ")) (eOp2 addP (eFrz (oLst (aCons (eC (.str "curve")) aNil))) (eFrz (oComp (iAny (eVar 2)) (gTp [(gNm 8), (gNm 9)]) tYesF (eJs [(eOp1 fmtP (eVar 8)), (eC (.str ",")), (eOp1 fmtP (eVar 9))] Str.empty) [8, 9])))))) (sSeq (sAppend 1 (eMet1 joinP (eC (.str " ")) (eOp2 addP (eFrz (oLst (aCons (eC (.str "machines")) aNil))) (eFrz (oComp (iAny (eVar 4)) (gNm 7) tYesF (eCall strP (aCons (eVar 7) aNil)) [7]))))) (sFrz 1 (sRet (eMet1 joinP (eC (.str "\n")) (eOp2 addP (eVar 1) (eFrz (oComp (iAny (eVar 5)) (gNm 6) tYesF (eMet1 joinP (eC (.str " ")) (eOp2 addP (eFrz (oLst (aCons (eC (.str "wake")) aNil))) (eFrz (oComp (iAny (eVar 6)) (gNm 10) tYesF (eCall strP (aCons (eVar 10) aNil)) [10])))) [6]))))))))))
def d_write_farm : List P → Bx → Out P := mkDef 1 11 b_write_farm
theorem ok_write_farm (T : Tx K mg) (F : Fx K) : Gd Pr w K mg base (He.ga K "write_farm") 1 d_write_farm := by
  obtain ⟨fd, F0⟩ := F.d_write_farm
  refine ⟨⟨fd, ["farm"], fn_ok F0 sc_write_farm (fun cdv A outer s H E hr => ⟨_, (ssu_cons (su_asg (gu_tup (n := 3) rfl (gsu_cons (gu_name 3 sc_write_farm.nd) (gsu_cons (gu_name 4 sc_write_farm.nd) (gsu_cons (gu_name 5 sc_write_farm.nd) gsu_nil)))) (pu_var 0)) (ssu_cons (su_setO 1 sc_write_farm.nd (ou_lst au_nil)) (ssu_cons (su_for (passes_of rfl) rfl (iu_any (pu_var 3)) (gu_name 2 sc_write_farm.nd) (ssu_one (su_append 1 (pu_join pu_str (pu_bin o_add g_add (pu_frz (ou_lst (au_cons pu_str au_nil))) (pu_frz (ou_lc [("wind", 8), ("power", 9)] rfl sc_write_farm.nd (iu_any (pu_var 2)) (fun _ _ _ _ _ => (gu_tup (n := 2) rfl (gsu_cons (gu_name 8 sc_write_farm.nd) (gsu_cons (gu_name 9 sc_write_farm.nd) gsu_nil)))) (fun _ _ _ _ _ => tsu_nil) (fun _ _ _ _ _ => (pu_joined (.cons (pu_fmt (pu_var 8)) (.cons pu_str (.cons (pu_fmt (pu_var 9)) .nil))))) ))))))) (ssu_cons (su_append 1 (pu_join pu_str (pu_bin o_add g_add (pu_frz (ou_lst (au_cons pu_str au_nil))) (pu_frz (ou_lc [("number", 7)] rfl sc_write_farm.nd (iu_any (pu_var 4)) (fun _ _ _ _ _ => (gu_name 7 sc_write_farm.nd)) (fun _ _ _ _ _ => tsu_nil) (fun _ _ _ _ _ => (pu_callT call_str_int g_str T.f_str (au_cons (pu_var 7) au_nil))) ))))) (ssu_one (su_frz 1 (su_ret (pu_join pu_str (pu_bin o_add g_add (pu_var 1) (pu_frz (ou_lc [("wake", 6)] rfl sc_write_farm.nd (iu_any (pu_var 5)) (fun _ _ _ _ _ => (gu_name 6 sc_write_farm.nd)) (fun _ _ _ _ _ => tsu_nil) (fun _ _ _ _ _ => (pu_join pu_str (pu_bin o_add g_add (pu_frz (ou_lst (au_cons pu_str au_nil))) (pu_frz (ou_lc [("part", 10)] rfl sc_write_farm.nd (iu_any (pu_var 6)) (fun _ _ _ _ _ => (gu_name 10 sc_write_farm.nd)) (fun _ _ _ _ _ => tsu_nil) (fun _ _ _ _ _ => (pu_callT call_str_int g_str T.f_str (au_cons (pu_var 10) au_nil))) ))))) )))))))))))⟩), F0.bindsN fun _ _ _ _ _ _ us hl => match us, hl with | [_], _ => rfl⟩, F0.kp⟩
theorem sc_FarmReader_init__ : FnScope ["self"] ["self"] (defScope s_FarmReader_init__) := ⟨rfl, rfl, rfl, by decide +kernel, rfl, by decide +kernel, by decide +kernel⟩
def b_FarmReader_init__ : FS := (sSeq (sFldSet "FarmReader" "curves" (eTup aNil) (eVar 0)) (sSeq (sFldSet "FarmReader" "machines" (eTup aNil) (eVar 0)) (sFldSet "FarmReader" "wakes" (eTup aNil) (eVar 0))))
def d_FarmReader_init__ : List P → Bx → Out P := mkDef 1 1 b_FarmReader_init__
theorem ok_FarmReader_init__ (T : Tx K mg) (F : Fx K) : Gd Pr w K mg base (He.ma K (He.ga K "FarmReader") "__init__") 1 d_FarmReader_init__ := by
  obtain ⟨fd, F0⟩ := F.d_FarmReader_init__
  refine ⟨⟨fd, ["self"], fn_ok F0 sc_FarmReader_init__ (fun cdv A outer s H E hr => ⟨_, (ssu_cons (su_fldSet T.k_FarmReader T.n_FarmReader_curves (pu_var 0) (pu_tup au_nil)) (ssu_cons (su_fldSet T.k_FarmReader T.n_FarmReader_machines (pu_var 0) (pu_tup au_nil)) (ssu_one (su_fldSet T.k_FarmReader T.n_FarmReader_wakes (pu_var 0) (pu_tup au_nil)))))⟩), F0.bindsN fun _ _ _ _ _ _ us hl => match us, hl with | [_], _ => rfl⟩, F0.kp⟩
theorem sc_read_number : FnScope ["text", "sign"] ["text"] (defScope s_read_number) := ⟨rfl, rfl, rfl, by decide +kernel, rfl, by decide +kernel, by decide +kernel⟩
def b_read_number : FS := (sSeq (sIf (tOrF (tNotF (tVal (eChain leP leP (eC (.int 1)) (eCall lenP (aCons (eVar 0) aNil)) (eC (.int 9))))) (tNotF (tVal (eCall allP (aCons (eFrz (oComp (iAny (eVar 0)) (gNm 1) tYesF (eOp2 inP (eVar 1) (eC c_DIGITS)) [1])) aNil))))) sNever sSkip) (sSeq (sIf (tAndF (tVal (eOp2 gtP (eCall lenP (aCons (eVar 0) aNil)) (eC (.int 1)))) (tVal (eOp2 eqP (eOp2 ixP (eVar 0) (eC (.int 0))) (eC (.str "0"))))) sNever sSkip) (sRet (eCall intP (aCons (eVar 0) aNil)))))
def d_read_number : List P → Bx → Out P := mkDef 1 2 b_read_number
theorem ok_read_number (T : Tx K mg) (F : Fx K) : Gd Pr w K mg base (He.ga K "read_number") 1 d_read_number := by
  obtain ⟨u_DIGITS, v_DIGITS, m_DIGITS, k_DIGITS⟩ := T.c_DIGITS
  obtain ⟨fd, F0⟩ := F.d_read_number
  refine ⟨⟨fd, ["text"], fn_ok F0 sc_read_number (fun cdv A outer s H E hr => ⟨_, (ssu_cons (su_if (tu_w (tw_or (tu_not (tu_chain op_le op_le g_cmpI g_cmpI pu_int (pu_callB o_len g_len T.f_len (au_cons (pu_var 0) au_nil)) pu_int)) (tw_or1 (tu_not (tu_val (pu_callB (o_all rfl) g_all T.f_all (au_cons (pu_frz (ou_lc [("sign", 1)] rfl sc_read_number.nd (iu_any (pu_var 0)) (fun _ _ _ _ _ => (gu_name 1 sc_read_number.nd)) (fun _ _ _ _ _ => tsu_nil) (fun _ _ _ _ _ => (pu_cmp (o_in (hu65 hr)) g_in (pu_var 1) (pu_glob m_DIGITS k_DIGITS))) )) au_nil))))))) (ssu_one su_never) ssu_nil) (ssu_cons (su_if (tu_w (tw_and (tu_cmp op_gt g_cmpI (pu_callB o_len g_len T.f_len (au_cons (pu_var 0) au_nil)) pu_int) (tw_and1 (tu_cmp (o_eq hr.units) g_eq (pu_ix o_ix g_ix (pu_var 0) pu_int) pu_str)))) (ssu_one su_never) ssu_nil) (ssu_one (su_ret (pu_callT o_int g_intc T.f_int (au_cons (pu_var 0) au_nil))))))⟩), F0.bindsN fun _ _ _ _ _ _ us hl => match us, hl with | [_], _ => rfl⟩, F0.kp⟩
theorem sc_read_point : FnScope ["text", "wind", "comma", "power"] ["text"] (defScope s_read_point) := ⟨rfl, rfl, rfl, by decide +kernel, rfl, by decide +kernel, by decide +kernel⟩
def b_read_point : FS := (sSeq (sAsg (gTp [(gNm 1), (gNm 2), (gNm 3)]) (eMet1 partP (eVar 0) (eC (.str ",")))) (sSeq (sIf (tVal (eOp2 eqP (eVar 2) (eC (.str "")))) sNever sSkip) (sRet (eTup (aCons (eFn d_read_number (aCons (eVar 1) aNil)) (aCons (eFn d_read_number (aCons (eVar 3) aNil)) aNil))))))
def d_read_point : List P → Bx → Out P := mkDef 1 4 b_read_point
theorem ok_read_point (T : Tx K mg) (F : Fx K) : Gd Pr w K mg base (He.ga K "read_point") 2 d_read_point := by
  obtain ⟨fd, F0⟩ := F.d_read_point
  refine ⟨⟨fd, ["text"], fn_ok F0 sc_read_point (fun cdv A outer s H E hr => ⟨_, (ssu_cons (su_asg (gu_tup (n := 3) rfl (gsu_cons (gu_name 1 sc_read_point.nd) (gsu_cons (gu_name 2 sc_read_point.nd) (gsu_cons (gu_name 3 sc_read_point.nd) gsu_nil)))) (pu_partition (pu_var 0) pu_str)) (ssu_cons (su_if (tu_cmp (o_eq hr.units) g_eq (pu_var 2) pu_str) (ssu_one su_never) ssu_nil) (ssu_one (su_ret (pu_tup (au_cons (pu_fn (takes_of rfl rfl rfl rfl) (ok_read_number T F) (hr.mono (by decide)) T.g_read_number (au_cons (pu_var 1) au_nil)) (au_cons (pu_fn (takes_of rfl rfl rfl rfl) (ok_read_number T F) (hr.mono (by decide)) T.g_read_number (au_cons (pu_var 3) au_nil)) au_nil)))))))⟩), F0.bindsN fun _ _ _ _ _ _ us hl => match us, hl with | [_], _ => rfl⟩, F0.kp⟩
theorem sc_is_whole : FnScope ["value"] ["value"] (defScope s_is_whole) := ⟨rfl, rfl, rfl, by decide +kernel, rfl, by decide +kernel, by decide +kernel⟩
def b_is_whole : FS := (sRet (eAnd (eIsi "int" (eVar 0)) (eOp1 notP (eIsi "bool" (eVar 0)))))
def d_is_whole : List P → Bx → Out P := mkDef 1 1 b_is_whole
theorem ok_is_whole (T : Tx K mg) (F : Fx K) : Gd Pr w K mg base (He.ga K "is_whole") 1 d_is_whole := by
  obtain ⟨fd, F0⟩ := F.d_is_whole
  refine ⟨⟨fd, ["value"], fn_ok F0 sc_is_whole (fun cdv A outer s H E hr => ⟨_, (ssu_one (su_ret (pu_and (pu_isi (pu_var 0) T.f_isinstance T.f_int) (pu_one (pu_not (pu_isi (pu_var 0) T.f_isinstance T.f_bool))))))⟩), F0.bindsN fun _ _ _ _ _ _ us hl => match us, hl with | [_], _ => rfl⟩, F0.kp⟩
theorem sc_is_from : FnScope ["value", "low", "high"] ["value", "low", "high"] (defScope s_is_from) := ⟨rfl, rfl, rfl, by decide +kernel, rfl, by decide +kernel, by decide +kernel⟩
def b_is_from : FS := (sRet (eAnd (eFn d_is_whole (aCons (eVar 0) aNil)) (eChain leP leP (eVar 1) (eVar 0) (eVar 2))))
def d_is_from : List P → Bx → Out P := mkDef 3 3 b_is_from
theorem ok_is_from (T : Tx K mg) (F : Fx K) : Gd Pr w K mg base (He.ga K "is_from") 2 d_is_from := by
  obtain ⟨fd, F0⟩ := F.d_is_from
  refine ⟨⟨fd, ["value", "low", "high"], fn_ok F0 sc_is_from (fun cdv A outer s H E hr => ⟨_, (ssu_one (su_ret (pu_and (pu_fn (takes_of rfl rfl rfl rfl) (ok_is_whole T F) (hr.mono (by decide)) T.g_is_whole (au_cons (pu_var 0) au_nil)) (pu_one (pu_chain op_le op_le g_cmpI g_cmpI (pu_var 1) (pu_var 0) (pu_var 2))))))⟩), F0.bindsN fun _ _ _ _ _ _ us hl => match us, hl with | [_, _, _], _ => rfl⟩, F0.kp⟩
theorem sc_is_row : FnScope ["value", "many", "low", "high", "item"] ["value", "many", "low", "high"] (defScope s_is_row) := ⟨rfl, rfl, rfl, by decide +kernel, rfl, by decide +kernel, by decide +kernel⟩
def b_is_row : FS := (sRet (eAnd (eIsi "tuple" (eVar 0)) (eAnd (eOp2 eqP (eCall lenP (aCons (eVar 0) aNil)) (eVar 1)) (eCall allP (aCons (eFrz (oComp (iAny (eVar 0)) (gNm 4) tYesF (eFn d_is_from (aCons (eVar 4) (aCons (eVar 2) (aCons (eVar 3) aNil)))) [4])) aNil)))))
def d_is_row : List P → Bx → Out P := mkDef 4 5 b_is_row
theorem ok_is_row (T : Tx K mg) (F : Fx K) : Gd Pr w K mg base (He.ga K "is_row") 3 d_is_row := by
  obtain ⟨fd, F0⟩ := F.d_is_row
  refine ⟨⟨fd, ["value", "many", "low", "high"], fn_ok F0 sc_is_row (fun cdv A outer s H E hr => ⟨_, (ssu_one (su_ret (pu_and (pu_isi (pu_var 0) T.f_isinstance T.f_tuple) (pu_and (pu_cmp (o_eq hr.units) g_eq (pu_callB o_len g_len T.f_len (au_cons (pu_var 0) au_nil)) (pu_var 1)) (pu_one (pu_callB (o_all rfl) g_all T.f_all (au_cons (pu_frz (ou_lc [("item", 4)] rfl sc_is_row.nd (iu_any (pu_var 0)) (fun _ _ _ _ _ => (gu_name 4 sc_is_row.nd)) (fun _ _ _ _ _ => tsu_nil) (fun _ _ _ _ _ => (pu_fn takes0 (ok_is_from T F) (hr.mono (by decide)) T.g_is_from (au_cons (pu_var 4) (au_cons (pu_var 2) (au_cons (pu_var 3) au_nil))))) )) au_nil)))))))⟩), F0.bindsN fun _ _ _ _ _ _ us hl => match us, hl with | [_, _, _, _], _ => rfl⟩, F0.kp⟩
theorem sc_rises : FnScope ["items", "k"] ["items"] (defScope s_rises) := ⟨rfl, rfl, rfl, by decide +kernel, rfl, by decide +kernel, by decide +kernel⟩
def b_rises : FS := (sRet (eCall allP (aCons (eFrz (oComp (iRg1 (eOp2 subP (eCall lenP (aCons (eVar 0) aNil)) (eC (.int 1)))) (gNm 1) tYesF (eOp2 ltP (eOp2 ixP (eVar 0) (eVar 1)) (eOp2 ixP (eVar 0) (eOp2 addP (eVar 1) (eC (.int 1))))) [1])) aNil)))
def d_rises : List P → Bx → Out P := mkDef 1 2 b_rises
theorem ok_rises (T : Tx K mg) (F : Fx K) : Gd Pr w K mg base (He.ga K "rises") 1 d_rises := by
  obtain ⟨fd, F0⟩ := F.d_rises
  refine ⟨⟨fd, ["items"], fn_ok F0 sc_rises (fun cdv A outer s H E hr => ⟨_, (ssu_one (su_ret (pu_callB (o_all rfl) g_all T.f_all (au_cons (pu_frz (ou_lc [("k", 1)] rfl sc_rises.nd (iu_range1 T.f_range (pu_bin op_sub g_sub (pu_callB o_len g_len T.f_len (au_cons (pu_var 0) au_nil)) pu_int)) (fun _ _ _ _ _ => (gu_name 1 sc_rises.nd)) (fun _ _ _ _ _ => tsu_nil) (fun _ _ _ _ _ => (pu_cmp (o_lt hr.units0) g_lt (pu_ix o_ix g_ix (pu_var 0) (pu_var 1)) (pu_ix o_ix g_ix (pu_var 0) (pu_bin o_add g_add (pu_var 1) pu_int)))) )) au_nil))))⟩), F0.bindsN fun _ _ _ _ _ _ us hl => match us, hl with | [_], _ => rfl⟩, F0.kp⟩
theorem sc_is_curve : FnScope ["value", "pair"] ["value"] (defScope s_is_curve) := ⟨rfl, rfl, rfl, by decide +kernel, rfl, by decide +kernel, by decide +kernel⟩
def b_is_curve : FS := (sSeq (sIf (tOrF (tNotF (tVal (eIsi "tuple" (eVar 0)))) (tOrF (tNotF (tVal (eChain leP leP (eC (.int 2)) (eCall lenP (aCons (eVar 0) aNil)) (eC (.int 8))))) (tNotF (tVal (eCall allP (aCons (eFrz (oComp (iAny (eVar 0)) (gNm 1) tYesF (eFn d_is_row (aCons (eVar 1) (aCons (eC (.int 2)) (aCons (eC (.int 0)) (aCons (eC (.int 100)) aNil))))) [1])) aNil)))))) (sRet (eC (.bl false))) sSkip) (sRet (eAnd (eOp2 eqP (eOp2 ixP (eOp2 ixP (eVar 0) (eC (.int 0))) (eC (.int 0))) (eC (.int 0))) (eAnd (eOp2 leP (eOp2 ixP (eOp2 ixP (eVar 0) (eOp1 negP (eC (.int 1)))) (eC (.int 0))) (eC c_STRONGEST)) (eFn d_rises (aCons (eFrz (oComp (iAny (eVar 0)) (gNm 1) tYesF (eOp2 ixP (eVar 1) (eC (.int 0))) [1])) aNil))))))
def d_is_curve : List P → Bx → Out P := mkDef 1 2 b_is_curve
theorem ok_is_curve (T : Tx K mg) (F : Fx K) : Gd Pr w K mg base (He.ga K "is_curve") 4 d_is_curve := by
  obtain ⟨u_STRONGEST, v_STRONGEST, m_STRONGEST, k_STRONGEST⟩ := T.c_STRONGEST
  obtain ⟨fd, F0⟩ := F.d_is_curve
  refine ⟨⟨fd, ["value"], fn_ok F0 sc_is_curve (fun cdv A outer s H E hr => ⟨_, (ssu_cons (su_if (tu_w (tw_or (tu_not (tu_val (pu_isi (pu_var 0) T.f_isinstance T.f_tuple))) (tw_or (tu_not (tu_chain op_le op_le g_cmpI g_cmpI pu_int (pu_callB o_len g_len T.f_len (au_cons (pu_var 0) au_nil)) pu_int)) (tw_or1 (tu_not (tu_val (pu_callB (o_all rfl) g_all T.f_all (au_cons (pu_frz (ou_lc [("pair", 1)] rfl sc_is_curve.nd (iu_any (pu_var 0)) (fun _ _ _ _ _ => (gu_name 1 sc_is_curve.nd)) (fun _ _ _ _ _ => tsu_nil) (fun _ _ _ _ _ => (pu_fn takes0 (ok_is_row T F) (hr.mono (by decide)) T.g_is_row (au_cons (pu_var 1) (au_cons pu_int (au_cons pu_int (au_cons pu_int au_nil)))))) )) au_nil)))))))) (ssu_one (su_ret pu_bl)) ssu_nil) (ssu_one (su_ret (pu_and (pu_cmp (o_eq hr.units) g_eq (pu_ix o_ix g_ix (pu_ix o_ix g_ix (pu_var 0) pu_int) pu_int) pu_int) (pu_and (pu_cmp op_le g_cmpI (pu_ix o_ix g_ix (pu_ix o_ix g_ix (pu_var 0) (pu_un un_neg g_neg pu_int)) pu_int) (pu_glob m_STRONGEST k_STRONGEST)) (pu_one (pu_fn (takes_of rfl rfl rfl rfl) (ok_rises T F) (hr.mono (by decide)) T.g_rises (au_cons (pu_frz (ou_lc [("pair", 1)] rfl sc_is_curve.nd (iu_any (pu_var 0)) (fun _ _ _ _ _ => (gu_name 1 sc_is_curve.nd)) (fun _ _ _ _ _ => tsu_nil) (fun _ _ _ _ _ => (pu_ix o_ix g_ix (pu_var 1) pu_int)) )) au_nil))))))))⟩), F0.bindsN fun _ _ _ _ _ _ us hl => match us, hl with | [_], _ => rfl⟩, F0.kp⟩
theorem sc_is_wake : FnScope ["many", "value"] ["many", "value"] (defScope s_is_wake) := ⟨rfl, rfl, rfl, by decide +kernel, rfl, by decide +kernel, by decide +kernel⟩
def b_is_wake : FS := (sSeq (sIf (tOrF (tNotF (tVal (eFn d_is_row (aCons (eVar 1) (aCons (eC (.int 4)) (aCons (eC (.int 0)) (aCons (eC (.int 100)) aNil))))))) (tOrF (tVal (eOp2 geP (eOp2 ixP (eVar 1) (eC (.int 0))) (eC c_DIRECTIONS))) (tVal (eOp2 eqP (eOp2 ixP (eVar 1) (eC (.int 3))) (eC (.int 0)))))) (sRet (eC (.bl false))) sSkip) (sRet (eAnd (eOp2 ltP (eOp2 ixP (eVar 1) (eC (.int 1))) (eVar 0)) (eAnd (eOp2 ltP (eOp2 ixP (eVar 1) (eC (.int 2))) (eVar 0)) (eOp2 neP (eOp2 ixP (eVar 1) (eC (.int 1))) (eOp2 ixP (eVar 1) (eC (.int 2))))))))
def d_is_wake : List P → Bx → Out P := mkDef 2 2 b_is_wake
theorem ok_is_wake (T : Tx K mg) (F : Fx K) : Gd Pr w K mg base (He.ga K "is_wake") 4 d_is_wake := by
  obtain ⟨u_DIRECTIONS, v_DIRECTIONS, m_DIRECTIONS, k_DIRECTIONS⟩ := T.c_DIRECTIONS
  obtain ⟨fd, F0⟩ := F.d_is_wake
  refine ⟨⟨fd, ["many", "value"], fn_ok F0 sc_is_wake (fun cdv A outer s H E hr => ⟨_, (ssu_cons (su_if (tu_w (tw_or (tu_not (tu_val (pu_fn (takes_of rfl rfl rfl rfl) (ok_is_row T F) (hr.mono (by decide)) T.g_is_row (au_cons (pu_var 1) (au_cons pu_int (au_cons pu_int (au_cons pu_int au_nil))))))) (tw_or (tu_cmp op_ge g_cmpI (pu_ix o_ix g_ix (pu_var 1) pu_int) (pu_glob m_DIRECTIONS k_DIRECTIONS)) (tw_or1 (tu_cmp (o_eq hr.units) g_eq (pu_ix o_ix g_ix (pu_var 1) pu_int) pu_int))))) (ssu_one (su_ret pu_bl)) ssu_nil) (ssu_one (su_ret (pu_and (pu_cmp (o_lt hr.units0) g_lt (pu_ix o_ix g_ix (pu_var 1) pu_int) (pu_var 0)) (pu_and (pu_cmp (o_lt hr.units0) g_lt (pu_ix o_ix g_ix (pu_var 1) pu_int) (pu_var 0)) (pu_one (pu_cmp (o_ne hr.units) g_ne (pu_ix o_ix g_ix (pu_var 1) pu_int) (pu_ix o_ix g_ix (pu_var 1) pu_int))))))))⟩), F0.bindsN fun _ _ _ _ _ _ us hl => match us, hl with | [_, _], _ => rfl⟩, F0.kp⟩
theorem sc_is_farm : FnScope ["value", "curves", "machines", "wakes", "number", "wake", "part", "curve"] ["value"] (defScope s_is_farm) := ⟨rfl, rfl, rfl, by decide +kernel, rfl, by decide +kernel, by decide +kernel⟩
def b_is_farm : FS := (sSeq (sIf (tOrF (tNotF (tVal (eIsi "tuple" (eVar 0)))) (tOrF (tVal (eOp2 neP (eCall lenP (aCons (eVar 0) aNil)) (eC (.int 3)))) (tNotF (tVal (eCall allP (aCons (eFrz (oComp (iAny (eVar 0)) (gNm 6) tYesF (eIsi "tuple" (eVar 6)) [6])) aNil)))))) (sRet (eC (.bl false))) sSkip) (sSeq (sAsg (gTp [(gNm 1), (gNm 2), (gNm 3)]) (eVar 0)) (sSeq (sIf (tOrF (tNotF (tVal (eChain leP leP (eC (.int 1)) (eCall lenP (aCons (eVar 1) aNil)) (eC (.int 3))))) (tOrF (tNotF (tVal (eCall allP (aCons (eFrz (oComp (iAny (eVar 1)) (gNm 7) tYesF (eFn d_is_curve (aCons (eVar 7) aNil)) [7])) aNil)))) (tNotF (tVal (eChain leP leP (eC (.int 1)) (eCall lenP (aCons (eVar 2) aNil)) (eC (.int 4))))))) (sRet (eC (.bl false))) sSkip) (sSeq (sIf (tNotF (tVal (eCall allP (aCons (eFrz (oComp (iAny (eVar 2)) (gNm 4) tYesF (eFn d_is_from (aCons (eVar 4) (aCons (eC (.int 0)) (aCons (eOp2 subP (eCall lenP (aCons (eVar 1) aNil)) (eC (.int 1))) aNil)))) [4])) aNil)))) (sRet (eC (.bl false))) sSkip) (sRet (eAnd (eCall allP (aCons (eFrz (oComp (iAny (eVar 3)) (gNm 5) tYesF (eFn d_is_wake (aCons (eCall lenP (aCons (eVar 2) aNil)) (aCons (eVar 5) aNil))) [5])) aNil)) (eFn d_rises (aCons (eFrz (oComp (iAny (eVar 3)) (gNm 5) tYesF (eSl (eVar 5) qNone (qSome (eC (.int 3)))) [5])) aNil))))))))
def d_is_farm : List P → Bx → Out P := mkDef 1 8 b_is_farm
theorem ok_is_farm (T : Tx K mg) (F : Fx K) : Gd Pr w K mg base (He.ga K "is_farm") 5 d_is_farm := by
  obtain ⟨fd, F0⟩ := F.d_is_farm
  refine ⟨⟨fd, ["value"], fn_ok F0 sc_is_farm (fun cdv A outer s H E hr => ⟨_, (ssu_cons (su_if (tu_w (tw_or (tu_not (tu_val (pu_isi (pu_var 0) T.f_isinstance T.f_tuple))) (tw_or (tu_cmp (o_ne hr.units) g_ne (pu_callB o_len g_len T.f_len (au_cons (pu_var 0) au_nil)) pu_int) (tw_or1 (tu_not (tu_val (pu_callB (o_all rfl) g_all T.f_all (au_cons (pu_frz (ou_lc [("part", 6)] rfl sc_is_farm.nd (iu_any (pu_var 0)) (fun _ _ _ _ _ => (gu_name 6 sc_is_farm.nd)) (fun _ _ _ _ _ => tsu_nil) (fun _ _ _ _ _ => (pu_isi (pu_var 6) T.f_isinstance T.f_tuple)) )) au_nil)))))))) (ssu_one (su_ret pu_bl)) ssu_nil) (ssu_cons (su_asg (gu_tup (n := 3) rfl (gsu_cons (gu_name 1 sc_is_farm.nd) (gsu_cons (gu_name 2 sc_is_farm.nd) (gsu_cons (gu_name 3 sc_is_farm.nd) gsu_nil)))) (pu_var 0)) (ssu_cons (su_if (tu_w (tw_or (tu_not (tu_chain op_le op_le g_cmpI g_cmpI pu_int (pu_callB o_len g_len T.f_len (au_cons (pu_var 1) au_nil)) pu_int)) (tw_or (tu_not (tu_val (pu_callB (o_all rfl) g_all T.f_all (au_cons (pu_frz (ou_lc [("curve", 7)] rfl sc_is_farm.nd (iu_any (pu_var 1)) (fun _ _ _ _ _ => (gu_name 7 sc_is_farm.nd)) (fun _ _ _ _ _ => tsu_nil) (fun _ _ _ _ _ => (pu_fn takes0 (ok_is_curve T F) (hr.mono (by decide)) T.g_is_curve (au_cons (pu_var 7) au_nil))) )) au_nil)))) (tw_or1 (tu_not (tu_chain op_le op_le g_cmpI g_cmpI pu_int (pu_callB o_len g_len T.f_len (au_cons (pu_var 2) au_nil)) pu_int)))))) (ssu_one (su_ret pu_bl)) ssu_nil) (ssu_cons (su_if (tu_not (tu_val (pu_callB (o_all rfl) g_all T.f_all (au_cons (pu_frz (ou_lc [("number", 4)] rfl sc_is_farm.nd (iu_any (pu_var 2)) (fun _ _ _ _ _ => (gu_name 4 sc_is_farm.nd)) (fun _ _ _ _ _ => tsu_nil) (fun _ _ _ _ _ => (pu_fn takes0 (ok_is_from T F) (hr.mono (by decide)) T.g_is_from (au_cons (pu_var 4) (au_cons pu_int (au_cons (pu_bin op_sub g_sub (pu_callB o_len g_len T.f_len (au_cons (pu_var 1) au_nil)) pu_int) au_nil))))) )) au_nil)))) (ssu_one (su_ret pu_bl)) ssu_nil) (ssu_one (su_ret (pu_and (pu_callB (o_all rfl) g_all T.f_all (au_cons (pu_frz (ou_lc [("wake", 5)] rfl sc_is_farm.nd (iu_any (pu_var 3)) (fun _ _ _ _ _ => (gu_name 5 sc_is_farm.nd)) (fun _ _ _ _ _ => tsu_nil) (fun _ _ _ _ _ => (pu_fn takes0 (ok_is_wake T F) (hr.mono (by decide)) T.g_is_wake (au_cons (pu_callB o_len g_len T.f_len (au_cons (pu_var 2) au_nil)) (au_cons (pu_var 5) au_nil)))) )) au_nil)) (pu_one (pu_fn (takes_of rfl rfl rfl rfl) (ok_rises T F) (hr.mono (by decide)) T.g_rises (au_cons (pu_frz (ou_lc [("wake", 5)] rfl sc_is_farm.nd (iu_any (pu_var 3)) (fun _ _ _ _ _ => (gu_name 5 sc_is_farm.nd)) (fun _ _ _ _ _ => tsu_nil) (fun _ _ _ _ _ => (pu_sl (pu_var 5) qu_none (qu_some pu_int))) )) au_nil))))))))))⟩), F0.bindsN fun _ _ _ _ _ _ us hl => match us, hl with | [_], _ => rfl⟩, F0.kp⟩
theorem sc_FarmReader_farm : FnScope ["self", "curves"] ["self"] (defScope s_FarmReader_farm) := ⟨rfl, rfl, rfl, by decide +kernel, rfl, by decide +kernel, by decide +kernel⟩
def b_FarmReader_farm : FS := (sSeq (sSet 1 (eIf (tVal (eOp2 gtP (eCall lenP (aCons (eFld "FarmReader" "curves" (eVar 0)) aNil)) (eC (.int 0)))) (eFld "FarmReader" "curves" (eVar 0)) (eTup (aCons (eC c_LOW) aNil)))) (sRet (eTup (aCons (eVar 1) (aCons (eIf (tVal (eOp2 gtP (eCall lenP (aCons (eFld "FarmReader" "machines" (eVar 0)) aNil)) (eC (.int 0)))) (eFld "FarmReader" "machines" (eVar 0)) (eTup (aCons (eC (.int 0)) aNil))) (aCons (eFld "FarmReader" "wakes" (eVar 0)) aNil))))))
def d_FarmReader_farm : List P → Bx → Out P := mkDef 1 2 b_FarmReader_farm
theorem ok_FarmReader_farm (T : Tx K mg) (F : Fx K) : Gd Pr w K mg base (He.ma K (He.ga K "FarmReader") "farm") 1 d_FarmReader_farm := by
  obtain ⟨u_LOW, v_LOW, m_LOW, k_LOW⟩ := T.c_LOW
  obtain ⟨fd, F0⟩ := F.d_FarmReader_farm
  refine ⟨⟨fd, ["self"], fn_ok F0 sc_FarmReader_farm (fun cdv A outer s H E hr => ⟨_, (ssu_cons (su_set 1 sc_FarmReader_farm.nd (pu_if (tu_cmp op_gt g_cmpI (pu_callB o_len g_len T.f_len (au_cons (pu_fld T.k_FarmReader T.n_FarmReader_curves (pu_var 0)) au_nil)) pu_int) (pu_fld T.k_FarmReader T.n_FarmReader_curves (pu_var 0)) (pu_tup (au_cons (pu_glob m_LOW k_LOW) au_nil)))) (ssu_one (su_ret (pu_tup (au_cons (pu_var 1) (au_cons (pu_if (tu_cmp op_gt g_cmpI (pu_callB o_len g_len T.f_len (au_cons (pu_fld T.k_FarmReader T.n_FarmReader_machines (pu_var 0)) au_nil)) pu_int) (pu_fld T.k_FarmReader T.n_FarmReader_machines (pu_var 0)) (pu_tup (au_cons pu_int au_nil))) (au_cons (pu_fld T.k_FarmReader T.n_FarmReader_wakes (pu_var 0)) au_nil)))))))⟩), F0.bindsN fun _ _ _ _ _ _ us hl => match us, hl with | [_], _ => rfl⟩, F0.kp⟩
theorem sc_FarmReader_take : FnScope ["self", "line", "items", "has_machines", "item"] ["self", "line"] (defScope s_FarmReader_take) := ⟨rfl, rfl, rfl, by decide +kernel, rfl, by decide +kernel, by decide +kernel⟩
def b_FarmReader_take : FS := (sSeq (sSet 2 (eMet1 splitP (eVar 1) (eC (.str " ")))) (sSeq (sSet 3 (eOp2 gtP (eCall lenP (aCons (eFld "FarmReader" "machines" (eVar 0)) aNil)) (eC (.int 0)))) (sSeq (sIf (tAndF (tVal (eOp2 eqP (eOp2 ixP (eVar 2) (eC (.int 0))) (eC (.str "curve")))) (tNotF (tVal (eVar 3)))) (sFldSet "FarmReader" "curves" (eOp2 addP (eFld "FarmReader" "curves" (eVar 0)) (eTup (aCons (eCall tupleP (aCons (eFrz (oComp (iAny (eSl (eVar 2) (qSome (eC (.int 1))) qNone)) (gNm 4) tYesF (eFn d_read_point (aCons (eVar 4) aNil)) [4])) aNil)) aNil))) (eVar 0)) (sIf (tAndF (tVal (eOp2 eqP (eOp2 ixP (eVar 2) (eC (.int 0))) (eC (.str "machines")))) (tAndF (tNotF (tVal (eVar 3))) (tAndF (tVal (eOp2 gtP (eCall lenP (aCons (eFld "FarmReader" "curves" (eVar 0)) aNil)) (eC (.int 0)))) (tVal (eOp2 gtP (eCall lenP (aCons (eVar 2) aNil)) (eC (.int 1))))))) (sFldSet "FarmReader" "machines" (eCall tupleP (aCons (eFrz (oComp (iAny (eSl (eVar 2) (qSome (eC (.int 1))) qNone)) (gNm 4) tYesF (eFn d_read_number (aCons (eVar 4) aNil)) [4])) aNil)) (eVar 0)) (sIf (tAndF (tVal (eOp2 eqP (eOp2 ixP (eVar 2) (eC (.int 0))) (eC (.str "wake")))) (tVal (eVar 3))) (sFldSet "FarmReader" "wakes" (eOp2 addP (eFld "FarmReader" "wakes" (eVar 0)) (eTup (aCons (eCall tupleP (aCons (eFrz (oComp (iAny (eSl (eVar 2) (qSome (eC (.int 1))) qNone)) (gNm 4) tYesF (eFn d_read_number (aCons (eVar 4) aNil)) [4])) aNil)) aNil))) (eVar 0)) sNever))) (sIf (tNotF (tVal (eFn d_is_farm (aCons (eMethC "FarmReader" "farm" d_FarmReader_farm (eVar 0) aNil) aNil)))) sNever sSkip))))
def d_FarmReader_take : List P → Bx → Out P := mkDef 2 5 b_FarmReader_take
theorem ok_FarmReader_take (T : Tx K mg) (F : Fx K) : Gd Pr w K mg base (He.ma K (He.ga K "FarmReader") "take") 6 d_FarmReader_take := by
  obtain ⟨fd, F0⟩ := F.d_FarmReader_take
  refine ⟨⟨fd, ["self", "line"], fn_ok F0 sc_FarmReader_take (fun cdv A outer s H E hr => ⟨_, (ssu_cons (su_set 2 sc_FarmReader_take.nd (pu_split (pu_var 1) pu_str)) (ssu_cons (su_set 3 sc_FarmReader_take.nd (pu_cmp op_gt g_cmpI (pu_callB o_len g_len T.f_len (au_cons (pu_fld T.k_FarmReader T.n_FarmReader_machines (pu_var 0)) au_nil)) pu_int)) (ssu_cons (su_if (tu_w (tw_and (tu_cmp (o_eq hr.units) g_eq (pu_ix o_ix g_ix (pu_var 2) pu_int) pu_str) (tw_and1 (tu_not (tu_val (pu_var 3)))))) (ssu_one (su_fldSet T.k_FarmReader T.n_FarmReader_curves (pu_var 0) (pu_bin o_add g_add (pu_fld T.k_FarmReader T.n_FarmReader_curves (pu_var 0)) (pu_tup (au_cons (pu_callT o_tuple g_tuple T.f_tuple (au_cons (pu_frz (ou_lc [("item", 4)] rfl sc_FarmReader_take.nd (iu_any (pu_sl (pu_var 2) (qu_some pu_int) qu_none)) (fun _ _ _ _ _ => (gu_name 4 sc_FarmReader_take.nd)) (fun _ _ _ _ _ => tsu_nil) (fun _ _ _ _ _ => (pu_fn takes0 (ok_read_point T F) (hr.mono (by decide)) T.g_read_point (au_cons (pu_var 4) au_nil))) )) au_nil)) au_nil))))) (ssu_one (su_if (tu_w (tw_and (tu_cmp (o_eq hr.units) g_eq (pu_ix o_ix g_ix (pu_var 2) pu_int) pu_str) (tw_and (tu_not (tu_val (pu_var 3))) (tw_and (tu_cmp op_gt g_cmpI (pu_callB o_len g_len T.f_len (au_cons (pu_fld T.k_FarmReader T.n_FarmReader_curves (pu_var 0)) au_nil)) pu_int) (tw_and1 (tu_cmp op_gt g_cmpI (pu_callB o_len g_len T.f_len (au_cons (pu_var 2) au_nil)) pu_int)))))) (ssu_one (su_fldSet T.k_FarmReader T.n_FarmReader_machines (pu_var 0) (pu_callT o_tuple g_tuple T.f_tuple (au_cons (pu_frz (ou_lc [("item", 4)] rfl sc_FarmReader_take.nd (iu_any (pu_sl (pu_var 2) (qu_some pu_int) qu_none)) (fun _ _ _ _ _ => (gu_name 4 sc_FarmReader_take.nd)) (fun _ _ _ _ _ => tsu_nil) (fun _ _ _ _ _ => (pu_fn takes0 (ok_read_number T F) (hr.mono (by decide)) T.g_read_number (au_cons (pu_var 4) au_nil))) )) au_nil)))) (ssu_one (su_if (tu_w (tw_and (tu_cmp (o_eq hr.units) g_eq (pu_ix o_ix g_ix (pu_var 2) pu_int) pu_str) (tw_and1 (tu_val (pu_var 3))))) (ssu_one (su_fldSet T.k_FarmReader T.n_FarmReader_wakes (pu_var 0) (pu_bin o_add g_add (pu_fld T.k_FarmReader T.n_FarmReader_wakes (pu_var 0)) (pu_tup (au_cons (pu_callT o_tuple g_tuple T.f_tuple (au_cons (pu_frz (ou_lc [("item", 4)] rfl sc_FarmReader_take.nd (iu_any (pu_sl (pu_var 2) (qu_some pu_int) qu_none)) (fun _ _ _ _ _ => (gu_name 4 sc_FarmReader_take.nd)) (fun _ _ _ _ _ => tsu_nil) (fun _ _ _ _ _ => (pu_fn takes0 (ok_read_number T F) (hr.mono (by decide)) T.g_read_number (au_cons (pu_var 4) au_nil))) )) au_nil)) au_nil))))) (ssu_one su_never)))))) (ssu_one (su_if (tu_not (tu_val (pu_fn (takes_of rfl rfl rfl rfl) (ok_is_farm T F) (hr.mono (by decide)) T.g_is_farm (au_cons (pu_mt0 (takes_of rfl rfl rfl rfl) T.k_FarmReader T.m_FarmReader_farm (ok_FarmReader_farm T F) (hr.mono (by decide)) (pu_var 0)) au_nil)))) (ssu_one su_never) ssu_nil)))))⟩), F0.bindsN fun _ _ _ _ _ _ us hl => match us, hl with | [_, _], _ => rfl⟩, F0.kp⟩
theorem sc_read_farm : FnScope ["text", "reader", "lines", "line"] ["text"] (defScope s_read_farm) := ⟨rfl, rfl, rfl, by decide +kernel, rfl, by decide +kernel, by decide +kernel⟩
def b_read_farm : FS := (sSeq (sSet 1 (eMake0 "FarmReader" d_FarmReader_init__)) (sSeq (sSet 2 (eMet1 splitP (eVar 0) (eC (.str "\n")))) (sSeq (sFor (iRg1 (eCall lenP (aCons (eVar 2) aNil))) (gNm 3) (sTryNo (sExpr (eMethC "FarmReader" "take" d_FarmReader_take (eVar 1) (aCons (eOp2 ixP (eVar 2) (eVar 3)) aNil))))) (sSeq (sIf (tVal (eOp2 eqP (eCall lenP (aCons (eFld "FarmReader" "machines" (eVar 1)) aNil)) (eC (.int 0)))) sNever sSkip) (sRet (eMethC "FarmReader" "farm" d_FarmReader_farm (eVar 1) aNil))))))
def d_read_farm : List P → Bx → Out P := mkDef 1 4 b_read_farm
theorem ok_read_farm (T : Tx K mg) (F : Fx K) : Gd Pr w K mg base (He.ga K "read_farm") 7 d_read_farm := by
  obtain ⟨fd, F0⟩ := F.d_read_farm
  refine ⟨⟨fd, ["text"], fn_ok F0 sc_read_farm (fun cdv A outer s H E hr => ⟨_, (ssu_cons (su_set 1 sc_read_farm.nd (pu_mk0 T.mk_FarmReader (ok_FarmReader_init__ T F) (hr.mono (by decide)) T.k_FarmReader)) (ssu_cons (su_set 2 sc_read_farm.nd (pu_split (pu_var 0) pu_str)) (ssu_cons (su_for (passes_of rfl) rfl (iu_range1 T.f_range (pu_callB o_len g_len T.f_len (au_cons (pu_var 2) au_nil))) (gu_name 3 sc_read_farm.nd) (ssu_one (su_tryNo (ssu_one (su_expr (pu_mt takes0 T.k_FarmReader T.m_FarmReader_take (ok_FarmReader_take T F) (hr.mono (by decide)) (pu_var 1) (au_cons (pu_ix o_ix g_ix (pu_var 2) (pu_var 3)) au_nil))))))) (ssu_cons (su_if (tu_cmp (o_eq hr.units) g_eq (pu_callB o_len g_len T.f_len (au_cons (pu_fld T.k_FarmReader T.n_FarmReader_machines (pu_var 1)) au_nil)) pu_int) (ssu_one su_never) ssu_nil) (ssu_one (su_ret (pu_mt0 (takes_of rfl rfl rfl rfl) T.k_FarmReader T.m_FarmReader_farm (ok_FarmReader_farm T F) (hr.mono (by decide)) (pu_var 1))))))))⟩), F0.bindsN fun _ _ _ _ _ _ us hl => match us, hl with | [_], _ => rfl⟩, F0.kp⟩
theorem sc_law : FnScope ["script", "pool", "turn", "farm", "text"] ["script"] (defScope s_law) := ⟨rfl, rfl, rfl, by decide +kernel, rfl, by decide +kernel, by decide +kernel⟩
def b_law : FS := (sSeq (sSet 1 (eFn d_law_pool (aCons (eVar 0) aNil))) (sSeq (sFor (iRg1 (eC (.int 3))) (gNm 2) (sSeq (sSet 3 (eFn d_law_farm (aCons (eVar 1) (aCons (eC (.int 4)) (aCons (eC (.int 100)) aNil))))) (sSeq (sSet 4 (eMet1 joinP (eC (.str "\n")) (eFn d_law_farm_text (aCons (eVar 3) aNil)))) (sIf (tNotF (tVal (eFn (d_law_same 8) (aCons (eFrz (oLst (aCons (eFn d_write_farm (aCons (eVar 3) aNil)) (aCons (eFn d_read_farm (aCons (eVar 4) aNil)) aNil)))) (aCons (eFrz (oLst (aCons (eVar 4) (aCons (eVar 3) aNil)))) aNil))))) (sRet (eC (.bl false))) sSkip)))) (sRet (eC (.bl true)))))
def d_law : List P → Bx → Out P := mkDef 1 5 b_law
theorem fn_law (T : Tx K mg) (F : Fx K) (fd : FuncData) (F0 : FunD K "law" "law" (defArgs s_law) (defBody s_law) (defScope s_law) [] [] (He.ga K "law") fd) : FnOk Pr w K mg base (L2.CX Pr w) 9 (He.ga K "law") fd ["script"] (spP K mg d_law) := by
  exact fn_ok F0 sc_law (fun cdv A outer s H E hr => ⟨_, (ssu_cons (su_set 1 sc_law.nd (pu_fn (takes_of rfl rfl rfl rfl) (ok_law_pool T F) (hr.mono (by decide)) T.g_law_pool (au_cons (pu_var 0) au_nil))) (ssu_cons (su_for (passes_of rfl) rfl (iu_range1 T.f_range pu_int) (gu_name 2 sc_law.nd) (ssu_cons (su_set 3 sc_law.nd (pu_fn (takes_of rfl rfl rfl rfl) (ok_law_farm T F) (hr.mono (by decide)) T.g_law_farm (au_cons (pu_var 1) (au_cons pu_int (au_cons pu_int au_nil))))) (ssu_cons (su_set 4 sc_law.nd (pu_join pu_str (pu_fn (takes_of rfl rfl rfl rfl) (ok_law_farm_text T F) (hr.mono (by decide)) T.g_law_farm_text (au_cons (pu_var 3) au_nil)))) (ssu_one (su_if (tu_not (tu_val (pu_fn (takes_of rfl rfl rfl rfl) (ok_law_same T F 8) (hr.mono (by decide)) T.g_law_same (au_cons (pu_frz (ou_lst (au_cons (pu_fn (takes_of rfl rfl rfl rfl) (ok_write_farm T F) (hr.mono (by decide)) T.g_write_farm (au_cons (pu_var 3) au_nil)) (au_cons (pu_fn (takes_of rfl rfl rfl rfl) (ok_read_farm T F) (hr.mono (by decide)) T.g_read_farm (au_cons (pu_var 4) au_nil)) au_nil)))) (au_cons (pu_frz (ou_lst (au_cons (pu_var 4) (au_cons (pu_var 3) au_nil)))) au_nil))))) (ssu_one (su_ret pu_bl)) ssu_nil))))) (ssu_one (su_ret pu_bl))))⟩)
end
def fa : List He.Fa := [.free "all", .free "bool", .free "int", .free "isinstance", .free "len", .free "list", .free "range", .free "set", .free "sorted", .free "str", .free "tuple", .glo "_law_pool", .glo "_law_spread", .glo "_law_draw", .glo "_law_curve", .glo "_law_farm", .glo "_law_farm_text", .glo "_law_same", .glo "write_farm", .glo "read_number", .glo "read_point", .glo "is_whole", .glo "is_from", .glo "is_row", .glo "rises", .glo "is_curve", .glo "is_wake", .glo "is_farm", .glo "read_farm", .glo "law", .glo "FarmReader", .cls "FarmReader", .noat "FarmReader" "curves", .noat "FarmReader" "machines", .noat "FarmReader" "wakes", .meth "FarmReader" "farm", .meth "FarmReader" "take", .mkr "FarmReader"]
def fn : List He.DefD := [⟨("_law_pool", none), "_law_pool", "_law_pool", defArgs s_law_pool, defBody s_law_pool, defScope s_law_pool, [], []⟩, ⟨("_law_spread", none), "_law_spread", "_law_spread", defArgs s_law_spread, defBody s_law_spread, defScope s_law_spread, [], []⟩, ⟨("_law_draw", none), "_law_draw", "_law_draw", defArgs s_law_draw, defBody s_law_draw, defScope s_law_draw, [], []⟩, ⟨("_law_curve", none), "_law_curve", "_law_curve", defArgs s_law_curve, defBody s_law_curve, defScope s_law_curve, [], []⟩, ⟨("_law_farm", none), "_law_farm", "_law_farm", defArgs s_law_farm, defBody s_law_farm, defScope s_law_farm, [], []⟩, ⟨("_law_farm_text", none), "_law_farm_text", "_law_farm_text", defArgs s_law_farm_text, defBody s_law_farm_text, defScope s_law_farm_text, [], []⟩, ⟨("_law_same", none), "_law_same", "_law_same", defArgs s_law_same, defBody s_law_same, defScope s_law_same, [], []⟩, ⟨("write_farm", none), "write_farm", "write_farm", defArgs s_write_farm, defBody s_write_farm, defScope s_write_farm, [], []⟩, ⟨("FarmReader", some "__init__"), "__init__", "FarmReader.__init__", defArgs s_FarmReader_init__, defBody s_FarmReader_init__, defScope s_FarmReader_init__, [], []⟩, ⟨("read_number", none), "read_number", "read_number", defArgs s_read_number, defBody s_read_number, defScope s_read_number, [], []⟩, ⟨("read_point", none), "read_point", "read_point", defArgs s_read_point, defBody s_read_point, defScope s_read_point, [], []⟩, ⟨("is_whole", none), "is_whole", "is_whole", defArgs s_is_whole, defBody s_is_whole, defScope s_is_whole, [], []⟩, ⟨("is_from", none), "is_from", "is_from", defArgs s_is_from, defBody s_is_from, defScope s_is_from, [], []⟩, ⟨("is_row", none), "is_row", "is_row", defArgs s_is_row, defBody s_is_row, defScope s_is_row, [], []⟩, ⟨("rises", none), "rises", "rises", defArgs s_rises, defBody s_rises, defScope s_rises, [], []⟩, ⟨("is_curve", none), "is_curve", "is_curve", defArgs s_is_curve, defBody s_is_curve, defScope s_is_curve, [], []⟩, ⟨("is_wake", none), "is_wake", "is_wake", defArgs s_is_wake, defBody s_is_wake, defScope s_is_wake, [], []⟩, ⟨("is_farm", none), "is_farm", "is_farm", defArgs s_is_farm, defBody s_is_farm, defScope s_is_farm, [], []⟩, ⟨("FarmReader", some "farm"), "farm", "FarmReader.farm", defArgs s_FarmReader_farm, defBody s_FarmReader_farm, defScope s_FarmReader_farm, [], []⟩, ⟨("FarmReader", some "take"), "take", "FarmReader.take", defArgs s_FarmReader_take, defBody s_FarmReader_take, defScope s_FarmReader_take, [], []⟩, ⟨("read_farm", none), "read_farm", "read_farm", defArgs s_read_farm, defBody s_read_farm, defScope s_read_farm, [], []⟩, ⟨("law", none), "law", "law", defArgs s_law, defBody s_law, defScope s_law, [], []⟩]
def cl : List (Str × P) := [("DIGITS", c_DIGITS), ("DIRECTIONS", c_DIRECTIONS), ("LOW", c_LOW), ("STRONGEST", c_STRONGEST)]
theorem tx_of {K : Frag} {mg : Mg} {h : Heap} (c : He.SaysD fa fn K) (e : cstsB cl K = true) (X : K.In h) (G : h.Ns mainGlobals mg) : Tx K mg where
  f_all := He.free_ok X G (c.fact 0 (f := .free "all") rfl)
  f_bool := He.free_ok X G (c.fact 1 (f := .free "bool") rfl)
  f_int := He.free_ok X G (c.fact 2 (f := .free "int") rfl)
  f_isinstance := He.free_ok X G (c.fact 3 (f := .free "isinstance") rfl)
  f_len := He.free_ok X G (c.fact 4 (f := .free "len") rfl)
  f_list := He.free_ok X G (c.fact 5 (f := .free "list") rfl)
  f_range := He.free_ok X G (c.fact 6 (f := .free "range") rfl)
  f_set := He.free_ok X G (c.fact 7 (f := .free "set") rfl)
  f_sorted := He.free_ok X G (c.fact 8 (f := .free "sorted") rfl)
  f_str := He.free_ok X G (c.fact 9 (f := .free "str") rfl)
  f_tuple := He.free_ok X G (c.fact 10 (f := .free "tuple") rfl)
  g_law_pool := He.glo_ok X G (c.fact 11 (f := .glo "_law_pool") rfl)
  g_law_spread := He.glo_ok X G (c.fact 12 (f := .glo "_law_spread") rfl)
  g_law_draw := He.glo_ok X G (c.fact 13 (f := .glo "_law_draw") rfl)
  g_law_curve := He.glo_ok X G (c.fact 14 (f := .glo "_law_curve") rfl)
  g_law_farm := He.glo_ok X G (c.fact 15 (f := .glo "_law_farm") rfl)
  g_law_farm_text := He.glo_ok X G (c.fact 16 (f := .glo "_law_farm_text") rfl)
  g_law_same := He.glo_ok X G (c.fact 17 (f := .glo "_law_same") rfl)
  g_write_farm := He.glo_ok X G (c.fact 18 (f := .glo "write_farm") rfl)
  g_read_number := He.glo_ok X G (c.fact 19 (f := .glo "read_number") rfl)
  g_read_point := He.glo_ok X G (c.fact 20 (f := .glo "read_point") rfl)
  g_is_whole := He.glo_ok X G (c.fact 21 (f := .glo "is_whole") rfl)
  g_is_from := He.glo_ok X G (c.fact 22 (f := .glo "is_from") rfl)
  g_is_row := He.glo_ok X G (c.fact 23 (f := .glo "is_row") rfl)
  g_rises := He.glo_ok X G (c.fact 24 (f := .glo "rises") rfl)
  g_is_curve := He.glo_ok X G (c.fact 25 (f := .glo "is_curve") rfl)
  g_is_wake := He.glo_ok X G (c.fact 26 (f := .glo "is_wake") rfl)
  g_is_farm := He.glo_ok X G (c.fact 27 (f := .glo "is_farm") rfl)
  g_read_farm := He.glo_ok X G (c.fact 28 (f := .glo "read_farm") rfl)
  g_law := He.glo_ok X G (c.fact 29 (f := .glo "law") rfl)
  kg_FarmReader := He.glo_ok X G (c.fact 30 (f := .glo "FarmReader") rfl)
  kc_FarmReader := He.cls_ok (c.fact 31 (f := .cls "FarmReader") rfl)
  n_FarmReader_curves := He.noat_ok (c.fact 32 (f := .noat "FarmReader" "curves") rfl)
  n_FarmReader_machines := He.noat_ok (c.fact 33 (f := .noat "FarmReader" "machines") rfl)
  n_FarmReader_wakes := He.noat_ok (c.fact 34 (f := .noat "FarmReader" "wakes") rfl)
  m_FarmReader_farm := He.meth_ok (c.fact 35 (f := .meth "FarmReader" "farm") rfl)
  m_FarmReader_take := He.meth_ok (c.fact 36 (f := .meth "FarmReader" "take") rfl)
  mk_FarmReader := He.mkr_ok (c.fact 37 (f := .mkr "FarmReader") rfl)
  c_DIGITS := csts_ok e X G 0 rfl
  c_DIRECTIONS := csts_ok e X G 1 rfl
  c_LOW := csts_ok e X G 2 rfl
  c_STRONGEST := csts_ok e X G 3 rfl
theorem fx_of {K : Frag} (c : He.SaysD fa fn K) : Fx K where
  d_law_pool := c.def_ 0 rfl
  d_law_spread := c.def_ 1 rfl
  d_law_draw := c.def_ 2 rfl
  d_law_curve := c.def_ 3 rfl
  d_law_farm := c.def_ 4 rfl
  d_law_farm_text := c.def_ 5 rfl
  d_law_same := c.def_ 6 rfl
  d_write_farm := c.def_ 7 rfl
  d_FarmReader_init__ := c.def_ 8 rfl
  d_read_number := c.def_ 9 rfl
  d_read_point := c.def_ 10 rfl
  d_is_whole := c.def_ 11 rfl
  d_is_from := c.def_ 12 rfl
  d_is_row := c.def_ 13 rfl
  d_rises := c.def_ 14 rfl
  d_is_curve := c.def_ 15 rfl
  d_is_wake := c.def_ 16 rfl
  d_is_farm := c.def_ 17 rfl
  d_FarmReader_farm := c.def_ 18 rfl
  d_FarmReader_take := c.def_ 19 rfl
  d_read_farm := c.def_ 20 rfl
  d_law := c.def_ 21 rfl
def loose0 : List Str := ["WeatherError", "BadLine", "BadText", "DIGITS", "is_whole", "is_from", "rises", "is_row", "read_number", "STRONGEST", "is_curve", "DIRECTIONS", "is_wake", "is_farm", "LOW", "write_farm", "read_point", "FarmReader", "read_farm", "_law_same", "_law_pool", "_law_spread", "_law_draw", "_law_curve", "_law_farm", "_law_farm_text"]
abbrev loose : List Str := loose0
abbrev R : PySem.W.OpenRow := PySem.W.OpenLaw.row PySem.Challenge.rw_everyweather_k60_texts_of_farms
abbrev hk : PySem.W.Hook := He.hookX 5 fa fn [] [] (cstsB cl)
def ob (s : PySem.W.SharedT) : He.AlX := He.obsX 5 fa fn [] [] (cstsB cl) (HandSHeadRun.getT s)
theorem ob_eq (s : PySem.W.SharedT) : ob s = hk.obs s.abs := He.obsX_eq (HandSHeadRun.getT_eq s)
set_option maxHeartbeats 0 in
theorem run (w : World) : HandSHeadRun.RunEq R (PySem.W.view R.prog [32]) hk ob 6000 loose w := by
  intro os
  kernel_rfl
end LW

namespace LW
open PySem L2 PV TL
/-! ### the pool of drawn numbers -/
def spreadZ (c : Int) : Int :=
  let m0 := c % 2147483647
  let m1 := (m0 * 48271 + 12345 + 0) % 2147483647
  let m2 := (m1 * 48271 + 12345 + 1) % 2147483647
  let m3 := (m2 * 48271 + 12345 + 2) % 2147483647
  let m4 := (m3 * 48271 + 12345 + 3) % 2147483647
  (((1 * 2147483647 + m1) * 2147483647 + m2) * 2147483647 + m3) * 2147483647 + m4
theorem range4 : rangeP 0 4 = [.int 0, .int 1, .int 2, .int 3] := rfl
theorem spread_eq (c : Int) (b : Bx) : d_law_spread [.int c] b = .ok (.int (spreadZ c)) b := by
  unfold d_law_spread b_law_spread spreadZ
  simp -implicitDefEqProofs only [q_var, q_va, q_c, q_op2, q_2a, q_2b, q_op1, q_isi, q_call, q_oCall, q_oSort, q_1, q_fn, q_f, q_nil, q_cons, q_ca, q_cb, q_tup, q_tu, q_oLst, q_ol, q_and, q_andT, q_andF, q_or, q_orT, q_orF, q_if, q_ifT, q_ifF, q_tVal, q_tv, q_tAnd, q_taT, q_taF, q_tOr, q_toT, q_toF, q_tNot, q_tn, q_yes, q_frz, q_fz, q_box, q_bx, q_chain, q_c1, q_c2, q_c2T, q_c2F, q_c3, q_met1, q_m1, q_m2, q_sl, q_s1, q_s2, q_s3, q_qN, q_qS, q_qs, q_fld, q_fl, q_lk, q_meth, q_mc, q_mc2, q_md, q_make, q_mk, q_jsN, q_jsC, q_js, q_iAny, q_itL, q_itT, q_itS, q_iRg1, q_rg1, q_iRg2, q_rg2, q_rg3, q_comp, q_cm, q_noEx, q_w0, q_w1, q_seq, q_sqN, q_sqR, q_sqC, q_sqB, q_skip, q_cont, q_break, q_retN, q_set, q_st, q_setO, q_so, q_ret, q_rt, q_expr, q_ex, q_sIf, q_siT, q_siF, q_asg, q_as, q_ofE, q_append, q_ap0, q_ap, q_extend, q_xt0, q_xt, q_for, q_fo, q_boxSet, q_b1, q_b2, q_b3, q_bC, q_bB, q_fldSet, q_fs1, q_fs2, q_fsC, q_sFrz, q_tryNo, q_trN, q_trR, q_trC, q_trB, q_gTp, q_gNm, q_def, q_dN, q_dR, q_add, q_addS, q_addT, q_addL, q_sub, q_mul, q_mod, q_div, q_neg, q_le, q_ge, q_gt, q_lt, q_eq, q_ne, q_eqS, q_neS, q_ixT, q_ixL, q_ixB, q_lenT, q_lenL, q_int, q_tupleL, q_tupleT, q_cellL, q_cellLs, q_not, ofO_some, atI0, atI1, atI2, atI3, atI4, frzE, gAll, List.getElem?_cons_zero, List.getElem?_cons_succ, List.set_cons_zero, List.set_cons_succ, List.map_cons, List.map_nil, List.cons_append, List.nil_append, List.append_nil, List.length_cons, List.length_nil, Option.bind_some, Option.map_some, if_true, reduceIte, or_true, true_or, and_true, true_and, Bool.not_true, Bool.not_false, decide_true, decide_false, if_false, Bool.false_eq_true, List.replicate, Int.reduceLT, Int.reduceLE, Int.reduceEq, Int.reduceNe, Int.reduceNeg, Int.reducePow, Int.reduceSub, Nat.reduceLeDiff, Nat.reduceAdd, Nat.reduceSub, Nat.reduceLT, Nat.reduceEqDiff, Nat.reducePow, eq_self, false_and, and_false, false_or, or_false, not_true_eq_false, not_false_eq_true, isi_non_tuple, isi_non_int, isi_non_str, isi_non_bool, isi_non_list, isi_bl_tuple, isi_bl_int, isi_bl_str, isi_bl_bool, isi_bl_list, isi_int_tuple, isi_int_int, isi_int_str, isi_int_bool, isi_int_list, isi_str_tuple, isi_str_int, isi_str_str, isi_str_bool, isi_str_list, isi_tup_tuple, isi_tup_int, isi_tup_str, isi_tup_bool, isi_tup_list, isi_lst_tuple, isi_lst_int, isi_lst_str, isi_lst_bool, isi_lst_list, Int.cast_ofNat_Int, Int.natCast_one, Int.natCast_zero, range4, u_forN, u_forC, u_frA, u_frN, u_frT, u_frB, u_frR, u_cpN, u_cpC, u_cpA, u_cpT, u_cpF, u_cpc, u_cpD, List.replicate]
structure Pool where
  ns : List Int
  p : Nat
  x : Int
  m : Int
  s : Int
def Pool.cell (q : Pool) : Cell := .lst [.lst (q.ns.map .int), .int (q.p : Nat), .int q.x, .int q.m, .int q.s]
def Pool.fill (q : Pool) : Pool := if q.x ≤ 0 ∧ q.p < q.ns.length then { q with p := q.p + 1, x := if q.ns.getD q.p 0 < 1000000000000000000 then spreadZ (q.ns.getD q.p 0) else q.ns.getD q.p 0 } else q
def Pool.mix (s m : Int) : Int := ((s * 48271 + m * 69621 + 1) % 2147483647 * 16807 + m) % 2147483629 / 5
def Pool.val (q : Pool) (many : Int) : Int := if q.fill.x ≤ 0 then Pool.mix q.fill.s (q.fill.m + 1) % many else q.fill.x % many
def Pool.nxt (q : Pool) (many : Int) : Pool := if q.fill.x ≤ 0 then { q.fill with m := q.fill.m + 1 } else { q.fill with m := q.fill.m + 1, x := q.fill.x / many }

theorem ixN_of {n k : Nat} (h : k < n) : ixN n (k : Int) = some k := ixN_nat h
theorem ixN1 {n : Nat} : ixN (n + 2) 1 = some 1 := ixN_nat (k := 1) (by omega)
theorem ixN2 {n : Nat} : ixN (n + 3) 2 = some 2 := ixN_nat (k := 2) (by omega)
theorem ixN3 {n : Nat} : ixN (n + 4) 3 = some 3 := ixN_nat (k := 3) (by omega)
theorem atI_map {f : Int → P} {ns : List Int} {k : Nat} (h : k < ns.length) : atI (ns.map f) (k : Int) = some (f (ns.getD k 0)) :=
  atI_ofNat (by rw [List.getElem?_map, List.getElem?_eq_getElem h, List.getD_eq_getElem?_getD, List.getElem?_eq_getElem h]; rfl)
theorem draw_eq (q : Pool) (rest : Bx) {many : Int} (h0 : 0 < many) (h1 : many < 1073741824) : d_law_draw [.box 0, .int many] (q.cell :: rest) = .ok (.int (q.val many)) ((q.nxt many).cell :: rest) := by
  obtain ⟨ns, p, x, m, s⟩ := q
  unfold d_law_draw b_law_draw Pool.val Pool.nxt Pool.fill Pool.cell
  by_cases hx : x ≤ 0
  · by_cases hp : p < ns.length
    · have hp' : (p : Int) < (ns.length : Int) := by omega
      by_cases hb : ns.getD p 0 < 1000000000000000000
      · by_cases hy : spreadZ (ns.getD p 0) ≤ 0
        · simp -implicitDefEqProofs only [q_var, q_va, q_c, q_op2, q_2a, q_2b, q_op1, q_isi, q_call, q_oCall, q_oSort, q_1, q_fn, q_f, q_nil, q_cons, q_ca, q_cb, q_tup, q_tu, q_oLst, q_ol, q_and, q_andT, q_andF, q_or, q_orT, q_orF, q_if, q_ifT, q_ifF, q_tVal, q_tv, q_tAnd, q_taT, q_taF, q_tOr, q_toT, q_toF, q_tNot, q_tn, q_yes, q_frz, q_fz, q_box, q_bx, q_chain, q_c1, q_c2, q_c2T, q_c2F, q_c3, q_met1, q_m1, q_m2, q_sl, q_s1, q_s2, q_s3, q_qN, q_qS, q_qs, q_fld, q_fl, q_lk, q_meth, q_mc, q_mc2, q_md, q_make, q_mk, q_jsN, q_jsC, q_js, q_iAny, q_itL, q_itT, q_itS, q_iRg1, q_rg1, q_iRg2, q_rg2, q_rg3, q_comp, q_cm, q_noEx, q_w0, q_w1, q_seq, q_sqN, q_sqR, q_sqC, q_sqB, q_skip, q_cont, q_break, q_retN, q_set, q_st, q_setO, q_so, q_ret, q_rt, q_expr, q_ex, q_sIf, q_siT, q_siF, q_asg, q_as, q_ofE, q_append, q_ap0, q_ap, q_extend, q_xt0, q_xt, q_for, q_fo, q_boxSet, q_b1, q_b2, q_b3, q_bC, q_bB, q_fldSet, q_fs1, q_fs2, q_fsC, q_sFrz, q_tryNo, q_trN, q_trR, q_trC, q_trB, q_gTp, q_gNm, q_def, q_dN, q_dR, q_add, q_addS, q_addT, q_addL, q_sub, q_mul, q_mod, q_div, q_neg, q_le, q_ge, q_gt, q_lt, q_eq, q_ne, q_eqS, q_neS, q_ixT, q_ixL, q_ixB, q_lenT, q_lenL, q_int, q_tupleL, q_tupleT, q_cellL, q_cellLs, q_not, ofO_some, atI0, atI1, atI2, atI3, atI4, frzE, gAll, List.getElem?_cons_zero, List.getElem?_cons_succ, List.set_cons_zero, List.set_cons_succ, List.map_cons, List.map_nil, List.cons_append, List.nil_append, List.append_nil, List.length_cons, List.length_nil, Option.bind_some, Option.map_some, if_true, reduceIte, or_true, true_or, and_true, true_and, Bool.not_true, Bool.not_false, decide_true, decide_false, if_false, Bool.false_eq_true, List.replicate, Int.reduceLT, Int.reduceLE, Int.reduceEq, Int.reduceNe, Int.reduceNeg, Int.reducePow, Int.reduceSub, Nat.reduceLeDiff, Nat.reduceAdd, Nat.reduceSub, Nat.reduceLT, Nat.reduceEqDiff, Nat.reducePow, eq_self, false_and, and_false, false_or, or_false, not_true_eq_false, not_false_eq_true, isi_non_tuple, isi_non_int, isi_non_str, isi_non_bool, isi_non_list, isi_bl_tuple, isi_bl_int, isi_bl_str, isi_bl_bool, isi_bl_list, isi_int_tuple, isi_int_int, isi_int_str, isi_int_bool, isi_int_list, isi_str_tuple, isi_str_int, isi_str_str, isi_str_bool, isi_str_list, isi_tup_tuple, isi_tup_int, isi_tup_str, isi_tup_bool, isi_tup_list, isi_lst_tuple, isi_lst_int, isi_lst_str, isi_lst_bool, isi_lst_list, Int.cast_ofNat_Int, Int.natCast_one, Int.natCast_zero, hx, hp, hp', atI_map hp, hb, hy, h0, h1, List.length_map, ixN1, ixN2, ixN3, spread_eq, Pool.mix, Int.natCast_add, Int.natCast_one]
        · simp -implicitDefEqProofs only [q_var, q_va, q_c, q_op2, q_2a, q_2b, q_op1, q_isi, q_call, q_oCall, q_oSort, q_1, q_fn, q_f, q_nil, q_cons, q_ca, q_cb, q_tup, q_tu, q_oLst, q_ol, q_and, q_andT, q_andF, q_or, q_orT, q_orF, q_if, q_ifT, q_ifF, q_tVal, q_tv, q_tAnd, q_taT, q_taF, q_tOr, q_toT, q_toF, q_tNot, q_tn, q_yes, q_frz, q_fz, q_box, q_bx, q_chain, q_c1, q_c2, q_c2T, q_c2F, q_c3, q_met1, q_m1, q_m2, q_sl, q_s1, q_s2, q_s3, q_qN, q_qS, q_qs, q_fld, q_fl, q_lk, q_meth, q_mc, q_mc2, q_md, q_make, q_mk, q_jsN, q_jsC, q_js, q_iAny, q_itL, q_itT, q_itS, q_iRg1, q_rg1, q_iRg2, q_rg2, q_rg3, q_comp, q_cm, q_noEx, q_w0, q_w1, q_seq, q_sqN, q_sqR, q_sqC, q_sqB, q_skip, q_cont, q_break, q_retN, q_set, q_st, q_setO, q_so, q_ret, q_rt, q_expr, q_ex, q_sIf, q_siT, q_siF, q_asg, q_as, q_ofE, q_append, q_ap0, q_ap, q_extend, q_xt0, q_xt, q_for, q_fo, q_boxSet, q_b1, q_b2, q_b3, q_bC, q_bB, q_fldSet, q_fs1, q_fs2, q_fsC, q_sFrz, q_tryNo, q_trN, q_trR, q_trC, q_trB, q_gTp, q_gNm, q_def, q_dN, q_dR, q_add, q_addS, q_addT, q_addL, q_sub, q_mul, q_mod, q_div, q_neg, q_le, q_ge, q_gt, q_lt, q_eq, q_ne, q_eqS, q_neS, q_ixT, q_ixL, q_ixB, q_lenT, q_lenL, q_int, q_tupleL, q_tupleT, q_cellL, q_cellLs, q_not, ofO_some, atI0, atI1, atI2, atI3, atI4, frzE, gAll, List.getElem?_cons_zero, List.getElem?_cons_succ, List.set_cons_zero, List.set_cons_succ, List.map_cons, List.map_nil, List.cons_append, List.nil_append, List.append_nil, List.length_cons, List.length_nil, Option.bind_some, Option.map_some, if_true, reduceIte, or_true, true_or, and_true, true_and, Bool.not_true, Bool.not_false, decide_true, decide_false, if_false, Bool.false_eq_true, List.replicate, Int.reduceLT, Int.reduceLE, Int.reduceEq, Int.reduceNe, Int.reduceNeg, Int.reducePow, Int.reduceSub, Nat.reduceLeDiff, Nat.reduceAdd, Nat.reduceSub, Nat.reduceLT, Nat.reduceEqDiff, Nat.reducePow, eq_self, false_and, and_false, false_or, or_false, not_true_eq_false, not_false_eq_true, isi_non_tuple, isi_non_int, isi_non_str, isi_non_bool, isi_non_list, isi_bl_tuple, isi_bl_int, isi_bl_str, isi_bl_bool, isi_bl_list, isi_int_tuple, isi_int_int, isi_int_str, isi_int_bool, isi_int_list, isi_str_tuple, isi_str_int, isi_str_str, isi_str_bool, isi_str_list, isi_tup_tuple, isi_tup_int, isi_tup_str, isi_tup_bool, isi_tup_list, isi_lst_tuple, isi_lst_int, isi_lst_str, isi_lst_bool, isi_lst_list, Int.cast_ofNat_Int, Int.natCast_one, Int.natCast_zero, hx, hp, hp', atI_map hp, hb, hy, h0, h1, List.length_map, ixN1, ixN2, ixN3, spread_eq, Int.natCast_add, Int.natCast_one]
      · have hy : ¬ ns.getD p 0 ≤ 0 := by omega
        simp -implicitDefEqProofs only [q_var, q_va, q_c, q_op2, q_2a, q_2b, q_op1, q_isi, q_call, q_oCall, q_oSort, q_1, q_fn, q_f, q_nil, q_cons, q_ca, q_cb, q_tup, q_tu, q_oLst, q_ol, q_and, q_andT, q_andF, q_or, q_orT, q_orF, q_if, q_ifT, q_ifF, q_tVal, q_tv, q_tAnd, q_taT, q_taF, q_tOr, q_toT, q_toF, q_tNot, q_tn, q_yes, q_frz, q_fz, q_box, q_bx, q_chain, q_c1, q_c2, q_c2T, q_c2F, q_c3, q_met1, q_m1, q_m2, q_sl, q_s1, q_s2, q_s3, q_qN, q_qS, q_qs, q_fld, q_fl, q_lk, q_meth, q_mc, q_mc2, q_md, q_make, q_mk, q_jsN, q_jsC, q_js, q_iAny, q_itL, q_itT, q_itS, q_iRg1, q_rg1, q_iRg2, q_rg2, q_rg3, q_comp, q_cm, q_noEx, q_w0, q_w1, q_seq, q_sqN, q_sqR, q_sqC, q_sqB, q_skip, q_cont, q_break, q_retN, q_set, q_st, q_setO, q_so, q_ret, q_rt, q_expr, q_ex, q_sIf, q_siT, q_siF, q_asg, q_as, q_ofE, q_append, q_ap0, q_ap, q_extend, q_xt0, q_xt, q_for, q_fo, q_boxSet, q_b1, q_b2, q_b3, q_bC, q_bB, q_fldSet, q_fs1, q_fs2, q_fsC, q_sFrz, q_tryNo, q_trN, q_trR, q_trC, q_trB, q_gTp, q_gNm, q_def, q_dN, q_dR, q_add, q_addS, q_addT, q_addL, q_sub, q_mul, q_mod, q_div, q_neg, q_le, q_ge, q_gt, q_lt, q_eq, q_ne, q_eqS, q_neS, q_ixT, q_ixL, q_ixB, q_lenT, q_lenL, q_int, q_tupleL, q_tupleT, q_cellL, q_cellLs, q_not, ofO_some, atI0, atI1, atI2, atI3, atI4, frzE, gAll, List.getElem?_cons_zero, List.getElem?_cons_succ, List.set_cons_zero, List.set_cons_succ, List.map_cons, List.map_nil, List.cons_append, List.nil_append, List.append_nil, List.length_cons, List.length_nil, Option.bind_some, Option.map_some, if_true, reduceIte, or_true, true_or, and_true, true_and, Bool.not_true, Bool.not_false, decide_true, decide_false, if_false, Bool.false_eq_true, List.replicate, Int.reduceLT, Int.reduceLE, Int.reduceEq, Int.reduceNe, Int.reduceNeg, Int.reducePow, Int.reduceSub, Nat.reduceLeDiff, Nat.reduceAdd, Nat.reduceSub, Nat.reduceLT, Nat.reduceEqDiff, Nat.reducePow, eq_self, false_and, and_false, false_or, or_false, not_true_eq_false, not_false_eq_true, isi_non_tuple, isi_non_int, isi_non_str, isi_non_bool, isi_non_list, isi_bl_tuple, isi_bl_int, isi_bl_str, isi_bl_bool, isi_bl_list, isi_int_tuple, isi_int_int, isi_int_str, isi_int_bool, isi_int_list, isi_str_tuple, isi_str_int, isi_str_str, isi_str_bool, isi_str_list, isi_tup_tuple, isi_tup_int, isi_tup_str, isi_tup_bool, isi_tup_list, isi_lst_tuple, isi_lst_int, isi_lst_str, isi_lst_bool, isi_lst_list, Int.cast_ofNat_Int, Int.natCast_one, Int.natCast_zero, hx, hp, hp', atI_map hp, hb, hy, h0, h1, List.length_map, ixN1, ixN2, ixN3, spread_eq, Int.natCast_add, Int.natCast_one]
    · have hp' : ¬ (p : Int) < (ns.length : Int) := by omega
      simp -implicitDefEqProofs only [q_var, q_va, q_c, q_op2, q_2a, q_2b, q_op1, q_isi, q_call, q_oCall, q_oSort, q_1, q_fn, q_f, q_nil, q_cons, q_ca, q_cb, q_tup, q_tu, q_oLst, q_ol, q_and, q_andT, q_andF, q_or, q_orT, q_orF, q_if, q_ifT, q_ifF, q_tVal, q_tv, q_tAnd, q_taT, q_taF, q_tOr, q_toT, q_toF, q_tNot, q_tn, q_yes, q_frz, q_fz, q_box, q_bx, q_chain, q_c1, q_c2, q_c2T, q_c2F, q_c3, q_met1, q_m1, q_m2, q_sl, q_s1, q_s2, q_s3, q_qN, q_qS, q_qs, q_fld, q_fl, q_lk, q_meth, q_mc, q_mc2, q_md, q_make, q_mk, q_jsN, q_jsC, q_js, q_iAny, q_itL, q_itT, q_itS, q_iRg1, q_rg1, q_iRg2, q_rg2, q_rg3, q_comp, q_cm, q_noEx, q_w0, q_w1, q_seq, q_sqN, q_sqR, q_sqC, q_sqB, q_skip, q_cont, q_break, q_retN, q_set, q_st, q_setO, q_so, q_ret, q_rt, q_expr, q_ex, q_sIf, q_siT, q_siF, q_asg, q_as, q_ofE, q_append, q_ap0, q_ap, q_extend, q_xt0, q_xt, q_for, q_fo, q_boxSet, q_b1, q_b2, q_b3, q_bC, q_bB, q_fldSet, q_fs1, q_fs2, q_fsC, q_sFrz, q_tryNo, q_trN, q_trR, q_trC, q_trB, q_gTp, q_gNm, q_def, q_dN, q_dR, q_add, q_addS, q_addT, q_addL, q_sub, q_mul, q_mod, q_div, q_neg, q_le, q_ge, q_gt, q_lt, q_eq, q_ne, q_eqS, q_neS, q_ixT, q_ixL, q_ixB, q_lenT, q_lenL, q_int, q_tupleL, q_tupleT, q_cellL, q_cellLs, q_not, ofO_some, atI0, atI1, atI2, atI3, atI4, frzE, gAll, List.getElem?_cons_zero, List.getElem?_cons_succ, List.set_cons_zero, List.set_cons_succ, List.map_cons, List.map_nil, List.cons_append, List.nil_append, List.append_nil, List.length_cons, List.length_nil, Option.bind_some, Option.map_some, if_true, reduceIte, or_true, true_or, and_true, true_and, Bool.not_true, Bool.not_false, decide_true, decide_false, if_false, Bool.false_eq_true, List.replicate, Int.reduceLT, Int.reduceLE, Int.reduceEq, Int.reduceNe, Int.reduceNeg, Int.reducePow, Int.reduceSub, Nat.reduceLeDiff, Nat.reduceAdd, Nat.reduceSub, Nat.reduceLT, Nat.reduceEqDiff, Nat.reducePow, eq_self, false_and, and_false, false_or, or_false, not_true_eq_false, not_false_eq_true, isi_non_tuple, isi_non_int, isi_non_str, isi_non_bool, isi_non_list, isi_bl_tuple, isi_bl_int, isi_bl_str, isi_bl_bool, isi_bl_list, isi_int_tuple, isi_int_int, isi_int_str, isi_int_bool, isi_int_list, isi_str_tuple, isi_str_int, isi_str_str, isi_str_bool, isi_str_list, isi_tup_tuple, isi_tup_int, isi_tup_str, isi_tup_bool, isi_tup_list, isi_lst_tuple, isi_lst_int, isi_lst_str, isi_lst_bool, isi_lst_list, Int.cast_ofNat_Int, Int.natCast_one, Int.natCast_zero, hx, hp, hp', h0, h1, List.length_map, ixN1, ixN2, ixN3, Pool.mix]
  · simp -implicitDefEqProofs only [q_var, q_va, q_c, q_op2, q_2a, q_2b, q_op1, q_isi, q_call, q_oCall, q_oSort, q_1, q_fn, q_f, q_nil, q_cons, q_ca, q_cb, q_tup, q_tu, q_oLst, q_ol, q_and, q_andT, q_andF, q_or, q_orT, q_orF, q_if, q_ifT, q_ifF, q_tVal, q_tv, q_tAnd, q_taT, q_taF, q_tOr, q_toT, q_toF, q_tNot, q_tn, q_yes, q_frz, q_fz, q_box, q_bx, q_chain, q_c1, q_c2, q_c2T, q_c2F, q_c3, q_met1, q_m1, q_m2, q_sl, q_s1, q_s2, q_s3, q_qN, q_qS, q_qs, q_fld, q_fl, q_lk, q_meth, q_mc, q_mc2, q_md, q_make, q_mk, q_jsN, q_jsC, q_js, q_iAny, q_itL, q_itT, q_itS, q_iRg1, q_rg1, q_iRg2, q_rg2, q_rg3, q_comp, q_cm, q_noEx, q_w0, q_w1, q_seq, q_sqN, q_sqR, q_sqC, q_sqB, q_skip, q_cont, q_break, q_retN, q_set, q_st, q_setO, q_so, q_ret, q_rt, q_expr, q_ex, q_sIf, q_siT, q_siF, q_asg, q_as, q_ofE, q_append, q_ap0, q_ap, q_extend, q_xt0, q_xt, q_for, q_fo, q_boxSet, q_b1, q_b2, q_b3, q_bC, q_bB, q_fldSet, q_fs1, q_fs2, q_fsC, q_sFrz, q_tryNo, q_trN, q_trR, q_trC, q_trB, q_gTp, q_gNm, q_def, q_dN, q_dR, q_add, q_addS, q_addT, q_addL, q_sub, q_mul, q_mod, q_div, q_neg, q_le, q_ge, q_gt, q_lt, q_eq, q_ne, q_eqS, q_neS, q_ixT, q_ixL, q_ixB, q_lenT, q_lenL, q_int, q_tupleL, q_tupleT, q_cellL, q_cellLs, q_not, ofO_some, atI0, atI1, atI2, atI3, atI4, frzE, gAll, List.getElem?_cons_zero, List.getElem?_cons_succ, List.set_cons_zero, List.set_cons_succ, List.map_cons, List.map_nil, List.cons_append, List.nil_append, List.append_nil, List.length_cons, List.length_nil, Option.bind_some, Option.map_some, if_true, reduceIte, or_true, true_or, and_true, true_and, Bool.not_true, Bool.not_false, decide_true, decide_false, if_false, Bool.false_eq_true, List.replicate, Int.reduceLT, Int.reduceLE, Int.reduceEq, Int.reduceNe, Int.reduceNeg, Int.reducePow, Int.reduceSub, Nat.reduceLeDiff, Nat.reduceAdd, Nat.reduceSub, Nat.reduceLT, Nat.reduceEqDiff, Nat.reducePow, eq_self, false_and, and_false, false_or, or_false, not_true_eq_false, not_false_eq_true, isi_non_tuple, isi_non_int, isi_non_str, isi_non_bool, isi_non_list, isi_bl_tuple, isi_bl_int, isi_bl_str, isi_bl_bool, isi_bl_list, isi_int_tuple, isi_int_int, isi_int_str, isi_int_bool, isi_int_list, isi_str_tuple, isi_str_int, isi_str_str, isi_str_bool, isi_str_list, isi_tup_tuple, isi_tup_int, isi_tup_str, isi_tup_bool, isi_tup_list, isi_lst_tuple, isi_lst_int, isi_lst_str, isi_lst_bool, isi_lst_list, Int.cast_ofNat_Int, Int.natCast_one, Int.natCast_zero, hx, h0, h1, List.length_map, ixN1, ixN2, ixN3]
theorem Pool.val_lo (q : Pool) {many : Int} (h : 0 < many) : 0 ≤ q.val many := by
  unfold Pool.val
  split <;> exact Int.emod_nonneg _ (by omega)
theorem Pool.val_hi (q : Pool) {many : Int} (h : 0 < many) : q.val many < many := by
  unfold Pool.val
  split <;> exact Int.emod_lt_of_pos _ h

/-- the boxes of a law: the pool first, then what lies behind it -/
def PoolI (rest : Bx) (b : Bx) : Prop := ∃ q : Pool, b = q.cell :: rest
theorem draw_ex {rest b : Bx} (h : PoolI rest b) {many : Int} (h0 : 0 < many) (h1 : many < 1073741824) : ∃ i b', d_law_draw [.box 0, .int many] b = .ok (.int i) b' ∧ 0 ≤ i ∧ i < many ∧ PoolI rest b' := by
  obtain ⟨q, rfl⟩ := h
  exact ⟨q.val many, _, draw_eq q rest h0 h1, q.val_lo h0, q.val_hi h0, q.nxt many, rfl⟩
theorem pool_ex (ns : List Int) (h : ns.length ≤ 63) : ∃ b, d_law_pool [.fro ns] [] = .ok (.box 0) b ∧ PoolI [] b := by
  have hc : slP [] (.fro ns) none (some 63) = some (.lst (ns.map .int)) := by
    show some (P.lst ((cutP ns none (some ((63 : Nat) : Int))).map .int)) = _
    rw [cut_take, List.take_of_length_le h]
  obtain ⟨e2, b2, hf, s, sl, he, hb⟩ := for_ex (gf := gNm 2) (f := sSet 1 (eOp2 modP (eCall intP (aCons (eOp2 addP (eOp2 mulP (eVar 1) (eC (.int 31))) (eVar 2)) aNil)) (eC (.int 1000003)))) P.int
    (fun e b => ∃ (s : Int) (sl : Slot), e = [.va (.fro ns), .va (.int s), sl] ∧ b = ([] : Bx)) (as := ns) (fun a _ e b i => by
      obtain ⟨s, sl, rfl, rfl⟩ := i
      refine ⟨[.va (.fro ns), .va (.int s), .va (.int a)], [.va (.fro ns), .va (.int ((s * 31 + a) % 1000003)), .va (.int a)], [], rfl, .inl ?_, _, _, rfl, rfl⟩
      simp -implicitDefEqProofs only [q_var, q_va, q_c, q_op2, q_2a, q_2b, q_op1, q_isi, q_call, q_oCall, q_oSort, q_1, q_fn, q_f, q_nil, q_cons, q_ca, q_cb, q_tup, q_tu, q_oLst, q_ol, q_and, q_andT, q_andF, q_or, q_orT, q_orF, q_if, q_ifT, q_ifF, q_tVal, q_tv, q_tAnd, q_taT, q_taF, q_tOr, q_toT, q_toF, q_tNot, q_tn, q_yes, q_frz, q_fz, q_box, q_bx, q_chain, q_c1, q_c2, q_c2T, q_c2F, q_c3, q_met1, q_m1, q_m2, q_sl, q_s1, q_s2, q_s3, q_qN, q_qS, q_qs, q_fld, q_fl, q_lk, q_meth, q_mc, q_mc2, q_md, q_make, q_mk, q_jsN, q_jsC, q_js, q_iAny, q_itL, q_itT, q_itS, q_iRg1, q_rg1, q_iRg2, q_rg2, q_rg3, q_comp, q_cm, q_noEx, q_w0, q_w1, q_seq, q_sqN, q_sqR, q_sqC, q_sqB, q_skip, q_cont, q_break, q_retN, q_set, q_st, q_setO, q_so, q_ret, q_rt, q_expr, q_ex, q_sIf, q_siT, q_siF, q_asg, q_as, q_ofE, q_append, q_ap0, q_ap, q_extend, q_xt0, q_xt, q_for, q_fo, q_boxSet, q_b1, q_b2, q_b3, q_bC, q_bB, q_fldSet, q_fs1, q_fs2, q_fsC, q_sFrz, q_tryNo, q_trN, q_trR, q_trC, q_trB, q_gTp, q_gNm, q_def, q_dN, q_dR, q_add, q_addS, q_addT, q_addL, q_sub, q_mul, q_mod, q_div, q_neg, q_le, q_ge, q_gt, q_lt, q_eq, q_ne, q_eqS, q_neS, q_ixT, q_ixL, q_ixB, q_lenT, q_lenL, q_int, q_tupleL, q_tupleT, q_cellL, q_cellLs, q_not, ofO_some, atI0, atI1, atI2, atI3, atI4, frzE, gAll, List.getElem?_cons_zero, List.getElem?_cons_succ, List.set_cons_zero, List.set_cons_succ, List.map_cons, List.map_nil, List.cons_append, List.nil_append, List.append_nil, List.length_cons, List.length_nil, Option.bind_some, Option.map_some, if_true, reduceIte, or_true, true_or, and_true, true_and, Bool.not_true, Bool.not_false, decide_true, decide_false, if_false, Bool.false_eq_true, List.replicate, Int.reduceLT, Int.reduceLE, Int.reduceEq, Int.reduceNe, Int.reduceNeg, Int.reducePow, Int.reduceSub, Nat.reduceLeDiff, Nat.reduceAdd, Nat.reduceSub, Nat.reduceLT, Nat.reduceEqDiff, Nat.reducePow, eq_self, false_and, and_false, false_or, or_false, not_true_eq_false, not_false_eq_true, isi_non_tuple, isi_non_int, isi_non_str, isi_non_bool, isi_non_list, isi_bl_tuple, isi_bl_int, isi_bl_str, isi_bl_bool, isi_bl_list, isi_int_tuple, isi_int_int, isi_int_str, isi_int_bool, isi_int_list, isi_str_tuple, isi_str_int, isi_str_str, isi_str_bool, isi_str_list, isi_tup_tuple, isi_tup_int, isi_tup_str, isi_tup_bool, isi_tup_list, isi_lst_tuple, isi_lst_int, isi_lst_str, isi_lst_bool, isi_lst_list, Int.cast_ofNat_Int, Int.natCast_one, Int.natCast_zero]) [.va (.fro ns), .va (.int 7), .un] [] ⟨_, _, rfl, rfl⟩
  subst he hb
  refine ⟨_, ?_, ⟨ns, 0, 0, 0, s⟩, rfl⟩
  unfold d_law_pool b_law_pool Pool.cell
  simp -implicitDefEqProofs only [q_var, q_va, q_c, q_op2, q_2a, q_2b, q_op1, q_isi, q_call, q_oCall, q_oSort, q_1, q_fn, q_f, q_nil, q_cons, q_ca, q_cb, q_tup, q_tu, q_oLst, q_ol, q_and, q_andT, q_andF, q_or, q_orT, q_orF, q_if, q_ifT, q_ifF, q_tVal, q_tv, q_tAnd, q_taT, q_taF, q_tOr, q_toT, q_toF, q_tNot, q_tn, q_yes, q_frz, q_fz, q_box, q_bx, q_chain, q_c1, q_c2, q_c2T, q_c2F, q_c3, q_met1, q_m1, q_m2, q_sl, q_s1, q_s2, q_s3, q_qN, q_qS, q_qs, q_fld, q_fl, q_lk, q_meth, q_mc, q_mc2, q_md, q_make, q_mk, q_jsN, q_jsC, q_js, q_iAny, q_itL, q_itT, q_itS, q_iRg1, q_rg1, q_iRg2, q_rg2, q_rg3, q_comp, q_cm, q_noEx, q_w0, q_w1, q_seq, q_sqN, q_sqR, q_sqC, q_sqB, q_skip, q_cont, q_break, q_retN, q_set, q_st, q_setO, q_so, q_ret, q_rt, q_expr, q_ex, q_sIf, q_siT, q_siF, q_asg, q_as, q_ofE, q_append, q_ap0, q_ap, q_extend, q_xt0, q_xt, q_for, q_fo, q_boxSet, q_b1, q_b2, q_b3, q_bC, q_bB, q_fldSet, q_fs1, q_fs2, q_fsC, q_sFrz, q_tryNo, q_trN, q_trR, q_trC, q_trB, q_gTp, q_gNm, q_def, q_dN, q_dR, q_add, q_addS, q_addT, q_addL, q_sub, q_mul, q_mod, q_div, q_neg, q_le, q_ge, q_gt, q_lt, q_eq, q_ne, q_eqS, q_neS, q_ixT, q_ixL, q_ixB, q_lenT, q_lenL, q_int, q_tupleL, q_tupleT, q_cellL, q_cellLs, q_not, ofO_some, atI0, atI1, atI2, atI3, atI4, frzE, gAll, List.getElem?_cons_zero, List.getElem?_cons_succ, List.set_cons_zero, List.set_cons_succ, List.map_cons, List.map_nil, List.cons_append, List.nil_append, List.append_nil, List.length_cons, List.length_nil, Option.bind_some, Option.map_some, if_true, reduceIte, or_true, true_or, and_true, true_and, Bool.not_true, Bool.not_false, decide_true, decide_false, if_false, Bool.false_eq_true, List.replicate, Int.reduceLT, Int.reduceLE, Int.reduceEq, Int.reduceNe, Int.reduceNeg, Int.reducePow, Int.reduceSub, Nat.reduceLeDiff, Nat.reduceAdd, Nat.reduceSub, Nat.reduceLT, Nat.reduceEqDiff, Nat.reducePow, eq_self, false_and, and_false, false_or, or_false, not_true_eq_false, not_false_eq_true, isi_non_tuple, isi_non_int, isi_non_str, isi_non_bool, isi_non_list, isi_bl_tuple, isi_bl_int, isi_bl_str, isi_bl_bool, isi_bl_list, isi_int_tuple, isi_int_int, isi_int_str, isi_int_bool, isi_int_list, isi_str_tuple, isi_str_int, isi_str_str, isi_str_bool, isi_str_list, isi_tup_tuple, isi_tup_int, isi_tup_str, isi_tup_bool, isi_tup_list, isi_lst_tuple, isi_lst_int, isi_lst_str, isi_lst_bool, isi_lst_list, Int.cast_ofNat_Int, Int.natCast_one, Int.natCast_zero, hc, hf, listP]
def encW (z : Int × Int) : P := .tup [.int z.1, .int z.2]
def encC (c : List (Int × Int)) : P := .tup (c.map encW)
structure GoodC (top : Int) (c : List (Int × Int)) : Prop where
  lo : 2 ≤ c.length
  hi : c.length ≤ 8
  z0 : ∃ v r, c = (0, v) :: r
  up : (c.map (·.1)).Pairwise (· < ·)
  wi : ∀ z, z ∈ c → 0 ≤ z.1 ∧ z.1 ≤ 40
  po : ∀ z, z ∈ c → 0 ≤ z.2 ∧ z.2 ≤ top
theorem curve_ex {rest b : Bx} (h : PoolI rest b) {top : Int} (h0 : 2 ≤ top) (h1 : top ≤ 1000000) : ∃ c b', d_law_curve [.box 0, .int top] b = .ok (encC c) b' ∧ GoodC top c ∧ PoolI rest b' := by
  obtain ⟨k, b1, d1, l1, u1, i1⟩ := draw_ex h (many := 7) (by omega) (by omega)
  obtain ⟨ws, b2, m2, g2, c2, i2⟩ := comp_ex (gf := gNm 3) (ft := tYesF) (fe := eOp2 addP (eC (.int 1)) (eFn d_law_draw (aCons (eVar 0) (aCons (eC (.int 40)) aNil)))) (env0 := [.va (.box 0), .va (.int top), .un, .un, .un])
    (fun k : Nat => P.int (k : Nat)) (fun _ (i : Int) => P.int i) (fun _ i => 1 ≤ i ∧ i ≤ 40) (PoolI rest) (as := List.range (1 + k).toNat) (fun a _ b i => by
      obtain ⟨j, b', d, l, u, i'⟩ := draw_ex i (many := 40) (by omega) (by omega)
      refine ⟨_, 1 + j, b', rfl, rfl, ?_, ⟨by omega, by omega⟩, i'⟩
      simp -implicitDefEqProofs only [q_var, q_va, q_c, q_op2, q_2a, q_2b, q_op1, q_isi, q_call, q_oCall, q_oSort, q_1, q_fn, q_f, q_nil, q_cons, q_ca, q_cb, q_tup, q_tu, q_oLst, q_ol, q_and, q_andT, q_andF, q_or, q_orT, q_orF, q_if, q_ifT, q_ifF, q_tVal, q_tv, q_tAnd, q_taT, q_taF, q_tOr, q_toT, q_toF, q_tNot, q_tn, q_yes, q_frz, q_fz, q_box, q_bx, q_chain, q_c1, q_c2, q_c2T, q_c2F, q_c3, q_met1, q_m1, q_m2, q_sl, q_s1, q_s2, q_s3, q_qN, q_qS, q_qs, q_fld, q_fl, q_lk, q_meth, q_mc, q_mc2, q_md, q_make, q_mk, q_jsN, q_jsC, q_js, q_iAny, q_itL, q_itT, q_itS, q_iRg1, q_rg1, q_iRg2, q_rg2, q_rg3, q_comp, q_cm, q_noEx, q_w0, q_w1, q_seq, q_sqN, q_sqR, q_sqC, q_sqB, q_skip, q_cont, q_break, q_retN, q_set, q_st, q_setO, q_so, q_ret, q_rt, q_expr, q_ex, q_sIf, q_siT, q_siF, q_asg, q_as, q_ofE, q_append, q_ap0, q_ap, q_extend, q_xt0, q_xt, q_for, q_fo, q_boxSet, q_b1, q_b2, q_b3, q_bC, q_bB, q_fldSet, q_fs1, q_fs2, q_fsC, q_sFrz, q_tryNo, q_trN, q_trR, q_trC, q_trB, q_gTp, q_gNm, q_def, q_dN, q_dR, q_add, q_addS, q_addT, q_addL, q_sub, q_mul, q_mod, q_div, q_neg, q_le, q_ge, q_gt, q_lt, q_eq, q_ne, q_eqS, q_neS, q_ixT, q_ixL, q_ixB, q_lenT, q_lenL, q_int, q_tupleL, q_tupleT, q_cellL, q_cellLs, q_not, ofO_some, atI0, atI1, atI2, atI3, atI4, frzE, gAll, List.getElem?_cons_zero, List.getElem?_cons_succ, List.set_cons_zero, List.set_cons_succ, List.map_cons, List.map_nil, List.cons_append, List.nil_append, List.append_nil, List.length_cons, List.length_nil, Option.bind_some, Option.map_some, if_true, reduceIte, or_true, true_or, and_true, true_and, Bool.not_true, Bool.not_false, decide_true, decide_false, if_false, Bool.false_eq_true, List.replicate, Int.reduceLT, Int.reduceLE, Int.reduceEq, Int.reduceNe, Int.reduceNeg, Int.reducePow, Int.reduceSub, Nat.reduceLeDiff, Nat.reduceAdd, Nat.reduceSub, Nat.reduceLT, Nat.reduceEqDiff, Nat.reducePow, eq_self, false_and, and_false, false_or, or_false, not_true_eq_false, not_false_eq_true, isi_non_tuple, isi_non_int, isi_non_str, isi_non_bool, isi_non_list, isi_bl_tuple, isi_bl_int, isi_bl_str, isi_bl_bool, isi_bl_list, isi_int_tuple, isi_int_int, isi_int_str, isi_int_bool, isi_int_list, isi_str_tuple, isi_str_int, isi_str_str, isi_str_bool, isi_str_list, isi_tup_tuple, isi_tup_int, isi_tup_str, isi_tup_bool, isi_tup_list, isi_lst_tuple, isi_lst_int, isi_lst_str, isi_lst_bool, isi_lst_list, Int.cast_ofNat_Int, Int.natCast_one, Int.natCast_zero, d]) b1 i1
  have hl : ws.length = (1 + k).toNat := by rw [← List.length_map (f := (·.1)), m2, List.length_range]
  have hm : (ws.map fun z => P.int z.2) = (ws.map (·.2)).map P.int := by rw [List.map_map]; rfl
  obtain ⟨v, b3, d3, l3, u3, i3⟩ := draw_ex i2 (many := 3) (by omega) (by omega)
  obtain ⟨ps, b4, m4, g4, c4, i4⟩ := comp_ex (gf := gNm 4) (ft := tYesF) (fe := eTup (aCons (eVar 4) (aCons (eFn d_law_draw (aCons (eVar 0) (aCons (eOp2 addP (eVar 1) (eC (.int 1))) aNil))) aNil))) (env0 := [.va (.box 0), .va (.int top), .va (.lst ((sortU (ws.map (·.2))).map P.int)), .un, .un])
    (fun k : Int => P.int k) (fun w (v : Int) => encW (w, v)) (fun _ i => 0 ≤ i ∧ i ≤ top) (PoolI rest) (as := sortU (ws.map (·.2))) (fun a _ b i => by
      obtain ⟨j, b', d, l, u, i'⟩ := draw_ex i (many := top + 1) (by omega) (by omega)
      refine ⟨_, j, b', rfl, rfl, ?_, ⟨by omega, by omega⟩, i'⟩
      simp -implicitDefEqProofs only [q_var, q_va, q_c, q_op2, q_2a, q_2b, q_op1, q_isi, q_call, q_oCall, q_oSort, q_1, q_fn, q_f, q_nil, q_cons, q_ca, q_cb, q_tup, q_tu, q_oLst, q_ol, q_and, q_andT, q_andF, q_or, q_orT, q_orF, q_if, q_ifT, q_ifF, q_tVal, q_tv, q_tAnd, q_taT, q_taF, q_tOr, q_toT, q_toF, q_tNot, q_tn, q_yes, q_frz, q_fz, q_box, q_bx, q_chain, q_c1, q_c2, q_c2T, q_c2F, q_c3, q_met1, q_m1, q_m2, q_sl, q_s1, q_s2, q_s3, q_qN, q_qS, q_qs, q_fld, q_fl, q_lk, q_meth, q_mc, q_mc2, q_md, q_make, q_mk, q_jsN, q_jsC, q_js, q_iAny, q_itL, q_itT, q_itS, q_iRg1, q_rg1, q_iRg2, q_rg2, q_rg3, q_comp, q_cm, q_noEx, q_w0, q_w1, q_seq, q_sqN, q_sqR, q_sqC, q_sqB, q_skip, q_cont, q_break, q_retN, q_set, q_st, q_setO, q_so, q_ret, q_rt, q_expr, q_ex, q_sIf, q_siT, q_siF, q_asg, q_as, q_ofE, q_append, q_ap0, q_ap, q_extend, q_xt0, q_xt, q_for, q_fo, q_boxSet, q_b1, q_b2, q_b3, q_bC, q_bB, q_fldSet, q_fs1, q_fs2, q_fsC, q_sFrz, q_tryNo, q_trN, q_trR, q_trC, q_trB, q_gTp, q_gNm, q_def, q_dN, q_dR, q_add, q_addS, q_addT, q_addL, q_sub, q_mul, q_mod, q_div, q_neg, q_le, q_ge, q_gt, q_lt, q_eq, q_ne, q_eqS, q_neS, q_ixT, q_ixL, q_ixB, q_lenT, q_lenL, q_int, q_tupleL, q_tupleT, q_cellL, q_cellLs, q_not, ofO_some, atI0, atI1, atI2, atI3, atI4, frzE, gAll, List.getElem?_cons_zero, List.getElem?_cons_succ, List.set_cons_zero, List.set_cons_succ, List.map_cons, List.map_nil, List.cons_append, List.nil_append, List.append_nil, List.length_cons, List.length_nil, Option.bind_some, Option.map_some, if_true, reduceIte, or_true, true_or, and_true, true_and, Bool.not_true, Bool.not_false, decide_true, decide_false, if_false, Bool.false_eq_true, List.replicate, Int.reduceLT, Int.reduceLE, Int.reduceEq, Int.reduceNe, Int.reduceNeg, Int.reducePow, Int.reduceSub, Nat.reduceLeDiff, Nat.reduceAdd, Nat.reduceSub, Nat.reduceLT, Nat.reduceEqDiff, Nat.reducePow, eq_self, false_and, and_false, false_or, or_false, not_true_eq_false, not_false_eq_true, isi_non_tuple, isi_non_int, isi_non_str, isi_non_bool, isi_non_list, isi_bl_tuple, isi_bl_int, isi_bl_str, isi_bl_bool, isi_bl_list, isi_int_tuple, isi_int_int, isi_int_str, isi_int_bool, isi_int_list, isi_str_tuple, isi_str_int, isi_str_str, isi_str_bool, isi_str_list, isi_tup_tuple, isi_tup_int, isi_tup_str, isi_tup_bool, isi_tup_list, isi_lst_tuple, isi_lst_int, isi_lst_str, isi_lst_bool, isi_lst_list, Int.cast_ofNat_Int, Int.natCast_one, Int.natCast_zero, d, encW]) b3 i3
  have hs : ∀ w, w ∈ sortU (ws.map (·.2)) → 1 ≤ w ∧ w ≤ 40 := fun w hw => by
    obtain ⟨z, hz, rfl⟩ := List.mem_map.mp (sortU_mem.mp hw)
    exact g2 z hz
  have hsl := sortU_len (ws.map (·.2))
  rw [List.length_map] at hsl
  have hs0 : 1 ≤ (sortU (ws.map (·.2))).length := by
    cases hq : ws with
    | nil => rw [hq] at hl; simp at hl; omega
    | cons z r =>
      have : z.2 ∈ sortU ((z :: r).map (·.2)) := sortU_mem.mpr (List.mem_map.mpr ⟨z, List.mem_cons_self, rfl⟩)
      exact List.length_pos_of_mem this
  have hpl : ps.length = (sortU (ws.map (·.2))).length := by rw [← m4, List.length_map]
  refine ⟨(0, v) :: ps, b4, ?_, ⟨by simp only [List.length_cons]; omega, by simp only [List.length_cons]; omega, ⟨v, ps, rfl⟩, ?_, ?_, ?_⟩, i4⟩
  · have hb : (-4611686018427387904 ≤ 1 + k ∧ 1 + k < 4611686018427387904) := by omega
    have h60 : ws.length < 60 := by omega
    have hm6 : (1 + k).toNat < 1000000 := by omega
    have h7 : (sortU (ws.map (·.2))).length < 1000000 := by omega
    have h8 : 1 + ps.length ≤ 1000000 := by omega
    unfold d_law_curve b_law_curve encC
    simp -implicitDefEqProofs only [q_var, q_va, q_c, q_op2, q_2a, q_2b, q_op1, q_isi, q_call, q_oCall, q_oSort, q_1, q_fn, q_f, q_nil, q_cons, q_ca, q_cb, q_tup, q_tu, q_oLst, q_ol, q_and, q_andT, q_andF, q_or, q_orT, q_orF, q_if, q_ifT, q_ifF, q_tVal, q_tv, q_tAnd, q_taT, q_taF, q_tOr, q_toT, q_toF, q_tNot, q_tn, q_yes, q_frz, q_fz, q_box, q_bx, q_chain, q_c1, q_c2, q_c2T, q_c2F, q_c3, q_met1, q_m1, q_m2, q_sl, q_s1, q_s2, q_s3, q_qN, q_qS, q_qs, q_fld, q_fl, q_lk, q_meth, q_mc, q_mc2, q_md, q_make, q_mk, q_jsN, q_jsC, q_js, q_iAny, q_itL, q_itT, q_itS, q_iRg1, q_rg1, q_iRg2, q_rg2, q_rg3, q_comp, q_cm, q_noEx, q_w0, q_w1, q_seq, q_sqN, q_sqR, q_sqC, q_sqB, q_skip, q_cont, q_break, q_retN, q_set, q_st, q_setO, q_so, q_ret, q_rt, q_expr, q_ex, q_sIf, q_siT, q_siF, q_asg, q_as, q_ofE, q_append, q_ap0, q_ap, q_extend, q_xt0, q_xt, q_for, q_fo, q_boxSet, q_b1, q_b2, q_b3, q_bC, q_bB, q_fldSet, q_fs1, q_fs2, q_fsC, q_sFrz, q_tryNo, q_trN, q_trR, q_trC, q_trB, q_gTp, q_gNm, q_def, q_dN, q_dR, q_add, q_addS, q_addT, q_addL, q_sub, q_mul, q_mod, q_div, q_neg, q_le, q_ge, q_gt, q_lt, q_eq, q_ne, q_eqS, q_neS, q_ixT, q_ixL, q_ixB, q_lenT, q_lenL, q_int, q_tupleL, q_tupleT, q_cellL, q_cellLs, q_not, ofO_some, atI0, atI1, atI2, atI3, atI4, frzE, gAll, List.getElem?_cons_zero, List.getElem?_cons_succ, List.set_cons_zero, List.set_cons_succ, List.map_cons, List.map_nil, List.cons_append, List.nil_append, List.append_nil, List.length_cons, List.length_nil, Option.bind_some, Option.map_some, if_true, reduceIte, or_true, true_or, and_true, true_and, Bool.not_true, Bool.not_false, decide_true, decide_false, if_false, Bool.false_eq_true, List.replicate, Int.reduceLT, Int.reduceLE, Int.reduceEq, Int.reduceNe, Int.reduceNeg, Int.reducePow, Int.reduceSub, Nat.reduceLeDiff, Nat.reduceAdd, Nat.reduceSub, Nat.reduceLT, Nat.reduceEqDiff, Nat.reducePow, eq_self, false_and, and_false, false_or, or_false, not_true_eq_false, not_false_eq_true, isi_non_tuple, isi_non_int, isi_non_str, isi_non_bool, isi_non_list, isi_bl_tuple, isi_bl_int, isi_bl_str, isi_bl_bool, isi_bl_list, isi_int_tuple, isi_int_int, isi_int_str, isi_int_bool, isi_int_list, isi_str_tuple, isi_str_int, isi_str_str, isi_str_bool, isi_str_list, isi_tup_tuple, isi_tup_int, isi_tup_str, isi_tup_bool, isi_tup_list, isi_lst_tuple, isi_lst_int, isi_lst_str, isi_lst_bool, isi_lst_list, Int.cast_ofNat_Int, Int.natCast_one, Int.natCast_zero, d1, hb, rangeP_map, List.length_map, List.length_range, hm6, c2, hm, ssP_ints, h60, d3, h7, c4, h8, encW]
    rfl
  · simp only [List.map_cons, List.pairwise_cons]
    refine ⟨fun w hw => ?_, by rw [m4]; exact sortU_up⟩
    rw [m4] at hw
    have := hs w hw
    omega
  · intro z hz
    rcases List.mem_cons.mp hz with rfl | hz
    · simp
    · have : z.1 ∈ sortU (ws.map (·.2)) := by rw [← m4]; exact List.mem_map.mpr ⟨z, hz, rfl⟩
      have := hs _ this
      omega
  · intro z hz
    rcases List.mem_cons.mp hz with rfl | hz
    · simp only; omega
    · exact g4 z hz

theorem range_split {n : Nat} {pre post : List Nat} {a : Nat} (h : List.range n = pre ++ a :: post) : a = pre.length ∧ a < n := by
  have h1 : (List.range n)[pre.length]? = some a := by rw [h, List.getElem?_append_right (Nat.le_refl _), Nat.sub_self]; rfl
  have hl : n = pre.length + (post.length + 1) := by have := congrArg List.length h; simpa using this
  rw [List.getElem?_range (by omega)] at h1
  cases h1
  exact ⟨rfl, by omega⟩
abbrev K4 := Int × Int × Int × Int
def encK (z : K4) : P := .tup [.int z.1, .int z.2.1, .int z.2.2.1, .int z.2.2.2]
def kLt (x y : K4) : Prop := x.1 < y.1 ∨ (x.1 = y.1 ∧ (x.2.1 < y.2.1 ∨ (x.2.1 = y.2.1 ∧ x.2.2.1 < y.2.2.1)))
structure GoodK (n : Int) (z : K4) : Prop where
  d0 : 0 ≤ z.1
  d1 : z.1 < 4
  i0 : 0 ≤ z.2.1
  i1 : z.2.1 < n
  j0 : 0 ≤ z.2.2.1
  j1 : z.2.2.1 < n
  ne : z.2.1 ≠ z.2.2.1
  p0 : 1 ≤ z.2.2.2
  p1 : z.2.2.2 ≤ 100
structure Farm where
  cs : List (List (Int × Int))
  ms : List Int
  ws : List K4
def encF (F : Farm) : P := .tup [.tup (F.cs.map encC), .tup (F.ms.map .int), .tup (F.ws.map encK)]
structure GoodF (most top : Int) (F : Farm) : Prop where
  c0 : 1 ≤ F.cs.length
  c1 : F.cs.length ≤ 3
  cg : ∀ c, c ∈ F.cs → GoodC top c
  m0 : 1 ≤ F.ms.length
  m1 : (F.ms.length : Int) ≤ most
  mg : ∀ m, m ∈ F.ms → 0 ≤ m ∧ m < F.cs.length
  wg : ∀ w, w ∈ F.ws → GoodK F.ms.length w
  wu : F.ws.Pairwise kLt
  wl : F.ws.length ≤ 400
/-- the wakes so far, all below a key -/
structure WkI (rest : Bx) (h : List PV.Slot) (n : Int) (cap : Nat) (key : K4) (e : List PV.Slot) (b : Bx) : Prop where
  ex : ∃ (ws : List K4) (s6 s7 s8 : PV.Slot), e = h ++ [PV.Slot.ow (ws.map encK), s6, s7, s8, .un] ∧ PoolI rest b ∧ ws.length ≤ cap ∧ (∀ w, w ∈ ws → GoodK n w) ∧ ws.Pairwise kLt ∧ ∀ w, w ∈ ws → kLt w key
abbrev fB8 : FS := sIf (tAndF (tVal (eOp2 neP (eVar 7) (eVar 8))) (tVal (eOp2 eqP (eFn d_law_draw (aCons (eVar 0) (aCons (eC (.int 3)) aNil))) (eC (.int 0))))) (sAppend 5 (eTup (aCons (eVar 6) (aCons (eVar 7) (aCons (eVar 8) (aCons (eOp2 addP (eC (.int 1)) (eFn d_law_draw (aCons (eVar 0) (aCons (eOp2 ixP (eTup (aCons (eC (.int 30)) (aCons (eC (.int 100)) aNil))) (eFn d_law_draw (aCons (eVar 0) (aCons (eC (.int 2)) aNil)))) aNil)))) aNil)))))) sSkip
theorem farm_ex {rest b : Bx} (h : PoolI rest b) {most top : Int} (h0 : 1 ≤ most) (hm : most ≤ 8) (h1 : 2 ≤ top) (h2 : top ≤ 1000000) : ∃ F b', d_law_farm [.box 0, .int most, .int top] b = .ok (encF F) b' ∧ GoodF most top F ∧ PoolI rest b' := by
  obtain ⟨k, b1, d1, l1, u1, i1⟩ := draw_ex h (many := 3) (by omega) (by omega)
  obtain ⟨cs, b2, m2, g2, c2, i2⟩ := comp_ex (gf := gNm 9) (ft := tYesF) (fe := eFn d_law_curve (aCons (eVar 0) (aCons (eVar 2) aNil))) (env0 := [.va (.box 0), .va (.int most), .va (.int top), .un, .un, .un, .un, .un, .un, .un])
    (fun k : Nat => P.int (k : Nat)) (fun _ c => encC c) (fun _ c => GoodC top c) (PoolI rest) (as := List.range (1 + k).toNat) (fun a _ b i => by
      obtain ⟨c, b', d, g, i'⟩ := curve_ex i h1 h2
      refine ⟨_, c, b', rfl, rfl, ?_, g, i'⟩
      simp -implicitDefEqProofs only [q_var, q_va, q_c, q_op2, q_2a, q_2b, q_op1, q_isi, q_call, q_oCall, q_oSort, q_1, q_fn, q_f, q_nil, q_cons, q_ca, q_cb, q_tup, q_tu, q_oLst, q_ol, q_and, q_andT, q_andF, q_or, q_orT, q_orF, q_if, q_ifT, q_ifF, q_tVal, q_tv, q_tAnd, q_taT, q_taF, q_tOr, q_toT, q_toF, q_tNot, q_tn, q_yes, q_frz, q_fz, q_box, q_bx, q_chain, q_c1, q_c2, q_c2T, q_c2F, q_c3, q_met1, q_m1, q_m2, q_sl, q_s1, q_s2, q_s3, q_qN, q_qS, q_qs, q_fld, q_fl, q_lk, q_meth, q_mc, q_mc2, q_md, q_make, q_mk, q_jsN, q_jsC, q_js, q_iAny, q_itL, q_itT, q_itS, q_iRg1, q_rg1, q_iRg2, q_rg2, q_rg3, q_comp, q_cm, q_noEx, q_w0, q_w1, q_seq, q_sqN, q_sqR, q_sqC, q_sqB, q_skip, q_cont, q_break, q_retN, q_set, q_st, q_setO, q_so, q_ret, q_rt, q_expr, q_ex, q_sIf, q_siT, q_siF, q_asg, q_as, q_ofE, q_append, q_ap0, q_ap, q_extend, q_xt0, q_xt, q_for, q_fo, q_boxSet, q_b1, q_b2, q_b3, q_bC, q_bB, q_fldSet, q_fs1, q_fs2, q_fsC, q_sFrz, q_tryNo, q_trN, q_trR, q_trC, q_trB, q_gTp, q_gNm, q_def, q_dN, q_dR, q_add, q_addS, q_addT, q_addL, q_sub, q_mul, q_mod, q_div, q_neg, q_le, q_ge, q_gt, q_lt, q_eq, q_ne, q_eqS, q_neS, q_ixT, q_ixL, q_ixB, q_lenT, q_lenL, q_int, q_tupleL, q_tupleT, q_cellL, q_cellLs, q_not, ofO_some, atI0, atI1, atI2, atI3, atI4, frzE, gAll, List.getElem?_cons_zero, List.getElem?_cons_succ, List.set_cons_zero, List.set_cons_succ, List.map_cons, List.map_nil, List.cons_append, List.nil_append, List.append_nil, List.length_cons, List.length_nil, Option.bind_some, Option.map_some, if_true, reduceIte, or_true, true_or, and_true, true_and, Bool.not_true, Bool.not_false, decide_true, decide_false, if_false, Bool.false_eq_true, List.replicate, Int.reduceLT, Int.reduceLE, Int.reduceEq, Int.reduceNe, Int.reduceNeg, Int.reducePow, Int.reduceSub, Nat.reduceLeDiff, Nat.reduceAdd, Nat.reduceSub, Nat.reduceLT, Nat.reduceEqDiff, Nat.reducePow, eq_self, false_and, and_false, false_or, or_false, not_true_eq_false, not_false_eq_true, isi_non_tuple, isi_non_int, isi_non_str, isi_non_bool, isi_non_list, isi_bl_tuple, isi_bl_int, isi_bl_str, isi_bl_bool, isi_bl_list, isi_int_tuple, isi_int_int, isi_int_str, isi_int_bool, isi_int_list, isi_str_tuple, isi_str_int, isi_str_str, isi_str_bool, isi_str_list, isi_tup_tuple, isi_tup_int, isi_tup_str, isi_tup_bool, isi_tup_list, isi_lst_tuple, isi_lst_int, isi_lst_str, isi_lst_bool, isi_lst_list, Int.cast_ofNat_Int, Int.natCast_one, Int.natCast_zero, d]) b1 i1
  have hl : cs.length = (1 + k).toNat := by rw [← List.length_map (f := (·.1)), m2, List.length_range]
  obtain ⟨n', b3, d3, l3, u3, i3⟩ := draw_ex i2 (many := most) (by omega) (by omega)
  obtain ⟨n, hn⟩ : ∃ n : Int, n = 1 + n' := ⟨_, rfl⟩
  let hd : List PV.Slot := [.va (.box 0), .va (.int most), .va (.int top), .va (.tup (cs.map fun z => encC z.2)), .va (.int n)]
  have hb : (-4611686018427387904 ≤ n ∧ n < 4611686018427387904) := by omega
  have hnn : ((n.toNat : Nat) : Int) = n := by omega
  have inner : ∀ (d i : Nat) (cap : Nat) e b, d < 4 → (i : Int) < n → cap ≤ 1000 → WkI rest (hd) n cap (d, i, 0, 0) e b → (∃ ws s8, e = hd ++ [PV.Slot.ow ws, .va (.int (d : Nat)), .va (.int (i : Nat)), s8, .un]) →
      ∃ e2 b2, forL (gNm 8) fB8 ((List.range n.toNat).map fun k => P.int (k : Nat)) e b = .nx e2 b2 ∧ WkI rest hd n (cap + 8) (d, i + 1, 0, 0) e2 b2 ∧ ∃ ws s8, e2 = hd ++ [PV.Slot.ow ws, .va (.int (d : Nat)), .va (.int (i : Nat)), s8, .un] := by
    intro d i cap e b hd4 hin hcap iv sh
    obtain ⟨e2, b2, q1, q2, q3⟩ := for_exP (f := fB8) (gf := gNm 8) (fun k : Nat => P.int (k : Nat)) (fun pre e b => WkI rest hd n (cap + pre.length) (d, i, pre.length, 0) e b ∧ ∃ ws s8, e = hd ++ [PV.Slot.ow ws, .va (.int (d : Nat)), .va (.int (i : Nat)), s8, .un])
      (as := List.range n.toNat) (done := []) (fun pre a e b hp iv => by
        obtain ⟨post, hp⟩ := hp
        obtain ⟨ea, an⟩ := range_split hp
        obtain ⟨⟨ws, s6, s7, s8, rfl, pi, wl, wg, wu, wb⟩, ws', s8', he⟩ := iv
        simp only [hd, List.cons_append, List.nil_append, List.cons.injEq, true_and, PV.Slot.ow.injEq, and_true] at he
        obtain ⟨he1, rfl, rfl, he4⟩ := he
        have wb' : ∀ w, w ∈ ws → kLt w (d, i, (pre.length + 1 : Nat), 0) := fun w hw => by
          have := wb w hw
          unfold kLt at this ⊢
          simp only at this ⊢
          omega
        have keep : ∀ b', PoolI rest b' → WkI rest hd n (cap + (pre ++ [a]).length) (d, i, (pre ++ [a]).length, 0) (hd ++ [PV.Slot.ow (ws.map encK), .va (.int (d : Nat)), .va (.int (i : Nat)), .va (.int (a : Nat)), .un]) b' := fun b' p' =>
          ⟨ws, _, _, _, rfl, p', by simp only [List.length_append, List.length_cons, List.length_nil]; omega, wg, wu, by simpa using wb'⟩
        by_cases hia : (i : Int) = (a : Int)
        · refine ⟨_, hd ++ [PV.Slot.ow (ws.map encK), .va (.int (d : Nat)), .va (.int (i : Nat)), .va (.int (a : Nat)), .un], b, rfl, .inl ?_, keep b pi, _, _, rfl⟩
          simp only [hd, List.cons_append, List.nil_append]
          simp -implicitDefEqProofs only [q_var, q_va, q_c, q_op2, q_2a, q_2b, q_op1, q_isi, q_call, q_oCall, q_oSort, q_1, q_fn, q_f, q_nil, q_cons, q_ca, q_cb, q_tup, q_tu, q_oLst, q_ol, q_and, q_andT, q_andF, q_or, q_orT, q_orF, q_if, q_ifT, q_ifF, q_tVal, q_tv, q_tAnd, q_taT, q_taF, q_tOr, q_toT, q_toF, q_tNot, q_tn, q_yes, q_frz, q_fz, q_box, q_bx, q_chain, q_c1, q_c2, q_c2T, q_c2F, q_c3, q_met1, q_m1, q_m2, q_sl, q_s1, q_s2, q_s3, q_qN, q_qS, q_qs, q_fld, q_fl, q_lk, q_meth, q_mc, q_mc2, q_md, q_make, q_mk, q_jsN, q_jsC, q_js, q_iAny, q_itL, q_itT, q_itS, q_iRg1, q_rg1, q_iRg2, q_rg2, q_rg3, q_comp, q_cm, q_noEx, q_w0, q_w1, q_seq, q_sqN, q_sqR, q_sqC, q_sqB, q_skip, q_cont, q_break, q_retN, q_set, q_st, q_setO, q_so, q_ret, q_rt, q_expr, q_ex, q_sIf, q_siT, q_siF, q_asg, q_as, q_ofE, q_append, q_ap0, q_ap, q_extend, q_xt0, q_xt, q_for, q_fo, q_boxSet, q_b1, q_b2, q_b3, q_bC, q_bB, q_fldSet, q_fs1, q_fs2, q_fsC, q_sFrz, q_tryNo, q_trN, q_trR, q_trC, q_trB, q_gTp, q_gNm, q_def, q_dN, q_dR, q_add, q_addS, q_addT, q_addL, q_sub, q_mul, q_mod, q_div, q_neg, q_le, q_ge, q_gt, q_lt, q_eq, q_ne, q_eqS, q_neS, q_ixT, q_ixL, q_ixB, q_lenT, q_lenL, q_int, q_tupleL, q_tupleT, q_cellL, q_cellLs, q_not, ofO_some, atI0, atI1, atI2, atI3, atI4, frzE, gAll, List.getElem?_cons_zero, List.getElem?_cons_succ, List.set_cons_zero, List.set_cons_succ, List.map_cons, List.map_nil, List.cons_append, List.nil_append, List.append_nil, List.length_cons, List.length_nil, Option.bind_some, Option.map_some, if_true, reduceIte, or_true, true_or, and_true, true_and, Bool.not_true, Bool.not_false, decide_true, decide_false, if_false, Bool.false_eq_true, List.replicate, Int.reduceLT, Int.reduceLE, Int.reduceEq, Int.reduceNe, Int.reduceNeg, Int.reducePow, Int.reduceSub, Nat.reduceLeDiff, Nat.reduceAdd, Nat.reduceSub, Nat.reduceLT, Nat.reduceEqDiff, Nat.reducePow, eq_self, false_and, and_false, false_or, or_false, not_true_eq_false, not_false_eq_true, isi_non_tuple, isi_non_int, isi_non_str, isi_non_bool, isi_non_list, isi_bl_tuple, isi_bl_int, isi_bl_str, isi_bl_bool, isi_bl_list, isi_int_tuple, isi_int_int, isi_int_str, isi_int_bool, isi_int_list, isi_str_tuple, isi_str_int, isi_str_str, isi_str_bool, isi_str_list, isi_tup_tuple, isi_tup_int, isi_tup_str, isi_tup_bool, isi_tup_list, isi_lst_tuple, isi_lst_int, isi_lst_str, isi_lst_bool, isi_lst_list, Int.cast_ofNat_Int, Int.natCast_one, Int.natCast_zero, hia]
        · obtain ⟨r, b1, dr, lr, ur, ir⟩ := draw_ex pi (many := 3) (by omega) (by omega)
          by_cases hr : r = 0
          · obtain ⟨t, b2, dt, lt, ut, it⟩ := draw_ex ir (many := 2) (by omega) (by omega)
            obtain ⟨c, hc, hc1, hc2⟩ : ∃ c : Int, atI [P.int 30, P.int 100] t = some (.int c) ∧ 0 < c ∧ c ≤ 100 := by
              by_cases ht : t = 0
              · exact ⟨30, by rw [ht]; exact atI0 _ _, by omega, by omega⟩
              · have : t = 1 := by omega
                exact ⟨100, by rw [this]; exact atI1 _ _ _, by omega, by omega⟩
            obtain ⟨p, b3, dp, lp, up, ip⟩ := draw_ex it (many := c) (by omega) (by omega)
            refine ⟨_, hd ++ [PV.Slot.ow ((ws ++ [((d : Int), (i : Int), (a : Int), 1 + p)]).map encK), .va (.int (d : Nat)), .va (.int (i : Nat)), .va (.int (a : Nat)), .un], b3, rfl, .inl ?_, ⟨ws ++ [((d : Int), (i : Int), (a : Int), 1 + p)], _, _, _, rfl, ip, ?_, ?_, ?_, ?_⟩, _, _, rfl⟩
            · have hw : ws.length < 1000000 := by have : pre.length ≤ n.toNat := by omega
                                                  omega
              simp only [hd, List.cons_append, List.nil_append]
              simp -implicitDefEqProofs only [q_var, q_va, q_c, q_op2, q_2a, q_2b, q_op1, q_isi, q_call, q_oCall, q_oSort, q_1, q_fn, q_f, q_nil, q_cons, q_ca, q_cb, q_tup, q_tu, q_oLst, q_ol, q_and, q_andT, q_andF, q_or, q_orT, q_orF, q_if, q_ifT, q_ifF, q_tVal, q_tv, q_tAnd, q_taT, q_taF, q_tOr, q_toT, q_toF, q_tNot, q_tn, q_yes, q_frz, q_fz, q_box, q_bx, q_chain, q_c1, q_c2, q_c2T, q_c2F, q_c3, q_met1, q_m1, q_m2, q_sl, q_s1, q_s2, q_s3, q_qN, q_qS, q_qs, q_fld, q_fl, q_lk, q_meth, q_mc, q_mc2, q_md, q_make, q_mk, q_jsN, q_jsC, q_js, q_iAny, q_itL, q_itT, q_itS, q_iRg1, q_rg1, q_iRg2, q_rg2, q_rg3, q_comp, q_cm, q_noEx, q_w0, q_w1, q_seq, q_sqN, q_sqR, q_sqC, q_sqB, q_skip, q_cont, q_break, q_retN, q_set, q_st, q_setO, q_so, q_ret, q_rt, q_expr, q_ex, q_sIf, q_siT, q_siF, q_asg, q_as, q_ofE, q_append, q_ap0, q_ap, q_extend, q_xt0, q_xt, q_for, q_fo, q_boxSet, q_b1, q_b2, q_b3, q_bC, q_bB, q_fldSet, q_fs1, q_fs2, q_fsC, q_sFrz, q_tryNo, q_trN, q_trR, q_trC, q_trB, q_gTp, q_gNm, q_def, q_dN, q_dR, q_add, q_addS, q_addT, q_addL, q_sub, q_mul, q_mod, q_div, q_neg, q_le, q_ge, q_gt, q_lt, q_eq, q_ne, q_eqS, q_neS, q_ixT, q_ixL, q_ixB, q_lenT, q_lenL, q_int, q_tupleL, q_tupleT, q_cellL, q_cellLs, q_not, ofO_some, atI0, atI1, atI2, atI3, atI4, frzE, gAll, List.getElem?_cons_zero, List.getElem?_cons_succ, List.set_cons_zero, List.set_cons_succ, List.map_cons, List.map_nil, List.cons_append, List.nil_append, List.append_nil, List.length_cons, List.length_nil, Option.bind_some, Option.map_some, if_true, reduceIte, or_true, true_or, and_true, true_and, Bool.not_true, Bool.not_false, decide_true, decide_false, if_false, Bool.false_eq_true, List.replicate, Int.reduceLT, Int.reduceLE, Int.reduceEq, Int.reduceNe, Int.reduceNeg, Int.reducePow, Int.reduceSub, Nat.reduceLeDiff, Nat.reduceAdd, Nat.reduceSub, Nat.reduceLT, Nat.reduceEqDiff, Nat.reducePow, eq_self, false_and, and_false, false_or, or_false, not_true_eq_false, not_false_eq_true, isi_non_tuple, isi_non_int, isi_non_str, isi_non_bool, isi_non_list, isi_bl_tuple, isi_bl_int, isi_bl_str, isi_bl_bool, isi_bl_list, isi_int_tuple, isi_int_int, isi_int_str, isi_int_bool, isi_int_list, isi_str_tuple, isi_str_int, isi_str_str, isi_str_bool, isi_str_list, isi_tup_tuple, isi_tup_int, isi_tup_str, isi_tup_bool, isi_tup_list, isi_lst_tuple, isi_lst_int, isi_lst_str, isi_lst_bool, isi_lst_list, Int.cast_ofNat_Int, Int.natCast_one, Int.natCast_zero, hia, dr, hr, dt, hc, dp, hw, List.length_map, List.map_append, encK]
            · simp only [List.length_append, List.length_cons, List.length_nil]; omega
            · intro w hw
              rcases List.mem_append.mp hw with hw | hw
              · exact wg w hw
              · cases List.mem_singleton.mp hw
                exact ⟨by simp only; omega, by simp only; omega, by simp only; omega, by simp only; omega, by simp only; omega, by simp only; omega, by simpa using hia, by simp only; omega, by simp only; omega⟩
            · rw [List.pairwise_append]
              refine ⟨wu, List.pairwise_singleton _ _, fun x hx y hy => ?_⟩
              cases List.mem_singleton.mp hy
              have := wb x hx
              unfold kLt at this ⊢
              simp only at this ⊢
              omega
            · intro w hw
              rcases List.mem_append.mp hw with hw | hw
              · simpa using wb' w hw
              · cases List.mem_singleton.mp hw
                exact .inr ⟨rfl, .inr ⟨rfl, by simp only [List.length_append, List.length_cons, List.length_nil]; omega⟩⟩
          · refine ⟨_, hd ++ [PV.Slot.ow (ws.map encK), .va (.int (d : Nat)), .va (.int (i : Nat)), .va (.int (a : Nat)), .un], b1, rfl, .inl ?_, keep b1 ir, _, _, rfl⟩
            simp only [hd, List.cons_append, List.nil_append]
            simp -implicitDefEqProofs only [q_var, q_va, q_c, q_op2, q_2a, q_2b, q_op1, q_isi, q_call, q_oCall, q_oSort, q_1, q_fn, q_f, q_nil, q_cons, q_ca, q_cb, q_tup, q_tu, q_oLst, q_ol, q_and, q_andT, q_andF, q_or, q_orT, q_orF, q_if, q_ifT, q_ifF, q_tVal, q_tv, q_tAnd, q_taT, q_taF, q_tOr, q_toT, q_toF, q_tNot, q_tn, q_yes, q_frz, q_fz, q_box, q_bx, q_chain, q_c1, q_c2, q_c2T, q_c2F, q_c3, q_met1, q_m1, q_m2, q_sl, q_s1, q_s2, q_s3, q_qN, q_qS, q_qs, q_fld, q_fl, q_lk, q_meth, q_mc, q_mc2, q_md, q_make, q_mk, q_jsN, q_jsC, q_js, q_iAny, q_itL, q_itT, q_itS, q_iRg1, q_rg1, q_iRg2, q_rg2, q_rg3, q_comp, q_cm, q_noEx, q_w0, q_w1, q_seq, q_sqN, q_sqR, q_sqC, q_sqB, q_skip, q_cont, q_break, q_retN, q_set, q_st, q_setO, q_so, q_ret, q_rt, q_expr, q_ex, q_sIf, q_siT, q_siF, q_asg, q_as, q_ofE, q_append, q_ap0, q_ap, q_extend, q_xt0, q_xt, q_for, q_fo, q_boxSet, q_b1, q_b2, q_b3, q_bC, q_bB, q_fldSet, q_fs1, q_fs2, q_fsC, q_sFrz, q_tryNo, q_trN, q_trR, q_trC, q_trB, q_gTp, q_gNm, q_def, q_dN, q_dR, q_add, q_addS, q_addT, q_addL, q_sub, q_mul, q_mod, q_div, q_neg, q_le, q_ge, q_gt, q_lt, q_eq, q_ne, q_eqS, q_neS, q_ixT, q_ixL, q_ixB, q_lenT, q_lenL, q_int, q_tupleL, q_tupleT, q_cellL, q_cellLs, q_not, ofO_some, atI0, atI1, atI2, atI3, atI4, frzE, gAll, List.getElem?_cons_zero, List.getElem?_cons_succ, List.set_cons_zero, List.set_cons_succ, List.map_cons, List.map_nil, List.cons_append, List.nil_append, List.append_nil, List.length_cons, List.length_nil, Option.bind_some, Option.map_some, if_true, reduceIte, or_true, true_or, and_true, true_and, Bool.not_true, Bool.not_false, decide_true, decide_false, if_false, Bool.false_eq_true, List.replicate, Int.reduceLT, Int.reduceLE, Int.reduceEq, Int.reduceNe, Int.reduceNeg, Int.reducePow, Int.reduceSub, Nat.reduceLeDiff, Nat.reduceAdd, Nat.reduceSub, Nat.reduceLT, Nat.reduceEqDiff, Nat.reducePow, eq_self, false_and, and_false, false_or, or_false, not_true_eq_false, not_false_eq_true, isi_non_tuple, isi_non_int, isi_non_str, isi_non_bool, isi_non_list, isi_bl_tuple, isi_bl_int, isi_bl_str, isi_bl_bool, isi_bl_list, isi_int_tuple, isi_int_int, isi_int_str, isi_int_bool, isi_int_list, isi_str_tuple, isi_str_int, isi_str_str, isi_str_bool, isi_str_list, isi_tup_tuple, isi_tup_int, isi_tup_str, isi_tup_bool, isi_tup_list, isi_lst_tuple, isi_lst_int, isi_lst_str, isi_lst_bool, isi_lst_list, Int.cast_ofNat_Int, Int.natCast_one, Int.natCast_zero, hia, dr, hr]) e b ⟨by simpa using iv, sh⟩
    refine ⟨e2, b2, q1, ?_, q3⟩
    obtain ⟨ws, s6, s7, s8, he, pi, wl, wg, wu, wb⟩ := q2
    refine ⟨ws, s6, s7, s8, he, pi, ?_, wg, wu, fun w hw => ?_⟩
    · simp only [List.nil_append, List.length_range] at wl; omega
    · have := wb w hw
      unfold kLt at this ⊢
      simp only at this ⊢
      omega
  have mid : ∀ (d cap : Nat) e b, d < 4 → cap ≤ 800 → WkI rest (hd) n cap (d, 0, 0, 0) e b → (∃ ws s7 s8, e = hd ++ [PV.Slot.ow ws, .va (.int (d : Nat)), s7, s8, .un]) →
      ∃ e2 b2, forL (gNm 7) (sFor (iRg1 (eVar 4)) (gNm 8) fB8) ((List.range n.toNat).map fun k => P.int (k : Nat)) e b = .nx e2 b2 ∧ WkI rest hd n (cap + 64) (d + 1, 0, 0, 0) e2 b2 ∧ ∃ ws s7 s8, e2 = hd ++ [PV.Slot.ow ws, .va (.int (d : Nat)), s7, s8, .un] := by
    intro d cap e b hd4 hcap iv sh
    obtain ⟨e2, b2, q1, q2, q3⟩ := for_exP (f := sFor (iRg1 (eVar 4)) (gNm 8) fB8) (gf := gNm 7) (fun k : Nat => P.int (k : Nat)) (fun pre e b => WkI rest hd n (cap + 8 * pre.length) (d, pre.length, 0, 0) e b ∧ ∃ ws s7 s8, e = hd ++ [PV.Slot.ow ws, .va (.int (d : Nat)), s7, s8, .un])
      (as := List.range n.toNat) (done := []) (fun pre a e b hp iv => by
        obtain ⟨post, hp⟩ := hp
        obtain ⟨ea, an⟩ := range_split hp
        obtain ⟨⟨ws, s6, s7, s8, rfl, pi, wl, wg, wu, wb⟩, ws', s7', s8', he⟩ := iv
        simp only [hd, List.cons_append, List.nil_append, List.cons.injEq, true_and, PV.Slot.ow.injEq, and_true] at he
        obtain ⟨he1, rfl, he3, he4⟩ := he
        obtain ⟨e2, b2, q1, q2, ws2, s82, q3⟩ := inner d a (cap + 8 * pre.length) (hd ++ [PV.Slot.ow (ws.map encK), .va (.int (d : Nat)), .va (.int (a : Nat)), s8, .un]) b hd4 (by omega) (by omega) ⟨ws, _, _, _, rfl, pi, wl, wg, wu, fun w hw => by rw [ea]; exact wb w hw⟩ ⟨_, _, rfl⟩
        refine ⟨_, e2, b2, rfl, .inl ?_, ⟨?_, _, _, _, q3⟩⟩
        · simp only [hd, List.cons_append, List.nil_append] at q1 ⊢
          simp -implicitDefEqProofs only [q_var, q_va, q_c, q_op2, q_2a, q_2b, q_op1, q_isi, q_call, q_oCall, q_oSort, q_1, q_fn, q_f, q_nil, q_cons, q_ca, q_cb, q_tup, q_tu, q_oLst, q_ol, q_and, q_andT, q_andF, q_or, q_orT, q_orF, q_if, q_ifT, q_ifF, q_tVal, q_tv, q_tAnd, q_taT, q_taF, q_tOr, q_toT, q_toF, q_tNot, q_tn, q_yes, q_frz, q_fz, q_box, q_bx, q_chain, q_c1, q_c2, q_c2T, q_c2F, q_c3, q_met1, q_m1, q_m2, q_sl, q_s1, q_s2, q_s3, q_qN, q_qS, q_qs, q_fld, q_fl, q_lk, q_meth, q_mc, q_mc2, q_md, q_make, q_mk, q_jsN, q_jsC, q_js, q_iAny, q_itL, q_itT, q_itS, q_iRg1, q_rg1, q_iRg2, q_rg2, q_rg3, q_comp, q_cm, q_noEx, q_w0, q_w1, q_seq, q_sqN, q_sqR, q_sqC, q_sqB, q_skip, q_cont, q_break, q_retN, q_set, q_st, q_setO, q_so, q_ret, q_rt, q_expr, q_ex, q_sIf, q_siT, q_siF, q_asg, q_as, q_ofE, q_append, q_ap0, q_ap, q_extend, q_xt0, q_xt, q_for, q_fo, q_boxSet, q_b1, q_b2, q_b3, q_bC, q_bB, q_fldSet, q_fs1, q_fs2, q_fsC, q_sFrz, q_tryNo, q_trN, q_trR, q_trC, q_trB, q_gTp, q_gNm, q_def, q_dN, q_dR, q_add, q_addS, q_addT, q_addL, q_sub, q_mul, q_mod, q_div, q_neg, q_le, q_ge, q_gt, q_lt, q_eq, q_ne, q_eqS, q_neS, q_ixT, q_ixL, q_ixB, q_lenT, q_lenL, q_int, q_tupleL, q_tupleT, q_cellL, q_cellLs, q_not, ofO_some, atI0, atI1, atI2, atI3, atI4, frzE, gAll, List.getElem?_cons_zero, List.getElem?_cons_succ, List.set_cons_zero, List.set_cons_succ, List.map_cons, List.map_nil, List.cons_append, List.nil_append, List.append_nil, List.length_cons, List.length_nil, Option.bind_some, Option.map_some, if_true, reduceIte, or_true, true_or, and_true, true_and, Bool.not_true, Bool.not_false, decide_true, decide_false, if_false, Bool.false_eq_true, List.replicate, Int.reduceLT, Int.reduceLE, Int.reduceEq, Int.reduceNe, Int.reduceNeg, Int.reducePow, Int.reduceSub, Nat.reduceLeDiff, Nat.reduceAdd, Nat.reduceSub, Nat.reduceLT, Nat.reduceEqDiff, Nat.reducePow, eq_self, false_and, and_false, false_or, or_false, not_true_eq_false, not_false_eq_true, isi_non_tuple, isi_non_int, isi_non_str, isi_non_bool, isi_non_list, isi_bl_tuple, isi_bl_int, isi_bl_str, isi_bl_bool, isi_bl_list, isi_int_tuple, isi_int_int, isi_int_str, isi_int_bool, isi_int_list, isi_str_tuple, isi_str_int, isi_str_str, isi_str_bool, isi_str_list, isi_tup_tuple, isi_tup_int, isi_tup_str, isi_tup_bool, isi_tup_list, isi_lst_tuple, isi_lst_int, isi_lst_str, isi_lst_bool, isi_lst_list, Int.cast_ofNat_Int, Int.natCast_one, Int.natCast_zero, hb, rangeP_map, q1]
        · obtain ⟨ws, s6, s7, s8, he, pi, wl, wg, wu, wb⟩ := q2
          refine ⟨ws, s6, s7, s8, he, pi, by simp only [List.length_append, List.length_cons, List.length_nil]; omega, wg, wu, fun w hw => ?_⟩
          have := wb w hw
          rw [ea] at this
          simpa using this) e b ⟨by simpa using iv, sh⟩
    refine ⟨e2, b2, q1, ?_, q3⟩
    obtain ⟨ws, s6, s7, s8, he, pi, wl, wg, wu, wb⟩ := q2
    refine ⟨ws, s6, s7, s8, he, pi, ?_, wg, wu, fun w hw => ?_⟩
    · simp only [List.nil_append, List.length_range] at wl; omega
    · have := wb w hw
      unfold kLt at this ⊢
      simp only at this ⊢
      omega
  obtain ⟨e4, b4, q1, ⟨ws, s6, s7, s8, he, pi, wl, wg, wu, wb⟩⟩ := for_exP (f := sFor (iRg1 (eVar 4)) (gNm 7) (sFor (iRg1 (eVar 4)) (gNm 8) fB8)) (gf := gNm 6) (fun k : Nat => P.int (k : Nat)) (fun pre e b => WkI rest hd n (64 * pre.length) (pre.length, 0, 0, 0) e b)
      (as := List.range 4) (done := []) (fun pre a e b hp iv => by
        obtain ⟨post, hp⟩ := hp
        obtain ⟨ea, an⟩ := range_split hp
        obtain ⟨ws, s6, s7, s8, rfl, pi, wl, wg, wu, wb⟩ := iv
        obtain ⟨e2, b2, q1, q2, ws2, s72, s82, q3⟩ := mid a (64 * pre.length) (hd ++ [PV.Slot.ow (ws.map encK), .va (.int (a : Nat)), s7, s8, .un]) b an (by omega) ⟨ws, _, _, _, rfl, pi, wl, wg, wu, fun w hw => by rw [ea]; exact wb w hw⟩ ⟨_, _, _, rfl⟩
        refine ⟨_, e2, b2, rfl, .inl ?_, ?_⟩
        · simp only [hd, List.cons_append, List.nil_append] at q1 ⊢
          simp -implicitDefEqProofs only [q_var, q_va, q_c, q_op2, q_2a, q_2b, q_op1, q_isi, q_call, q_oCall, q_oSort, q_1, q_fn, q_f, q_nil, q_cons, q_ca, q_cb, q_tup, q_tu, q_oLst, q_ol, q_and, q_andT, q_andF, q_or, q_orT, q_orF, q_if, q_ifT, q_ifF, q_tVal, q_tv, q_tAnd, q_taT, q_taF, q_tOr, q_toT, q_toF, q_tNot, q_tn, q_yes, q_frz, q_fz, q_box, q_bx, q_chain, q_c1, q_c2, q_c2T, q_c2F, q_c3, q_met1, q_m1, q_m2, q_sl, q_s1, q_s2, q_s3, q_qN, q_qS, q_qs, q_fld, q_fl, q_lk, q_meth, q_mc, q_mc2, q_md, q_make, q_mk, q_jsN, q_jsC, q_js, q_iAny, q_itL, q_itT, q_itS, q_iRg1, q_rg1, q_iRg2, q_rg2, q_rg3, q_comp, q_cm, q_noEx, q_w0, q_w1, q_seq, q_sqN, q_sqR, q_sqC, q_sqB, q_skip, q_cont, q_break, q_retN, q_set, q_st, q_setO, q_so, q_ret, q_rt, q_expr, q_ex, q_sIf, q_siT, q_siF, q_asg, q_as, q_ofE, q_append, q_ap0, q_ap, q_extend, q_xt0, q_xt, q_for, q_fo, q_boxSet, q_b1, q_b2, q_b3, q_bC, q_bB, q_fldSet, q_fs1, q_fs2, q_fsC, q_sFrz, q_tryNo, q_trN, q_trR, q_trC, q_trB, q_gTp, q_gNm, q_def, q_dN, q_dR, q_add, q_addS, q_addT, q_addL, q_sub, q_mul, q_mod, q_div, q_neg, q_le, q_ge, q_gt, q_lt, q_eq, q_ne, q_eqS, q_neS, q_ixT, q_ixL, q_ixB, q_lenT, q_lenL, q_int, q_tupleL, q_tupleT, q_cellL, q_cellLs, q_not, ofO_some, atI0, atI1, atI2, atI3, atI4, frzE, gAll, List.getElem?_cons_zero, List.getElem?_cons_succ, List.set_cons_zero, List.set_cons_succ, List.map_cons, List.map_nil, List.cons_append, List.nil_append, List.append_nil, List.length_cons, List.length_nil, Option.bind_some, Option.map_some, if_true, reduceIte, or_true, true_or, and_true, true_and, Bool.not_true, Bool.not_false, decide_true, decide_false, if_false, Bool.false_eq_true, List.replicate, Int.reduceLT, Int.reduceLE, Int.reduceEq, Int.reduceNe, Int.reduceNeg, Int.reducePow, Int.reduceSub, Nat.reduceLeDiff, Nat.reduceAdd, Nat.reduceSub, Nat.reduceLT, Nat.reduceEqDiff, Nat.reducePow, eq_self, false_and, and_false, false_or, or_false, not_true_eq_false, not_false_eq_true, isi_non_tuple, isi_non_int, isi_non_str, isi_non_bool, isi_non_list, isi_bl_tuple, isi_bl_int, isi_bl_str, isi_bl_bool, isi_bl_list, isi_int_tuple, isi_int_int, isi_int_str, isi_int_bool, isi_int_list, isi_str_tuple, isi_str_int, isi_str_str, isi_str_bool, isi_str_list, isi_tup_tuple, isi_tup_int, isi_tup_str, isi_tup_bool, isi_tup_list, isi_lst_tuple, isi_lst_int, isi_lst_str, isi_lst_bool, isi_lst_list, Int.cast_ofNat_Int, Int.natCast_one, Int.natCast_zero, hb, rangeP_map, q1]
        · obtain ⟨ws, s6, s7, s8, he, pi, wl, wg, wu, wb⟩ := q2
          refine ⟨ws, s6, s7, s8, he, pi, by simp only [List.length_append, List.length_cons, List.length_nil]; omega, wg, wu, fun w hw => ?_⟩
          have := wb w hw
          rw [ea] at this
          simpa using this) (hd ++ [PV.Slot.ow [], .un, .un, .un, .un]) b3 ⟨[], _, _, _, rfl, i3, Nat.zero_le _, (fun w hw => nomatch hw), List.Pairwise.nil, (fun w hw => nomatch hw)⟩
  obtain ⟨ms, b5, m5, g5, c5, i5⟩ := comp_ex (gf := gNm 9) (ft := tYesF) (fe := eFn d_law_draw (aCons (eVar 0) (aCons (eCall lenP (aCons (eVar 3) aNil)) aNil))) (env0 := hd ++ [.va (.lst (ws.map encK)), s6, s7, s8, .un])
    (fun k : Nat => P.int (k : Nat)) (fun _ c => P.int c) (fun _ c => 0 ≤ c ∧ c < cs.length) (PoolI rest) (as := List.range n.toNat) (fun a _ b i => by
      obtain ⟨c, b', d, g1, g2, i'⟩ := draw_ex i (many := (cs.length : Nat)) (by omega) (by omega)
      refine ⟨_, c, b', rfl, rfl, ?_, ⟨g1, g2⟩, i'⟩
      simp only [hd, List.cons_append, List.nil_append]
      simp -implicitDefEqProofs only [q_var, q_va, q_c, q_op2, q_2a, q_2b, q_op1, q_isi, q_call, q_oCall, q_oSort, q_1, q_fn, q_f, q_nil, q_cons, q_ca, q_cb, q_tup, q_tu, q_oLst, q_ol, q_and, q_andT, q_andF, q_or, q_orT, q_orF, q_if, q_ifT, q_ifF, q_tVal, q_tv, q_tAnd, q_taT, q_taF, q_tOr, q_toT, q_toF, q_tNot, q_tn, q_yes, q_frz, q_fz, q_box, q_bx, q_chain, q_c1, q_c2, q_c2T, q_c2F, q_c3, q_met1, q_m1, q_m2, q_sl, q_s1, q_s2, q_s3, q_qN, q_qS, q_qs, q_fld, q_fl, q_lk, q_meth, q_mc, q_mc2, q_md, q_make, q_mk, q_jsN, q_jsC, q_js, q_iAny, q_itL, q_itT, q_itS, q_iRg1, q_rg1, q_iRg2, q_rg2, q_rg3, q_comp, q_cm, q_noEx, q_w0, q_w1, q_seq, q_sqN, q_sqR, q_sqC, q_sqB, q_skip, q_cont, q_break, q_retN, q_set, q_st, q_setO, q_so, q_ret, q_rt, q_expr, q_ex, q_sIf, q_siT, q_siF, q_asg, q_as, q_ofE, q_append, q_ap0, q_ap, q_extend, q_xt0, q_xt, q_for, q_fo, q_boxSet, q_b1, q_b2, q_b3, q_bC, q_bB, q_fldSet, q_fs1, q_fs2, q_fsC, q_sFrz, q_tryNo, q_trN, q_trR, q_trC, q_trB, q_gTp, q_gNm, q_def, q_dN, q_dR, q_add, q_addS, q_addT, q_addL, q_sub, q_mul, q_mod, q_div, q_neg, q_le, q_ge, q_gt, q_lt, q_eq, q_ne, q_eqS, q_neS, q_ixT, q_ixL, q_ixB, q_lenT, q_lenL, q_int, q_tupleL, q_tupleT, q_cellL, q_cellLs, q_not, ofO_some, atI0, atI1, atI2, atI3, atI4, frzE, gAll, List.getElem?_cons_zero, List.getElem?_cons_succ, List.set_cons_zero, List.set_cons_succ, List.map_cons, List.map_nil, List.cons_append, List.nil_append, List.append_nil, List.length_cons, List.length_nil, Option.bind_some, Option.map_some, if_true, reduceIte, or_true, true_or, and_true, true_and, Bool.not_true, Bool.not_false, decide_true, decide_false, if_false, Bool.false_eq_true, List.replicate, Int.reduceLT, Int.reduceLE, Int.reduceEq, Int.reduceNe, Int.reduceNeg, Int.reducePow, Int.reduceSub, Nat.reduceLeDiff, Nat.reduceAdd, Nat.reduceSub, Nat.reduceLT, Nat.reduceEqDiff, Nat.reducePow, eq_self, false_and, and_false, false_or, or_false, not_true_eq_false, not_false_eq_true, isi_non_tuple, isi_non_int, isi_non_str, isi_non_bool, isi_non_list, isi_bl_tuple, isi_bl_int, isi_bl_str, isi_bl_bool, isi_bl_list, isi_int_tuple, isi_int_int, isi_int_str, isi_int_bool, isi_int_list, isi_str_tuple, isi_str_int, isi_str_str, isi_str_bool, isi_str_list, isi_tup_tuple, isi_tup_int, isi_tup_str, isi_tup_bool, isi_tup_list, isi_lst_tuple, isi_lst_int, isi_lst_str, isi_lst_bool, isi_lst_list, Int.cast_ofNat_Int, Int.natCast_one, Int.natCast_zero, List.length_map, d]) b4 pi
  have hml : ms.length = n.toNat := by rw [← List.length_map (f := (·.1)), m5, List.length_range]
  refine ⟨⟨cs.map (·.2), ms.map (·.2), ws⟩, b5, ?_, ⟨?_, ?_, ?_, ?_, ?_, ?_, ?_, wu, ?_⟩, i5⟩
  · subst he
    simp only [hd, List.cons_append, List.nil_append] at q1 c5
    have hb1 : (-4611686018427387904 ≤ 1 + k ∧ 1 + k < 4611686018427387904) := by omega
    have hm6 : (1 + k).toNat < 1000000 := by omega
    have hm7 : n.toNat < 1000000 := by omega
    have r4 : rangeP 0 4 = (List.range 4).map fun k => P.int (k : Nat) := rfl
    unfold d_law_farm b_law_farm encF
    rw [hn] at q1 c5 hb hm7
    simp -implicitDefEqProofs only [q_var, q_va, q_c, q_op2, q_2a, q_2b, q_op1, q_isi, q_call, q_oCall, q_oSort, q_1, q_fn, q_f, q_nil, q_cons, q_ca, q_cb, q_tup, q_tu, q_oLst, q_ol, q_and, q_andT, q_andF, q_or, q_orT, q_orF, q_if, q_ifT, q_ifF, q_tVal, q_tv, q_tAnd, q_taT, q_taF, q_tOr, q_toT, q_toF, q_tNot, q_tn, q_yes, q_frz, q_fz, q_box, q_bx, q_chain, q_c1, q_c2, q_c2T, q_c2F, q_c3, q_met1, q_m1, q_m2, q_sl, q_s1, q_s2, q_s3, q_qN, q_qS, q_qs, q_fld, q_fl, q_lk, q_meth, q_mc, q_mc2, q_md, q_make, q_mk, q_jsN, q_jsC, q_js, q_iAny, q_itL, q_itT, q_itS, q_iRg1, q_rg1, q_iRg2, q_rg2, q_rg3, q_comp, q_cm, q_noEx, q_w0, q_w1, q_seq, q_sqN, q_sqR, q_sqC, q_sqB, q_skip, q_cont, q_break, q_retN, q_set, q_st, q_setO, q_so, q_ret, q_rt, q_expr, q_ex, q_sIf, q_siT, q_siF, q_asg, q_as, q_ofE, q_append, q_ap0, q_ap, q_extend, q_xt0, q_xt, q_for, q_fo, q_boxSet, q_b1, q_b2, q_b3, q_bC, q_bB, q_fldSet, q_fs1, q_fs2, q_fsC, q_sFrz, q_tryNo, q_trN, q_trR, q_trC, q_trB, q_gTp, q_gNm, q_def, q_dN, q_dR, q_add, q_addS, q_addT, q_addL, q_sub, q_mul, q_mod, q_div, q_neg, q_le, q_ge, q_gt, q_lt, q_eq, q_ne, q_eqS, q_neS, q_ixT, q_ixL, q_ixB, q_lenT, q_lenL, q_int, q_tupleL, q_tupleT, q_cellL, q_cellLs, q_not, ofO_some, atI0, atI1, atI2, atI3, atI4, frzE, gAll, List.getElem?_cons_zero, List.getElem?_cons_succ, List.set_cons_zero, List.set_cons_succ, List.map_cons, List.map_nil, List.cons_append, List.nil_append, List.append_nil, List.length_cons, List.length_nil, Option.bind_some, Option.map_some, if_true, reduceIte, or_true, true_or, and_true, true_and, Bool.not_true, Bool.not_false, decide_true, decide_false, if_false, Bool.false_eq_true, List.replicate, Int.reduceLT, Int.reduceLE, Int.reduceEq, Int.reduceNe, Int.reduceNeg, Int.reducePow, Int.reduceSub, Nat.reduceLeDiff, Nat.reduceAdd, Nat.reduceSub, Nat.reduceLT, Nat.reduceEqDiff, Nat.reducePow, eq_self, false_and, and_false, false_or, or_false, not_true_eq_false, not_false_eq_true, isi_non_tuple, isi_non_int, isi_non_str, isi_non_bool, isi_non_list, isi_bl_tuple, isi_bl_int, isi_bl_str, isi_bl_bool, isi_bl_list, isi_int_tuple, isi_int_int, isi_int_str, isi_int_bool, isi_int_list, isi_str_tuple, isi_str_int, isi_str_str, isi_str_bool, isi_str_list, isi_tup_tuple, isi_tup_int, isi_tup_str, isi_tup_bool, isi_tup_list, isi_lst_tuple, isi_lst_int, isi_lst_str, isi_lst_bool, isi_lst_list, Int.cast_ofNat_Int, Int.natCast_one, Int.natCast_zero, d1, hb1, rangeP_map (1 + k), rangeP_map (1 + n'), List.length_map, List.length_range, hm6, c2, d3, r4, q1, hb, hm7, c5, List.map_map, Function.comp_def]
  · simp only [List.length_map]; omega
  · simp only [List.length_map]; omega
  · intro c hc
    obtain ⟨z, hz, rfl⟩ := List.mem_map.mp hc
    exact g2 z hz
  · simp only [List.length_map]; omega
  · simp only [List.length_map]; omega
  · intro m hm
    obtain ⟨z, hz, rfl⟩ := List.mem_map.mp hm
    simpa using g5 z hz
  · intro w hw
    have : (((ms.map (·.2)).length : Nat) : Int) = n := by rw [List.length_map]; omega
    rw [this]
    exact wg w hw
  · simp only [List.nil_append, List.length_range] at wl; show ws.length ≤ 400; omega

/-! ### reading numbers -/
theorem read_number_eq {b : Bx} {i : Int} (h0 : 0 ≤ i) (h : i < 10 ^ 9) : d_read_number [.str (num i)] b = .ok (.int i) b := by
  have l1 := num_len_pos h0
  have l2 := num_len h0 h
  have hl : lenP b [.str (num i)] = some (.int (num i).length) := lenP_str (by omega)
  have a1 : (1 : Int) ≤ ((num i).length : Nat) := by omega
  have a2 : (((num i).length : Nat) : Int) ≤ 9 := by omega
  have hc : compL (gNm 1) tYesF (eOp2 inP (eVar 1) (eC c_DIGITS)) [.va (.str (num i)), .un] ((numL i.toNat).map fun c => P.str ⟨#[c]⟩) b = .ok ((numL i.toNat).map fun _ => .bl true) b :=
    comp_pl (fun c => P.str ⟨#[c]⟩) (fun _ => .bl true) fun a ha => ⟨[.va (.str (num i)), .va (.str ⟨#[a]⟩)], rfl, rfl, by
      have := numL_digits _ a ha
      have hd : inP b (.str ⟨#[a]⟩) c_DIGITS = some (.bl true) := inP_digit (by omega) (by omega)
      simp -implicitDefEqProofs only [q_var, q_va, q_c, q_op2, q_2a, q_2b, q_op1, q_isi, q_call, q_oCall, q_oSort, q_1, q_fn, q_f, q_nil, q_cons, q_ca, q_cb, q_tup, q_tu, q_oLst, q_ol, q_and, q_andT, q_andF, q_or, q_orT, q_orF, q_if, q_ifT, q_ifF, q_tVal, q_tv, q_tAnd, q_taT, q_taF, q_tOr, q_toT, q_toF, q_tNot, q_tn, q_yes, q_frz, q_fz, q_box, q_bx, q_chain, q_c1, q_c2, q_c2T, q_c2F, q_c3, q_met1, q_m1, q_m2, q_sl, q_s1, q_s2, q_s3, q_qN, q_qS, q_qs, q_fld, q_fl, q_lk, q_meth, q_mc, q_mc2, q_md, q_make, q_mk, q_jsN, q_jsC, q_js, q_iAny, q_itL, q_itT, q_itS, q_iRg1, q_rg1, q_iRg2, q_rg2, q_rg3, q_comp, q_cm, q_noEx, q_w0, q_w1, q_seq, q_sqN, q_sqR, q_sqC, q_sqB, q_skip, q_cont, q_break, q_retN, q_set, q_st, q_setO, q_so, q_ret, q_rt, q_expr, q_ex, q_sIf, q_siT, q_siF, q_asg, q_as, q_ofE, q_append, q_ap0, q_ap, q_extend, q_xt0, q_xt, q_for, q_fo, q_boxSet, q_b1, q_b2, q_b3, q_bC, q_bB, q_fldSet, q_fs1, q_fs2, q_fsC, q_sFrz, q_tryNo, q_trN, q_trR, q_trC, q_trB, q_gTp, q_gNm, q_def, q_dN, q_dR, q_add, q_addS, q_addT, q_addL, q_sub, q_mul, q_mod, q_div, q_neg, q_le, q_ge, q_gt, q_lt, q_eq, q_ne, q_eqS, q_neS, q_ixT, q_ixL, q_ixB, q_lenT, q_lenL, q_int, q_tupleL, q_tupleT, q_cellL, q_cellLs, q_not, ofO_some, atI0, atI1, atI2, atI3, atI4, frzE, gAll, List.getElem?_cons_zero, List.getElem?_cons_succ, List.set_cons_zero, List.set_cons_succ, List.map_cons, List.map_nil, List.cons_append, List.nil_append, List.append_nil, List.length_cons, List.length_nil, Option.bind_some, Option.map_some, if_true, reduceIte, or_true, true_or, and_true, true_and, Bool.not_true, Bool.not_false, decide_true, decide_false, if_false, Bool.false_eq_true, List.replicate, Int.reduceLT, Int.reduceLE, Int.reduceEq, Int.reduceNe, Int.reduceNeg, Int.reducePow, Int.reduceSub, Nat.reduceLeDiff, Nat.reduceAdd, Nat.reduceSub, Nat.reduceLT, Nat.reduceEqDiff, Nat.reducePow, eq_self, false_and, and_false, false_or, or_false, not_true_eq_false, not_false_eq_true, isi_non_tuple, isi_non_int, isi_non_str, isi_non_bool, isi_non_list, isi_bl_tuple, isi_bl_int, isi_bl_str, isi_bl_bool, isi_bl_list, isi_int_tuple, isi_int_int, isi_int_str, isi_int_bool, isi_int_list, isi_str_tuple, isi_str_int, isi_str_str, isi_str_bool, isi_str_list, isi_tup_tuple, isi_tup_int, isi_tup_str, isi_tup_bool, isi_tup_list, isi_lst_tuple, isi_lst_int, isi_lst_str, isi_lst_bool, isi_lst_list, Int.cast_ofNat_Int, Int.natCast_one, Int.natCast_zero, hd]⟩
  have hm : (numL i.toNat).length < 1000000 := by rw [len_tl, num_tl h0] at l2; omega
  have ha : allP b [.lst ((numL i.toNat).map fun _ => .bl true)] = some (.bl true) := by rw [all_map (numL i.toNat) fun _ => true]; simp
  unfold d_read_number b_read_number
  by_cases h1 : 1 < (num i).length
  · have a3 : (1 : Int) < ((num i).length : Nat) := by omega
    obtain ⟨d, hd, nd⟩ := ix0_num (b := b) (i := i) (by have := num_len1 h0 h1; omega) h
    simp -implicitDefEqProofs only [q_var, q_va, q_c, q_op2, q_2a, q_2b, q_op1, q_isi, q_call, q_oCall, q_oSort, q_1, q_fn, q_f, q_nil, q_cons, q_ca, q_cb, q_tup, q_tu, q_oLst, q_ol, q_and, q_andT, q_andF, q_or, q_orT, q_orF, q_if, q_ifT, q_ifF, q_tVal, q_tv, q_tAnd, q_taT, q_taF, q_tOr, q_toT, q_toF, q_tNot, q_tn, q_yes, q_frz, q_fz, q_box, q_bx, q_chain, q_c1, q_c2, q_c2T, q_c2F, q_c3, q_met1, q_m1, q_m2, q_sl, q_s1, q_s2, q_s3, q_qN, q_qS, q_qs, q_fld, q_fl, q_lk, q_meth, q_mc, q_mc2, q_md, q_make, q_mk, q_jsN, q_jsC, q_js, q_iAny, q_itL, q_itT, q_itS, q_iRg1, q_rg1, q_iRg2, q_rg2, q_rg3, q_comp, q_cm, q_noEx, q_w0, q_w1, q_seq, q_sqN, q_sqR, q_sqC, q_sqB, q_skip, q_cont, q_break, q_retN, q_set, q_st, q_setO, q_so, q_ret, q_rt, q_expr, q_ex, q_sIf, q_siT, q_siF, q_asg, q_as, q_ofE, q_append, q_ap0, q_ap, q_extend, q_xt0, q_xt, q_for, q_fo, q_boxSet, q_b1, q_b2, q_b3, q_bC, q_bB, q_fldSet, q_fs1, q_fs2, q_fsC, q_sFrz, q_tryNo, q_trN, q_trR, q_trC, q_trB, q_gTp, q_gNm, q_def, q_dN, q_dR, q_add, q_addS, q_addT, q_addL, q_sub, q_mul, q_mod, q_div, q_neg, q_le, q_ge, q_gt, q_lt, q_eq, q_ne, q_eqS, q_neS, q_ixT, q_ixL, q_ixB, q_lenT, q_lenL, q_int, q_tupleL, q_tupleT, q_cellL, q_cellLs, q_not, ofO_some, atI0, atI1, atI2, atI3, atI4, frzE, gAll, List.getElem?_cons_zero, List.getElem?_cons_succ, List.set_cons_zero, List.set_cons_succ, List.map_cons, List.map_nil, List.cons_append, List.nil_append, List.append_nil, List.length_cons, List.length_nil, Option.bind_some, Option.map_some, if_true, reduceIte, or_true, true_or, and_true, true_and, Bool.not_true, Bool.not_false, decide_true, decide_false, if_false, Bool.false_eq_true, List.replicate, Int.reduceLT, Int.reduceLE, Int.reduceEq, Int.reduceNe, Int.reduceNeg, Int.reducePow, Int.reduceSub, Nat.reduceLeDiff, Nat.reduceAdd, Nat.reduceSub, Nat.reduceLT, Nat.reduceEqDiff, Nat.reducePow, eq_self, false_and, and_false, false_or, or_false, not_true_eq_false, not_false_eq_true, isi_non_tuple, isi_non_int, isi_non_str, isi_non_bool, isi_non_list, isi_bl_tuple, isi_bl_int, isi_bl_str, isi_bl_bool, isi_bl_list, isi_int_tuple, isi_int_int, isi_int_str, isi_int_bool, isi_int_list, isi_str_tuple, isi_str_int, isi_str_str, isi_str_bool, isi_str_list, isi_tup_tuple, isi_tup_int, isi_tup_str, isi_tup_bool, isi_tup_list, isi_lst_tuple, isi_lst_int, isi_lst_str, isi_lst_bool, isi_lst_list, Int.cast_ofNat_Int, Int.natCast_one, Int.natCast_zero, hl, a1, a2, a3, signs_num h0, hc, List.length_map, hm, ha, hd, one_ne nd, intP_num h0 h]
  · have a3 : ¬ (1 : Int) < ((num i).length : Nat) := by omega
    simp -implicitDefEqProofs only [q_var, q_va, q_c, q_op2, q_2a, q_2b, q_op1, q_isi, q_call, q_oCall, q_oSort, q_1, q_fn, q_f, q_nil, q_cons, q_ca, q_cb, q_tup, q_tu, q_oLst, q_ol, q_and, q_andT, q_andF, q_or, q_orT, q_orF, q_if, q_ifT, q_ifF, q_tVal, q_tv, q_tAnd, q_taT, q_taF, q_tOr, q_toT, q_toF, q_tNot, q_tn, q_yes, q_frz, q_fz, q_box, q_bx, q_chain, q_c1, q_c2, q_c2T, q_c2F, q_c3, q_met1, q_m1, q_m2, q_sl, q_s1, q_s2, q_s3, q_qN, q_qS, q_qs, q_fld, q_fl, q_lk, q_meth, q_mc, q_mc2, q_md, q_make, q_mk, q_jsN, q_jsC, q_js, q_iAny, q_itL, q_itT, q_itS, q_iRg1, q_rg1, q_iRg2, q_rg2, q_rg3, q_comp, q_cm, q_noEx, q_w0, q_w1, q_seq, q_sqN, q_sqR, q_sqC, q_sqB, q_skip, q_cont, q_break, q_retN, q_set, q_st, q_setO, q_so, q_ret, q_rt, q_expr, q_ex, q_sIf, q_siT, q_siF, q_asg, q_as, q_ofE, q_append, q_ap0, q_ap, q_extend, q_xt0, q_xt, q_for, q_fo, q_boxSet, q_b1, q_b2, q_b3, q_bC, q_bB, q_fldSet, q_fs1, q_fs2, q_fsC, q_sFrz, q_tryNo, q_trN, q_trR, q_trC, q_trB, q_gTp, q_gNm, q_def, q_dN, q_dR, q_add, q_addS, q_addT, q_addL, q_sub, q_mul, q_mod, q_div, q_neg, q_le, q_ge, q_gt, q_lt, q_eq, q_ne, q_eqS, q_neS, q_ixT, q_ixL, q_ixB, q_lenT, q_lenL, q_int, q_tupleL, q_tupleT, q_cellL, q_cellLs, q_not, ofO_some, atI0, atI1, atI2, atI3, atI4, frzE, gAll, List.getElem?_cons_zero, List.getElem?_cons_succ, List.set_cons_zero, List.set_cons_succ, List.map_cons, List.map_nil, List.cons_append, List.nil_append, List.append_nil, List.length_cons, List.length_nil, Option.bind_some, Option.map_some, if_true, reduceIte, or_true, true_or, and_true, true_and, Bool.not_true, Bool.not_false, decide_true, decide_false, if_false, Bool.false_eq_true, List.replicate, Int.reduceLT, Int.reduceLE, Int.reduceEq, Int.reduceNe, Int.reduceNeg, Int.reducePow, Int.reduceSub, Nat.reduceLeDiff, Nat.reduceAdd, Nat.reduceSub, Nat.reduceLT, Nat.reduceEqDiff, Nat.reducePow, eq_self, false_and, and_false, false_or, or_false, not_true_eq_false, not_false_eq_true, isi_non_tuple, isi_non_int, isi_non_str, isi_non_bool, isi_non_list, isi_bl_tuple, isi_bl_int, isi_bl_str, isi_bl_bool, isi_bl_list, isi_int_tuple, isi_int_int, isi_int_str, isi_int_bool, isi_int_list, isi_str_tuple, isi_str_int, isi_str_str, isi_str_bool, isi_str_list, isi_tup_tuple, isi_tup_int, isi_tup_str, isi_tup_bool, isi_tup_list, isi_lst_tuple, isi_lst_int, isi_lst_str, isi_lst_bool, isi_lst_list, Int.cast_ofNat_Int, Int.natCast_one, Int.natCast_zero, hl, a1, a2, a3, signs_num h0, hc, List.length_map, hm, ha, intP_num h0 h]
theorem comma_len : (("," : Str)).length = 1 := by decide
def tPt (z : Int × Int) : Str := num z.1 ++ "," ++ num z.2
theorem read_point_eq {b : Bx} {z : Int × Int} (h0 : 0 ≤ z.1) (h1 : z.1 < 10 ^ 9) (h2 : 0 ≤ z.2) (h3 : z.2 < 10 ^ 9) : d_read_point [.str (tPt z)] b = .ok (encW z) b := by
  have l1 := num_len h0 h1
  have l2 := num_len h2 h3
  have hp : partP (.str (tPt z)) (.str ",") = some (.tup [.str (num z.1), .str ",", .str (num z.2)]) :=
    partP_app (s := 44) (S := []) (by decide) (num_free h0 (.inl (by decide))) (by rw [len_app, len_app, comma_len]; omega)
  have hne : decide ((("," : Str)) = "") = false := by decide
  unfold d_read_point b_read_point encW
  simp -implicitDefEqProofs only [q_var, q_va, q_c, q_op2, q_2a, q_2b, q_op1, q_isi, q_call, q_oCall, q_oSort, q_1, q_fn, q_f, q_nil, q_cons, q_ca, q_cb, q_tup, q_tu, q_oLst, q_ol, q_and, q_andT, q_andF, q_or, q_orT, q_orF, q_if, q_ifT, q_ifF, q_tVal, q_tv, q_tAnd, q_taT, q_taF, q_tOr, q_toT, q_toF, q_tNot, q_tn, q_yes, q_frz, q_fz, q_box, q_bx, q_chain, q_c1, q_c2, q_c2T, q_c2F, q_c3, q_met1, q_m1, q_m2, q_sl, q_s1, q_s2, q_s3, q_qN, q_qS, q_qs, q_fld, q_fl, q_lk, q_meth, q_mc, q_mc2, q_md, q_make, q_mk, q_jsN, q_jsC, q_js, q_iAny, q_itL, q_itT, q_itS, q_iRg1, q_rg1, q_iRg2, q_rg2, q_rg3, q_comp, q_cm, q_noEx, q_w0, q_w1, q_seq, q_sqN, q_sqR, q_sqC, q_sqB, q_skip, q_cont, q_break, q_retN, q_set, q_st, q_setO, q_so, q_ret, q_rt, q_expr, q_ex, q_sIf, q_siT, q_siF, q_asg, q_as, q_ofE, q_append, q_ap0, q_ap, q_extend, q_xt0, q_xt, q_for, q_fo, q_boxSet, q_b1, q_b2, q_b3, q_bC, q_bB, q_fldSet, q_fs1, q_fs2, q_fsC, q_sFrz, q_tryNo, q_trN, q_trR, q_trC, q_trB, q_gTp, q_gNm, q_def, q_dN, q_dR, q_add, q_addS, q_addT, q_addL, q_sub, q_mul, q_mod, q_div, q_neg, q_le, q_ge, q_gt, q_lt, q_eq, q_ne, q_eqS, q_neS, q_ixT, q_ixL, q_ixB, q_lenT, q_lenL, q_int, q_tupleL, q_tupleT, q_cellL, q_cellLs, q_not, ofO_some, atI0, atI1, atI2, atI3, atI4, frzE, gAll, List.getElem?_cons_zero, List.getElem?_cons_succ, List.set_cons_zero, List.set_cons_succ, List.map_cons, List.map_nil, List.cons_append, List.nil_append, List.append_nil, List.length_cons, List.length_nil, Option.bind_some, Option.map_some, if_true, reduceIte, or_true, true_or, and_true, true_and, Bool.not_true, Bool.not_false, decide_true, decide_false, if_false, Bool.false_eq_true, List.replicate, Int.reduceLT, Int.reduceLE, Int.reduceEq, Int.reduceNe, Int.reduceNeg, Int.reducePow, Int.reduceSub, Nat.reduceLeDiff, Nat.reduceAdd, Nat.reduceSub, Nat.reduceLT, Nat.reduceEqDiff, Nat.reducePow, eq_self, false_and, and_false, false_or, or_false, not_true_eq_false, not_false_eq_true, isi_non_tuple, isi_non_int, isi_non_str, isi_non_bool, isi_non_list, isi_bl_tuple, isi_bl_int, isi_bl_str, isi_bl_bool, isi_bl_list, isi_int_tuple, isi_int_int, isi_int_str, isi_int_bool, isi_int_list, isi_str_tuple, isi_str_int, isi_str_str, isi_str_bool, isi_str_list, isi_tup_tuple, isi_tup_int, isi_tup_str, isi_tup_bool, isi_tup_list, isi_lst_tuple, isi_lst_int, isi_lst_str, isi_lst_bool, isi_lst_list, Int.cast_ofNat_Int, Int.natCast_one, Int.natCast_zero, hp, hne, read_number_eq h0 h1, read_number_eq h2 h3]

/-! ### the text of a farm -/
def tCurve (c : List (Int × Int)) : Str := Txt.join " " ("curve" :: c.map tPt)
def tMach (ms : List Int) : Str := Txt.join " " ("machines" :: ms.map num)
def nums4 (w : K4) : List Int := [w.1, w.2.1, w.2.2.1, w.2.2.2]
def tWake (w : K4) : Str := Txt.join " " ("wake" :: (nums4 w).map num)
def tLines (F : Farm) : List Str := F.cs.map tCurve ++ (tMach F.ms :: F.ws.map tWake)
def tFarm (F : Farm) : Str := Txt.join "\n" (tLines F)
def Nm (i : Int) : Prop := 0 ≤ i ∧ i < 10 ^ 9
structure NumF (F : Farm) : Prop where
  c : ∀ c, c ∈ F.cs → c ≠ [] ∧ c.length ≤ 100 ∧ ∀ z, z ∈ c → Nm z.1 ∧ Nm z.2
  cl : F.cs.length ≤ 100
  c0 : F.cs ≠ []
  m : ∀ m, m ∈ F.ms → Nm m
  ml : F.ms.length ≤ 100
  m0 : F.ms ≠ []
  w : ∀ w, w ∈ F.ws → ∀ i, i ∈ nums4 w → Nm i
  wl : F.ws.length ≤ 1000
theorem Nm.w {i : Int} (h : Nm i) : -(2 ^ 64) < i ∧ i < 2 ^ 64 := by unfold Nm at h; omega
theorem tPt_len {z : Int × Int} (h : Nm z.1 ∧ Nm z.2) : (tPt z).length ≤ 19 := by
  have l1 := num_len h.1.1 h.1.2
  have l2 := num_len h.2.1 h.2.2
  unfold tPt
  rw [len_app, len_app, comma_len]; omega
theorem sp_len : ((" " : Str)).length = 1 := by decide
theorem nl_len : (("\n" : Str)).length = 1 := by decide
theorem curve_len0 : (("curve" : Str)).length = 5 := by decide
theorem machines_len0 : (("machines" : Str)).length = 8 := by decide
theorem wake_len0 : (("wake" : Str)).length = 4 := by decide
theorem NumF.of {most top : Int} {F : Farm} (h : GoodF most top F) (hm : most ≤ 100) (ht : top ≤ 1000000) : NumF F where
  c := fun c hc => by
    have g := h.cg c hc
    refine ⟨fun e => by have := g.lo; rw [e] at this; simp at this, by have := g.hi; omega, fun z hz => ?_⟩
    have h1 := g.wi z hz
    have h2 := g.po z hz
    unfold Nm; omega
  cl := by have := h.c1; omega
  c0 := fun e => by have := h.c0; rw [e] at this; simp at this
  m := fun m hm => by
    have h1 := h.mg m hm
    have h2 := h.c1
    unfold Nm; omega
  ml := by have := h.m1; omega
  m0 := fun e => by have := h.m0; rw [e] at this; simp at this
  w := fun w hw i hi => by
    have g := h.wg w hw
    have h1 := h.m1
    obtain ⟨d0, d1, i0, i1, j0, j1, _, p0, p1⟩ := g
    unfold nums4 at hi
    simp only [List.mem_cons, List.not_mem_nil, or_false] at hi
    unfold Nm
    rcases hi with rfl | rfl | rfl | rfl <;> omega
  wl := by have := h.wl; omega
theorem pts_join {c : List (Int × Int)} (h : c ≠ [] ∧ c.length ≤ 100 ∧ ∀ z, z ∈ c → Nm z.1 ∧ Nm z.2) : joinP (.str " ") (.lst (c.map fun z => .str (tPt z))) = some (.str (Txt.join " " (c.map tPt))) :=
  joinP_le _ 19 c tPt (fun z hz => tPt_len (h.2.2 z hz)) (by rw [sp_len]; have := h.2.1; omega)
theorem pts_joined_len {c : List (Int × Int)} (h : c ≠ [] ∧ c.length ≤ 100 ∧ ∀ z, z ∈ c → Nm z.1 ∧ Nm z.2) : (Txt.join " " (c.map tPt)).length ≤ 2000 := by
  have := join_le (y := " ") (c := 19) (parts := c.map tPt) fun a ha => by
    obtain ⟨z, hz, rfl⟩ := List.mem_map.mp ha
    exact tPt_len (h.2.2 z hz)
  rw [sp_len, List.length_map] at this
  have := h.2.1
  omega
theorem ms_join {ms : List Int} (h : ms.length ≤ 100) (hn : ∀ m, m ∈ ms → Nm m) : joinP (.str " ") (.lst (ms.map fun z => .str (num z))) = some (.str (Txt.join " " (ms.map num))) :=
  joinP_le _ 9 ms num (fun z hz => num_len (hn z hz).1 (hn z hz).2) (by rw [sp_len]; omega)
theorem ms_joined_len {ms : List Int} (h : ms.length ≤ 100) (hn : ∀ m, m ∈ ms → Nm m) : (Txt.join " " (ms.map num)).length ≤ 1000 := by
  have := join_le (y := " ") (c := 9) (parts := ms.map num) fun a ha => by
    obtain ⟨z, hz, rfl⟩ := List.mem_map.mp ha
    exact num_len (hn z hz).1 (hn z hz).2
  rw [sp_len, List.length_map] at this
  omega
theorem w_join {w : K4} (hn : ∀ m, m ∈ nums4 w → Nm m) : joinP (.str " ") (.lst ((nums4 w).map fun z => .str (num z))) = some (.str (Txt.join " " ((nums4 w).map num))) := ms_join (by unfold nums4; simp) hn
theorem curve_word {c : List (Int × Int)} (h : c ≠ []) : ("curve " : Str) ++ Txt.join " " (c.map tPt) = tCurve c := by
  unfold tCurve
  rw [join_cons (by simpa using h)]
  rfl
theorem mach_word {ms : List Int} (h : ms ≠ []) : ("machines " : Str) ++ Txt.join " " (ms.map num) = tMach ms := by
  unfold tMach
  rw [join_cons (by simpa using h)]
  rfl
theorem wake_word {w : K4} : ("wake " : Str) ++ Txt.join " " ((nums4 w).map num) = tWake w := by
  unfold tWake
  rw [join_cons (by unfold nums4; simp)]
  rfl
theorem tCurve_len {c : List (Int × Int)} (h : c ≠ [] ∧ c.length ≤ 100 ∧ ∀ z, z ∈ c → Nm z.1 ∧ Nm z.2) : (tCurve c).length ≤ 2010 := by
  rw [← curve_word h.1, len_app]
  have := pts_joined_len h
  have h2 : (("curve " : Str)).length = 6 := by decide
  omega
theorem tMach_len {ms : List Int} (h0 : ms ≠ []) (h : ms.length ≤ 100) (hn : ∀ m, m ∈ ms → Nm m) : (tMach ms).length ≤ 1010 := by
  rw [← mach_word h0, len_app]
  have := ms_joined_len h hn
  have h2 : (("machines " : Str)).length = 9 := by decide
  omega
theorem tWake_len {w : K4} (hn : ∀ m, m ∈ nums4 w → Nm m) : (tWake w).length ≤ 45 := by
  rw [← wake_word, len_app]
  have := join_le (y := " ") (c := 9) (parts := (nums4 w).map num) fun a ha => by
    obtain ⟨z, hz, rfl⟩ := List.mem_map.mp ha
    exact num_len (hn z hz).1 (hn z hz).2
  rw [sp_len, List.length_map] at this
  have h2 : (("wake " : Str)).length = 5 := by decide
  have h3 : (nums4 w).length = 4 := rfl
  omega
theorem c6 : (("curve " : Str)).length = 6 := by decide
theorem c9 : (("machines " : Str)).length = 9 := by decide
theorem c5 : (("wake " : Str)).length = 5 := by decide
theorem farm_text_eq {F : Farm} (h : NumF F) (b : Bx) : d_law_farm_text [encF F] b = .ok (.lst ((tLines F).map .str)) b := by
  obtain ⟨e1, b1, q1, s2, q2, q3⟩ := for_exP (gf := gNm 2) (f := sAppend 1 (eOp2 addP (eC (.str "curve ")) (eMet1 joinP (eC (.str " ")) (eFrz (oComp (iAny (eVar 2)) (gTp [(gNm 6), (gNm 7)]) tYesF (eOp2 addP (eOp2 addP (eCall strP (aCons (eVar 6) aNil)) (eC (.str ","))) (eCall strP (aCons (eVar 7) aNil))) [6, 7])))))
    encC (fun pre e b' => ∃ s2 : PV.Slot, e = [.va (encF F), .ow (pre.map fun c => .str (tCurve c)), s2, .un, .un, .un, .un, .un] ∧ b' = b) (as := F.cs) (done := []) (fun pre a e b' hp iv => by
      obtain ⟨post, hp⟩ := hp
      obtain ⟨s2, rfl, rfl⟩ := iv
      have hpre : pre.length ≤ F.cs.length := by have := congrArg List.length hp; simp at this; omega
      have ha := h.c a (by rw [← List.nil_append F.cs, hp]; simp)
      have hc : compL (gTp [(gNm 6), (gNm 7)]) tYesF (eOp2 addP (eOp2 addP (eCall strP (aCons (eVar 6) aNil)) (eC (.str ","))) (eCall strP (aCons (eVar 7) aNil))) [.va (encF F), .ow (pre.map fun c => .str (tCurve c)), .va (encC a), .un, .un, .un, .un, .un] (a.map encW) b' = .ok (a.map fun z => .str (tPt z)) b' :=
        comp_pl encW (fun z => .str (tPt z)) fun z hz => ⟨_, rfl, rfl, by
          have hz' := ha.2.2 z hz
          have l1 := num_len hz'.1.1 hz'.1.2
          have l2 := num_len hz'.2.1 hz'.2.2
          have l3 : (num z.1).length + 1 ≤ 16000000 := by omega
          have l4 : (num z.1).length + 1 + (num z.2).length ≤ 16000000 := by omega
          unfold tPt
          simp -implicitDefEqProofs only [q_var, q_va, q_c, q_op2, q_2a, q_2b, q_op1, q_isi, q_call, q_oCall, q_oSort, q_1, q_fn, q_f, q_nil, q_cons, q_ca, q_cb, q_tup, q_tu, q_oLst, q_ol, q_and, q_andT, q_andF, q_or, q_orT, q_orF, q_if, q_ifT, q_ifF, q_tVal, q_tv, q_tAnd, q_taT, q_taF, q_tOr, q_toT, q_toF, q_tNot, q_tn, q_yes, q_frz, q_fz, q_box, q_bx, q_chain, q_c1, q_c2, q_c2T, q_c2F, q_c3, q_met1, q_m1, q_m2, q_sl, q_s1, q_s2, q_s3, q_qN, q_qS, q_qs, q_fld, q_fl, q_lk, q_meth, q_mc, q_mc2, q_md, q_make, q_mk, q_jsN, q_jsC, q_js, q_iAny, q_itL, q_itT, q_itS, q_iRg1, q_rg1, q_iRg2, q_rg2, q_rg3, q_comp, q_cm, q_noEx, q_w0, q_w1, q_seq, q_sqN, q_sqR, q_sqC, q_sqB, q_skip, q_cont, q_break, q_retN, q_set, q_st, q_setO, q_so, q_ret, q_rt, q_expr, q_ex, q_sIf, q_siT, q_siF, q_asg, q_as, q_ofE, q_append, q_ap0, q_ap, q_extend, q_xt0, q_xt, q_for, q_fo, q_boxSet, q_b1, q_b2, q_b3, q_bC, q_bB, q_fldSet, q_fs1, q_fs2, q_fsC, q_sFrz, q_tryNo, q_trN, q_trR, q_trC, q_trB, q_gTp, q_gNm, q_def, q_dN, q_dR, q_add, q_addS, q_addT, q_addL, q_sub, q_mul, q_mod, q_div, q_neg, q_le, q_ge, q_gt, q_lt, q_eq, q_ne, q_eqS, q_neS, q_ixT, q_ixL, q_ixB, q_lenT, q_lenL, q_int, q_tupleL, q_tupleT, q_cellL, q_cellLs, q_not, ofO_some, atI0, atI1, atI2, atI3, atI4, frzE, gAll, List.getElem?_cons_zero, List.getElem?_cons_succ, List.set_cons_zero, List.set_cons_succ, List.map_cons, List.map_nil, List.cons_append, List.nil_append, List.append_nil, List.length_cons, List.length_nil, Option.bind_some, Option.map_some, if_true, reduceIte, or_true, true_or, and_true, true_and, Bool.not_true, Bool.not_false, decide_true, decide_false, if_false, Bool.false_eq_true, List.replicate, Int.reduceLT, Int.reduceLE, Int.reduceEq, Int.reduceNe, Int.reduceNeg, Int.reducePow, Int.reduceSub, Nat.reduceLeDiff, Nat.reduceAdd, Nat.reduceSub, Nat.reduceLT, Nat.reduceEqDiff, Nat.reducePow, eq_self, false_and, and_false, false_or, or_false, not_true_eq_false, not_false_eq_true, isi_non_tuple, isi_non_int, isi_non_str, isi_non_bool, isi_non_list, isi_bl_tuple, isi_bl_int, isi_bl_str, isi_bl_bool, isi_bl_list, isi_int_tuple, isi_int_int, isi_int_str, isi_int_bool, isi_int_list, isi_str_tuple, isi_str_int, isi_str_str, isi_str_bool, isi_str_list, isi_tup_tuple, isi_tup_int, isi_tup_str, isi_tup_bool, isi_tup_list, isi_lst_tuple, isi_lst_int, isi_lst_str, isi_lst_bool, isi_lst_list, Int.cast_ofNat_Int, Int.natCast_one, Int.natCast_zero, strP_num hz'.1.w, strP_num hz'.2.w, q_addS, len_app, comma_len, l3, l4]⟩
      have h1 : a.length < 1000000 := by have := ha.2.1; omega
      have h2 := pts_joined_len ha
      have h3 : 6 + (Txt.join " " (a.map tPt)).length ≤ 16000000 := by omega
      have h4 : pre.length < 1000000 := by have := h.cl; omega
      refine ⟨_, [.va (encF F), .ow ((pre ++ [a]).map fun c => .str (tCurve c)), .va (encC a), .un, .un, .un, .un, .un], b', rfl, .inl ?_, _, rfl, rfl⟩
      have hk : encC a = .tup (a.map encW) := rfl
      rw [hk] at hc ⊢
      simp -implicitDefEqProofs only [q_var, q_va, q_c, q_op2, q_2a, q_2b, q_op1, q_isi, q_call, q_oCall, q_oSort, q_1, q_fn, q_f, q_nil, q_cons, q_ca, q_cb, q_tup, q_tu, q_oLst, q_ol, q_and, q_andT, q_andF, q_or, q_orT, q_orF, q_if, q_ifT, q_ifF, q_tVal, q_tv, q_tAnd, q_taT, q_taF, q_tOr, q_toT, q_toF, q_tNot, q_tn, q_yes, q_frz, q_fz, q_box, q_bx, q_chain, q_c1, q_c2, q_c2T, q_c2F, q_c3, q_met1, q_m1, q_m2, q_sl, q_s1, q_s2, q_s3, q_qN, q_qS, q_qs, q_fld, q_fl, q_lk, q_meth, q_mc, q_mc2, q_md, q_make, q_mk, q_jsN, q_jsC, q_js, q_iAny, q_itL, q_itT, q_itS, q_iRg1, q_rg1, q_iRg2, q_rg2, q_rg3, q_comp, q_cm, q_noEx, q_w0, q_w1, q_seq, q_sqN, q_sqR, q_sqC, q_sqB, q_skip, q_cont, q_break, q_retN, q_set, q_st, q_setO, q_so, q_ret, q_rt, q_expr, q_ex, q_sIf, q_siT, q_siF, q_asg, q_as, q_ofE, q_append, q_ap0, q_ap, q_extend, q_xt0, q_xt, q_for, q_fo, q_boxSet, q_b1, q_b2, q_b3, q_bC, q_bB, q_fldSet, q_fs1, q_fs2, q_fsC, q_sFrz, q_tryNo, q_trN, q_trR, q_trC, q_trB, q_gTp, q_gNm, q_def, q_dN, q_dR, q_add, q_addS, q_addT, q_addL, q_sub, q_mul, q_mod, q_div, q_neg, q_le, q_ge, q_gt, q_lt, q_eq, q_ne, q_eqS, q_neS, q_ixT, q_ixL, q_ixB, q_lenT, q_lenL, q_int, q_tupleL, q_tupleT, q_cellL, q_cellLs, q_not, ofO_some, atI0, atI1, atI2, atI3, atI4, frzE, gAll, List.getElem?_cons_zero, List.getElem?_cons_succ, List.set_cons_zero, List.set_cons_succ, List.map_cons, List.map_nil, List.cons_append, List.nil_append, List.append_nil, List.length_cons, List.length_nil, Option.bind_some, Option.map_some, if_true, reduceIte, or_true, true_or, and_true, true_and, Bool.not_true, Bool.not_false, decide_true, decide_false, if_false, Bool.false_eq_true, List.replicate, Int.reduceLT, Int.reduceLE, Int.reduceEq, Int.reduceNe, Int.reduceNeg, Int.reducePow, Int.reduceSub, Nat.reduceLeDiff, Nat.reduceAdd, Nat.reduceSub, Nat.reduceLT, Nat.reduceEqDiff, Nat.reducePow, eq_self, false_and, and_false, false_or, or_false, not_true_eq_false, not_false_eq_true, isi_non_tuple, isi_non_int, isi_non_str, isi_non_bool, isi_non_list, isi_bl_tuple, isi_bl_int, isi_bl_str, isi_bl_bool, isi_bl_list, isi_int_tuple, isi_int_int, isi_int_str, isi_int_bool, isi_int_list, isi_str_tuple, isi_str_int, isi_str_str, isi_str_bool, isi_str_list, isi_tup_tuple, isi_tup_int, isi_tup_str, isi_tup_bool, isi_tup_list, isi_lst_tuple, isi_lst_int, isi_lst_str, isi_lst_bool, isi_lst_list, Int.cast_ofNat_Int, Int.natCast_one, Int.natCast_zero, List.length_map, h1, hc, pts_join ha, c6, h3, curve_word ha.1, h4, List.map_append]) [.va (encF F), .ow [], .un, .un, .un, .un, .un, .un] b ⟨_, rfl, rfl⟩
  obtain rfl : b = b1 := q3.symm
  subst q2
  rw [List.nil_append] at q1
  have hF : encF F = .tup [.tup (F.cs.map encC), .tup (F.ms.map .int), .tup (F.ws.map encK)] := rfl
  have cm : ∀ s2 l1, compL (gNm 4) tYesF (eCall strP (aCons (eVar 4) aNil)) [.va (encF F), .ow l1, s2, .un, .un, .un, .un, .un] (F.ms.map P.int) b = .ok (F.ms.map fun m => .str (num m)) b := fun s2 l1 =>
    comp_pl P.int (fun m => .str (num m)) fun m hm => ⟨_, rfl, rfl, by simp -implicitDefEqProofs only [q_var, q_va, q_c, q_op2, q_2a, q_2b, q_op1, q_isi, q_call, q_oCall, q_oSort, q_1, q_fn, q_f, q_nil, q_cons, q_ca, q_cb, q_tup, q_tu, q_oLst, q_ol, q_and, q_andT, q_andF, q_or, q_orT, q_orF, q_if, q_ifT, q_ifF, q_tVal, q_tv, q_tAnd, q_taT, q_taF, q_tOr, q_toT, q_toF, q_tNot, q_tn, q_yes, q_frz, q_fz, q_box, q_bx, q_chain, q_c1, q_c2, q_c2T, q_c2F, q_c3, q_met1, q_m1, q_m2, q_sl, q_s1, q_s2, q_s3, q_qN, q_qS, q_qs, q_fld, q_fl, q_lk, q_meth, q_mc, q_mc2, q_md, q_make, q_mk, q_jsN, q_jsC, q_js, q_iAny, q_itL, q_itT, q_itS, q_iRg1, q_rg1, q_iRg2, q_rg2, q_rg3, q_comp, q_cm, q_noEx, q_w0, q_w1, q_seq, q_sqN, q_sqR, q_sqC, q_sqB, q_skip, q_cont, q_break, q_retN, q_set, q_st, q_setO, q_so, q_ret, q_rt, q_expr, q_ex, q_sIf, q_siT, q_siF, q_asg, q_as, q_ofE, q_append, q_ap0, q_ap, q_extend, q_xt0, q_xt, q_for, q_fo, q_boxSet, q_b1, q_b2, q_b3, q_bC, q_bB, q_fldSet, q_fs1, q_fs2, q_fsC, q_sFrz, q_tryNo, q_trN, q_trR, q_trC, q_trB, q_gTp, q_gNm, q_def, q_dN, q_dR, q_add, q_addS, q_addT, q_addL, q_sub, q_mul, q_mod, q_div, q_neg, q_le, q_ge, q_gt, q_lt, q_eq, q_ne, q_eqS, q_neS, q_ixT, q_ixL, q_ixB, q_lenT, q_lenL, q_int, q_tupleL, q_tupleT, q_cellL, q_cellLs, q_not, ofO_some, atI0, atI1, atI2, atI3, atI4, frzE, gAll, List.getElem?_cons_zero, List.getElem?_cons_succ, List.set_cons_zero, List.set_cons_succ, List.map_cons, List.map_nil, List.cons_append, List.nil_append, List.append_nil, List.length_cons, List.length_nil, Option.bind_some, Option.map_some, if_true, reduceIte, or_true, true_or, and_true, true_and, Bool.not_true, Bool.not_false, decide_true, decide_false, if_false, Bool.false_eq_true, List.replicate, Int.reduceLT, Int.reduceLE, Int.reduceEq, Int.reduceNe, Int.reduceNeg, Int.reducePow, Int.reduceSub, Nat.reduceLeDiff, Nat.reduceAdd, Nat.reduceSub, Nat.reduceLT, Nat.reduceEqDiff, Nat.reducePow, eq_self, false_and, and_false, false_or, or_false, not_true_eq_false, not_false_eq_true, isi_non_tuple, isi_non_int, isi_non_str, isi_non_bool, isi_non_list, isi_bl_tuple, isi_bl_int, isi_bl_str, isi_bl_bool, isi_bl_list, isi_int_tuple, isi_int_int, isi_int_str, isi_int_bool, isi_int_list, isi_str_tuple, isi_str_int, isi_str_str, isi_str_bool, isi_str_list, isi_tup_tuple, isi_tup_int, isi_tup_str, isi_tup_bool, isi_tup_list, isi_lst_tuple, isi_lst_int, isi_lst_str, isi_lst_bool, isi_lst_list, Int.cast_ofNat_Int, Int.natCast_one, Int.natCast_zero, strP_num (h.m m hm).w]⟩
  have cw : ∀ s2 l1, compL (gNm 3) tYesF (eOp2 addP (eC (.str "wake ")) (eMet1 joinP (eC (.str " ")) (eFrz (oComp (iAny (eVar 3)) (gNm 5) tYesF (eCall strP (aCons (eVar 5) aNil)) [5])))) [.va (encF F), l1, s2, .un, .un, .un, .un, .un] (F.ws.map encK) b = .ok (F.ws.map fun w => .str (tWake w)) b := fun s2 l1 =>
    comp_pl encK (fun w => .str (tWake w)) fun w hw => ⟨_, rfl, rfl, by
      have hn := h.w w hw
      have ci : compL (gNm 5) tYesF (eCall strP (aCons (eVar 5) aNil)) [.va (encF F), l1, s2, .va (encK w), .un, .un, .un, .un] ((nums4 w).map P.int) b = .ok ((nums4 w).map fun m => .str (num m)) b :=
        comp_pl P.int (fun m => .str (num m)) fun m hm => ⟨_, rfl, rfl, by simp -implicitDefEqProofs only [q_var, q_va, q_c, q_op2, q_2a, q_2b, q_op1, q_isi, q_call, q_oCall, q_oSort, q_1, q_fn, q_f, q_nil, q_cons, q_ca, q_cb, q_tup, q_tu, q_oLst, q_ol, q_and, q_andT, q_andF, q_or, q_orT, q_orF, q_if, q_ifT, q_ifF, q_tVal, q_tv, q_tAnd, q_taT, q_taF, q_tOr, q_toT, q_toF, q_tNot, q_tn, q_yes, q_frz, q_fz, q_box, q_bx, q_chain, q_c1, q_c2, q_c2T, q_c2F, q_c3, q_met1, q_m1, q_m2, q_sl, q_s1, q_s2, q_s3, q_qN, q_qS, q_qs, q_fld, q_fl, q_lk, q_meth, q_mc, q_mc2, q_md, q_make, q_mk, q_jsN, q_jsC, q_js, q_iAny, q_itL, q_itT, q_itS, q_iRg1, q_rg1, q_iRg2, q_rg2, q_rg3, q_comp, q_cm, q_noEx, q_w0, q_w1, q_seq, q_sqN, q_sqR, q_sqC, q_sqB, q_skip, q_cont, q_break, q_retN, q_set, q_st, q_setO, q_so, q_ret, q_rt, q_expr, q_ex, q_sIf, q_siT, q_siF, q_asg, q_as, q_ofE, q_append, q_ap0, q_ap, q_extend, q_xt0, q_xt, q_for, q_fo, q_boxSet, q_b1, q_b2, q_b3, q_bC, q_bB, q_fldSet, q_fs1, q_fs2, q_fsC, q_sFrz, q_tryNo, q_trN, q_trR, q_trC, q_trB, q_gTp, q_gNm, q_def, q_dN, q_dR, q_add, q_addS, q_addT, q_addL, q_sub, q_mul, q_mod, q_div, q_neg, q_le, q_ge, q_gt, q_lt, q_eq, q_ne, q_eqS, q_neS, q_ixT, q_ixL, q_ixB, q_lenT, q_lenL, q_int, q_tupleL, q_tupleT, q_cellL, q_cellLs, q_not, ofO_some, atI0, atI1, atI2, atI3, atI4, frzE, gAll, List.getElem?_cons_zero, List.getElem?_cons_succ, List.set_cons_zero, List.set_cons_succ, List.map_cons, List.map_nil, List.cons_append, List.nil_append, List.append_nil, List.length_cons, List.length_nil, Option.bind_some, Option.map_some, if_true, reduceIte, or_true, true_or, and_true, true_and, Bool.not_true, Bool.not_false, decide_true, decide_false, if_false, Bool.false_eq_true, List.replicate, Int.reduceLT, Int.reduceLE, Int.reduceEq, Int.reduceNe, Int.reduceNeg, Int.reducePow, Int.reduceSub, Nat.reduceLeDiff, Nat.reduceAdd, Nat.reduceSub, Nat.reduceLT, Nat.reduceEqDiff, Nat.reducePow, eq_self, false_and, and_false, false_or, or_false, not_true_eq_false, not_false_eq_true, isi_non_tuple, isi_non_int, isi_non_str, isi_non_bool, isi_non_list, isi_bl_tuple, isi_bl_int, isi_bl_str, isi_bl_bool, isi_bl_list, isi_int_tuple, isi_int_int, isi_int_str, isi_int_bool, isi_int_list, isi_str_tuple, isi_str_int, isi_str_str, isi_str_bool, isi_str_list, isi_tup_tuple, isi_tup_int, isi_tup_str, isi_tup_bool, isi_tup_list, isi_lst_tuple, isi_lst_int, isi_lst_str, isi_lst_bool, isi_lst_list, Int.cast_ofNat_Int, Int.natCast_one, Int.natCast_zero, strP_num (hn m hm).w]⟩
      have hk : encK w = .tup ((nums4 w).map P.int) := rfl
      have h1 : (nums4 w).length < 1000000 := by unfold nums4; simp
      have h2 := ms_joined_len (ms := nums4 w) (by unfold nums4; simp) hn
      have h3 : 5 + (Txt.join " " ((nums4 w).map num)).length ≤ 16000000 := by omega
      rw [hk] at ci ⊢
      simp -implicitDefEqProofs only [q_var, q_va, q_c, q_op2, q_2a, q_2b, q_op1, q_isi, q_call, q_oCall, q_oSort, q_1, q_fn, q_f, q_nil, q_cons, q_ca, q_cb, q_tup, q_tu, q_oLst, q_ol, q_and, q_andT, q_andF, q_or, q_orT, q_orF, q_if, q_ifT, q_ifF, q_tVal, q_tv, q_tAnd, q_taT, q_taF, q_tOr, q_toT, q_toF, q_tNot, q_tn, q_yes, q_frz, q_fz, q_box, q_bx, q_chain, q_c1, q_c2, q_c2T, q_c2F, q_c3, q_met1, q_m1, q_m2, q_sl, q_s1, q_s2, q_s3, q_qN, q_qS, q_qs, q_fld, q_fl, q_lk, q_meth, q_mc, q_mc2, q_md, q_make, q_mk, q_jsN, q_jsC, q_js, q_iAny, q_itL, q_itT, q_itS, q_iRg1, q_rg1, q_iRg2, q_rg2, q_rg3, q_comp, q_cm, q_noEx, q_w0, q_w1, q_seq, q_sqN, q_sqR, q_sqC, q_sqB, q_skip, q_cont, q_break, q_retN, q_set, q_st, q_setO, q_so, q_ret, q_rt, q_expr, q_ex, q_sIf, q_siT, q_siF, q_asg, q_as, q_ofE, q_append, q_ap0, q_ap, q_extend, q_xt0, q_xt, q_for, q_fo, q_boxSet, q_b1, q_b2, q_b3, q_bC, q_bB, q_fldSet, q_fs1, q_fs2, q_fsC, q_sFrz, q_tryNo, q_trN, q_trR, q_trC, q_trB, q_gTp, q_gNm, q_def, q_dN, q_dR, q_add, q_addS, q_addT, q_addL, q_sub, q_mul, q_mod, q_div, q_neg, q_le, q_ge, q_gt, q_lt, q_eq, q_ne, q_eqS, q_neS, q_ixT, q_ixL, q_ixB, q_lenT, q_lenL, q_int, q_tupleL, q_tupleT, q_cellL, q_cellLs, q_not, ofO_some, atI0, atI1, atI2, atI3, atI4, frzE, gAll, List.getElem?_cons_zero, List.getElem?_cons_succ, List.set_cons_zero, List.set_cons_succ, List.map_cons, List.map_nil, List.cons_append, List.nil_append, List.append_nil, List.length_cons, List.length_nil, Option.bind_some, Option.map_some, if_true, reduceIte, or_true, true_or, and_true, true_and, Bool.not_true, Bool.not_false, decide_true, decide_false, if_false, Bool.false_eq_true, List.replicate, Int.reduceLT, Int.reduceLE, Int.reduceEq, Int.reduceNe, Int.reduceNeg, Int.reducePow, Int.reduceSub, Nat.reduceLeDiff, Nat.reduceAdd, Nat.reduceSub, Nat.reduceLT, Nat.reduceEqDiff, Nat.reducePow, eq_self, false_and, and_false, false_or, or_false, not_true_eq_false, not_false_eq_true, isi_non_tuple, isi_non_int, isi_non_str, isi_non_bool, isi_non_list, isi_bl_tuple, isi_bl_int, isi_bl_str, isi_bl_bool, isi_bl_list, isi_int_tuple, isi_int_int, isi_int_str, isi_int_bool, isi_int_list, isi_str_tuple, isi_str_int, isi_str_str, isi_str_bool, isi_str_list, isi_tup_tuple, isi_tup_int, isi_tup_str, isi_tup_bool, isi_tup_list, isi_lst_tuple, isi_lst_int, isi_lst_str, isi_lst_bool, isi_lst_list, Int.cast_ofNat_Int, Int.natCast_one, Int.natCast_zero, List.length_map, h1, ci, w_join hn, q_addS, c5, h3, wake_word]⟩
  have h1 : F.cs.length < 1000000 := by have := h.cl; omega
  have h2 : F.ms.length < 1000000 := by have := h.ml; omega
  have h3 : F.ws.length < 1000000 := by have := h.wl; omega
  have h4 := ms_joined_len h.ml h.m
  have h5 : 9 + (Txt.join " " (F.ms.map num)).length ≤ 16000000 := by omega
  have h6 : F.cs.length + 1 + F.ws.length ≤ 1000000 := by have := h.cl; have := h.wl; omega
  unfold d_law_farm_text b_law_farm_text tLines
  rw [hF] at q1 cm cw ⊢
  simp -implicitDefEqProofs only [q_var, q_va, q_c, q_op2, q_2a, q_2b, q_op1, q_isi, q_call, q_oCall, q_oSort, q_1, q_fn, q_f, q_nil, q_cons, q_ca, q_cb, q_tup, q_tu, q_oLst, q_ol, q_and, q_andT, q_andF, q_or, q_orT, q_orF, q_if, q_ifT, q_ifF, q_tVal, q_tv, q_tAnd, q_taT, q_taF, q_tOr, q_toT, q_toF, q_tNot, q_tn, q_yes, q_frz, q_fz, q_box, q_bx, q_chain, q_c1, q_c2, q_c2T, q_c2F, q_c3, q_met1, q_m1, q_m2, q_sl, q_s1, q_s2, q_s3, q_qN, q_qS, q_qs, q_fld, q_fl, q_lk, q_meth, q_mc, q_mc2, q_md, q_make, q_mk, q_jsN, q_jsC, q_js, q_iAny, q_itL, q_itT, q_itS, q_iRg1, q_rg1, q_iRg2, q_rg2, q_rg3, q_comp, q_cm, q_noEx, q_w0, q_w1, q_seq, q_sqN, q_sqR, q_sqC, q_sqB, q_skip, q_cont, q_break, q_retN, q_set, q_st, q_setO, q_so, q_ret, q_rt, q_expr, q_ex, q_sIf, q_siT, q_siF, q_asg, q_as, q_ofE, q_append, q_ap0, q_ap, q_extend, q_xt0, q_xt, q_for, q_fo, q_boxSet, q_b1, q_b2, q_b3, q_bC, q_bB, q_fldSet, q_fs1, q_fs2, q_fsC, q_sFrz, q_tryNo, q_trN, q_trR, q_trC, q_trB, q_gTp, q_gNm, q_def, q_dN, q_dR, q_add, q_addS, q_addT, q_addL, q_sub, q_mul, q_mod, q_div, q_neg, q_le, q_ge, q_gt, q_lt, q_eq, q_ne, q_eqS, q_neS, q_ixT, q_ixL, q_ixB, q_lenT, q_lenL, q_int, q_tupleL, q_tupleT, q_cellL, q_cellLs, q_not, ofO_some, atI0, atI1, atI2, atI3, atI4, frzE, gAll, List.getElem?_cons_zero, List.getElem?_cons_succ, List.set_cons_zero, List.set_cons_succ, List.map_cons, List.map_nil, List.cons_append, List.nil_append, List.append_nil, List.length_cons, List.length_nil, Option.bind_some, Option.map_some, if_true, reduceIte, or_true, true_or, and_true, true_and, Bool.not_true, Bool.not_false, decide_true, decide_false, if_false, Bool.false_eq_true, List.replicate, Int.reduceLT, Int.reduceLE, Int.reduceEq, Int.reduceNe, Int.reduceNeg, Int.reducePow, Int.reduceSub, Nat.reduceLeDiff, Nat.reduceAdd, Nat.reduceSub, Nat.reduceLT, Nat.reduceEqDiff, Nat.reducePow, eq_self, false_and, and_false, false_or, or_false, not_true_eq_false, not_false_eq_true, isi_non_tuple, isi_non_int, isi_non_str, isi_non_bool, isi_non_list, isi_bl_tuple, isi_bl_int, isi_bl_str, isi_bl_bool, isi_bl_list, isi_int_tuple, isi_int_int, isi_int_str, isi_int_bool, isi_int_list, isi_str_tuple, isi_str_int, isi_str_str, isi_str_bool, isi_str_list, isi_tup_tuple, isi_tup_int, isi_tup_str, isi_tup_bool, isi_tup_list, isi_lst_tuple, isi_lst_int, isi_lst_str, isi_lst_bool, isi_lst_list, Int.cast_ofNat_Int, Int.natCast_one, Int.natCast_zero, q1, List.length_map, h2, cm, ms_join h.ml h.m, q_addS, c9, h5, mach_word h.m0, h1, h3, cw, q_addL, List.length_append, h6, List.map_append, List.map_map, Function.comp_def, List.append_assoc]

theorem emp_app (x : Str) : Str.empty ++ x = x := ext_tl (by rw [tl_append]; rfl)
theorem curve_join {c : List (Int × Int)} (h : c ≠ [] ∧ c.length ≤ 100 ∧ ∀ z, z ∈ c → Nm z.1 ∧ Nm z.2) : joinP (.str " ") (.lst (.str "curve" :: c.map fun z => .str (tPt z))) = some (.str (tCurve c)) := by
  have := joinP_strs " " 19 ("curve" :: c.map tPt) (fun a ha => by
    rcases List.mem_cons.mp ha with rfl | ha
    · rw [curve_len0]; omega
    · obtain ⟨z, hz, rfl⟩ := List.mem_map.mp ha
      exact tPt_len (h.2.2 z hz)) (by rw [sp_len, List.length_cons, List.length_map]; have := h.2.1; omega)
  unfold tCurve; simpa [List.map_map, Function.comp_def] using this
theorem mach_join {ms : List Int} (h : ms.length ≤ 100) (hn : ∀ m, m ∈ ms → Nm m) : joinP (.str " ") (.lst (.str "machines" :: ms.map fun z => .str (num z))) = some (.str (tMach ms)) := by
  have := joinP_strs " " 9 ("machines" :: ms.map num) (fun a ha => by
    rcases List.mem_cons.mp ha with rfl | ha
    · rw [machines_len0]; omega
    · obtain ⟨z, hz, rfl⟩ := List.mem_map.mp ha
      exact num_len (hn z hz).1 (hn z hz).2) (by rw [sp_len, List.length_cons, List.length_map]; omega)
  unfold tMach; simpa [List.map_map, Function.comp_def] using this
theorem wake_join {w : K4} (hn : ∀ m, m ∈ nums4 w → Nm m) : joinP (.str " ") (.lst (.str "wake" :: (nums4 w).map fun z => .str (num z))) = some (.str (tWake w)) := by
  have := joinP_strs " " 9 ("wake" :: (nums4 w).map num) (fun a ha => by
    rcases List.mem_cons.mp ha with rfl | ha
    · rw [wake_len0]; omega
    · obtain ⟨z, hz, rfl⟩ := List.mem_map.mp ha
      exact num_len (hn z hz).1 (hn z hz).2) (by rw [sp_len, List.length_cons, List.length_map]; unfold nums4; simp)
  unfold tWake; simpa [List.map_map, Function.comp_def] using this
theorem tLines_len {F : Farm} (h : NumF F) : ∀ l, l ∈ tLines F → l.length ≤ 2010 := fun l hl => by
  rcases List.mem_append.mp hl with hl | hl
  · obtain ⟨z, hz, rfl⟩ := List.mem_map.mp hl
    exact tCurve_len (h.c z hz)
  · rcases List.mem_cons.mp hl with rfl | hl
    · have := tMach_len h.m0 h.ml h.m; omega
    · obtain ⟨z, hz, rfl⟩ := List.mem_map.mp hl
      have := tWake_len (h.w z hz); omega
theorem lines_count {F : Farm} (h : NumF F) : (tLines F).length ≤ 1101 := by
  unfold tLines
  rw [List.length_append, List.length_cons, List.length_map, List.length_map]
  have := h.cl; have := h.wl; omega
theorem farm_join {F : Farm} (h : NumF F) : joinP (.str "\n") (.lst ((tLines F).map P.str)) = some (.str (tFarm F)) :=
  joinP_strs _ 2010 _ (tLines_len h) (by have := lines_count h; rw [nl_len]; omega)
theorem write_farm_eq {F : Farm} (h : NumF F) (b : Bx) : d_write_farm [encF F] b = .ok (.str (tFarm F)) b := by
  have hF : encF F = .tup [.tup (F.cs.map encC), .tup (F.ms.map .int), .tup (F.ws.map encK)] := rfl
  let X := F.cs.map encC
  let Y := F.ms.map P.int
  let Z := F.ws.map encK
  obtain ⟨e1, b1, q1, s2, q2, q3⟩ := for_exP (gf := gNm 2) (f := sAppend 1 (eMet1 joinP (eC (.str " ")) (eOp2 addP (eFrz (oLst (aCons (eC (.str "curve")) aNil))) (eFrz (oComp (iAny (eVar 2)) (gTp [(gNm 8), (gNm 9)]) tYesF (eJs [(eOp1 fmtP (eVar 8)), (eC (.str ",")), (eOp1 fmtP (eVar 9))] Str.empty) [8, 9])))))
    encC (fun pre e b' => ∃ s2 : PV.Slot, e = [.va (encF F), .ow (pre.map fun c => .str (tCurve c)), s2, .va (.tup X), .va (.tup Y), .va (.tup Z), .un, .un, .un, .un, .un] ∧ b' = b) (as := F.cs) (done := []) (fun pre a e b' hp iv => by
      obtain ⟨post, hp⟩ := hp
      obtain ⟨s2, rfl, rfl⟩ := iv
      have hpre : pre.length ≤ F.cs.length := by have := congrArg List.length hp; simp at this; omega
      have ha := h.c a (by rw [← List.nil_append F.cs, hp]; simp)
      have hc : compL (gTp [(gNm 8), (gNm 9)]) tYesF (eJs [(eOp1 fmtP (eVar 8)), (eC (.str ",")), (eOp1 fmtP (eVar 9))] Str.empty) [.va (encF F), .ow (pre.map fun c => .str (tCurve c)), .va (encC a), .va (.tup X), .va (.tup Y), .va (.tup Z), .un, .un, .un, .un, .un] (a.map encW) b' = .ok (a.map fun z => .str (tPt z)) b' :=
        comp_pl encW (fun z => .str (tPt z)) fun z hz => ⟨_, rfl, rfl, by
          have hz' := ha.2.2 z hz
          have l1 := num_len hz'.1.1 hz'.1.2
          have l2 := num_len hz'.2.1 hz'.2.2
          have l0 : (num z.1).length ≤ 16000000 := by omega
          have l3 : (num z.1).length + 1 ≤ 16000000 := by omega
          have l4 : (num z.1).length + 1 + (num z.2).length ≤ 16000000 := by omega
          unfold tPt
          simp -implicitDefEqProofs only [q_var, q_va, q_c, q_op2, q_2a, q_2b, q_op1, q_isi, q_call, q_oCall, q_oSort, q_1, q_fn, q_f, q_nil, q_cons, q_ca, q_cb, q_tup, q_tu, q_oLst, q_ol, q_and, q_andT, q_andF, q_or, q_orT, q_orF, q_if, q_ifT, q_ifF, q_tVal, q_tv, q_tAnd, q_taT, q_taF, q_tOr, q_toT, q_toF, q_tNot, q_tn, q_yes, q_frz, q_fz, q_box, q_bx, q_chain, q_c1, q_c2, q_c2T, q_c2F, q_c3, q_met1, q_m1, q_m2, q_sl, q_s1, q_s2, q_s3, q_qN, q_qS, q_qs, q_fld, q_fl, q_lk, q_meth, q_mc, q_mc2, q_md, q_make, q_mk, q_jsN, q_jsC, q_js, q_iAny, q_itL, q_itT, q_itS, q_iRg1, q_rg1, q_iRg2, q_rg2, q_rg3, q_comp, q_cm, q_noEx, q_w0, q_w1, q_seq, q_sqN, q_sqR, q_sqC, q_sqB, q_skip, q_cont, q_break, q_retN, q_set, q_st, q_setO, q_so, q_ret, q_rt, q_expr, q_ex, q_sIf, q_siT, q_siF, q_asg, q_as, q_ofE, q_append, q_ap0, q_ap, q_extend, q_xt0, q_xt, q_for, q_fo, q_boxSet, q_b1, q_b2, q_b3, q_bC, q_bB, q_fldSet, q_fs1, q_fs2, q_fsC, q_sFrz, q_tryNo, q_trN, q_trR, q_trC, q_trB, q_gTp, q_gNm, q_def, q_dN, q_dR, q_add, q_addS, q_addT, q_addL, q_sub, q_mul, q_mod, q_div, q_neg, q_le, q_ge, q_gt, q_lt, q_eq, q_ne, q_eqS, q_neS, q_ixT, q_ixL, q_ixB, q_lenT, q_lenL, q_int, q_tupleL, q_tupleT, q_cellL, q_cellLs, q_not, ofO_some, atI0, atI1, atI2, atI3, atI4, frzE, gAll, List.getElem?_cons_zero, List.getElem?_cons_succ, List.set_cons_zero, List.set_cons_succ, List.map_cons, List.map_nil, List.cons_append, List.nil_append, List.append_nil, List.length_cons, List.length_nil, Option.bind_some, Option.map_some, if_true, reduceIte, or_true, true_or, and_true, true_and, Bool.not_true, Bool.not_false, decide_true, decide_false, if_false, Bool.false_eq_true, List.replicate, Int.reduceLT, Int.reduceLE, Int.reduceEq, Int.reduceNe, Int.reduceNeg, Int.reducePow, Int.reduceSub, Nat.reduceLeDiff, Nat.reduceAdd, Nat.reduceSub, Nat.reduceLT, Nat.reduceEqDiff, Nat.reducePow, eq_self, false_and, and_false, false_or, or_false, not_true_eq_false, not_false_eq_true, isi_non_tuple, isi_non_int, isi_non_str, isi_non_bool, isi_non_list, isi_bl_tuple, isi_bl_int, isi_bl_str, isi_bl_bool, isi_bl_list, isi_int_tuple, isi_int_int, isi_int_str, isi_int_bool, isi_int_list, isi_str_tuple, isi_str_int, isi_str_str, isi_str_bool, isi_str_list, isi_tup_tuple, isi_tup_int, isi_tup_str, isi_tup_bool, isi_tup_list, isi_lst_tuple, isi_lst_int, isi_lst_str, isi_lst_bool, isi_lst_list, Int.cast_ofNat_Int, Int.natCast_one, Int.natCast_zero, fmtP_num hz'.1.w, fmtP_num hz'.2.w, emp_app, len_app, comma_len, l0, l3, l4]⟩
      have h1 : a.length < 1000000 := by have := ha.2.1; omega
      have h3 : 1 + a.length ≤ 1000000 := by omega
      have h4 : pre.length < 1000000 := by have := h.cl; omega
      refine ⟨_, [.va (encF F), .ow ((pre ++ [a]).map fun c => .str (tCurve c)), .va (encC a), .va (.tup X), .va (.tup Y), .va (.tup Z), .un, .un, .un, .un, .un], b', rfl, .inl ?_, _, rfl, rfl⟩
      have hk : encC a = .tup (a.map encW) := rfl
      rw [hk] at hc ⊢
      simp -implicitDefEqProofs only [q_var, q_va, q_c, q_op2, q_2a, q_2b, q_op1, q_isi, q_call, q_oCall, q_oSort, q_1, q_fn, q_f, q_nil, q_cons, q_ca, q_cb, q_tup, q_tu, q_oLst, q_ol, q_and, q_andT, q_andF, q_or, q_orT, q_orF, q_if, q_ifT, q_ifF, q_tVal, q_tv, q_tAnd, q_taT, q_taF, q_tOr, q_toT, q_toF, q_tNot, q_tn, q_yes, q_frz, q_fz, q_box, q_bx, q_chain, q_c1, q_c2, q_c2T, q_c2F, q_c3, q_met1, q_m1, q_m2, q_sl, q_s1, q_s2, q_s3, q_qN, q_qS, q_qs, q_fld, q_fl, q_lk, q_meth, q_mc, q_mc2, q_md, q_make, q_mk, q_jsN, q_jsC, q_js, q_iAny, q_itL, q_itT, q_itS, q_iRg1, q_rg1, q_iRg2, q_rg2, q_rg3, q_comp, q_cm, q_noEx, q_w0, q_w1, q_seq, q_sqN, q_sqR, q_sqC, q_sqB, q_skip, q_cont, q_break, q_retN, q_set, q_st, q_setO, q_so, q_ret, q_rt, q_expr, q_ex, q_sIf, q_siT, q_siF, q_asg, q_as, q_ofE, q_append, q_ap0, q_ap, q_extend, q_xt0, q_xt, q_for, q_fo, q_boxSet, q_b1, q_b2, q_b3, q_bC, q_bB, q_fldSet, q_fs1, q_fs2, q_fsC, q_sFrz, q_tryNo, q_trN, q_trR, q_trC, q_trB, q_gTp, q_gNm, q_def, q_dN, q_dR, q_add, q_addS, q_addT, q_addL, q_sub, q_mul, q_mod, q_div, q_neg, q_le, q_ge, q_gt, q_lt, q_eq, q_ne, q_eqS, q_neS, q_ixT, q_ixL, q_ixB, q_lenT, q_lenL, q_int, q_tupleL, q_tupleT, q_cellL, q_cellLs, q_not, ofO_some, atI0, atI1, atI2, atI3, atI4, frzE, gAll, List.getElem?_cons_zero, List.getElem?_cons_succ, List.set_cons_zero, List.set_cons_succ, List.map_cons, List.map_nil, List.cons_append, List.nil_append, List.append_nil, List.length_cons, List.length_nil, Option.bind_some, Option.map_some, if_true, reduceIte, or_true, true_or, and_true, true_and, Bool.not_true, Bool.not_false, decide_true, decide_false, if_false, Bool.false_eq_true, List.replicate, Int.reduceLT, Int.reduceLE, Int.reduceEq, Int.reduceNe, Int.reduceNeg, Int.reducePow, Int.reduceSub, Nat.reduceLeDiff, Nat.reduceAdd, Nat.reduceSub, Nat.reduceLT, Nat.reduceEqDiff, Nat.reducePow, eq_self, false_and, and_false, false_or, or_false, not_true_eq_false, not_false_eq_true, isi_non_tuple, isi_non_int, isi_non_str, isi_non_bool, isi_non_list, isi_bl_tuple, isi_bl_int, isi_bl_str, isi_bl_bool, isi_bl_list, isi_int_tuple, isi_int_int, isi_int_str, isi_int_bool, isi_int_list, isi_str_tuple, isi_str_int, isi_str_str, isi_str_bool, isi_str_list, isi_tup_tuple, isi_tup_int, isi_tup_str, isi_tup_bool, isi_tup_list, isi_lst_tuple, isi_lst_int, isi_lst_str, isi_lst_bool, isi_lst_list, Int.cast_ofNat_Int, Int.natCast_one, Int.natCast_zero, List.length_map, h1, hc, h3, curve_join ha, h4, List.map_append]) [.va (encF F), .ow [], .un, .va (.tup X), .va (.tup Y), .va (.tup Z), .un, .un, .un, .un, .un] b ⟨_, rfl, rfl⟩
  obtain rfl : b = b1 := q3.symm
  subst q2
  rw [List.nil_append] at q1
  have cm : ∀ s2 l1, compL (gNm 7) tYesF (eCall strP (aCons (eVar 7) aNil)) [.va (encF F), .ow l1, s2, .va (.tup X), .va (.tup Y), .va (.tup Z), .un, .un, .un, .un, .un] (F.ms.map P.int) b = .ok (F.ms.map fun m => .str (num m)) b := fun s2 l1 =>
    comp_pl P.int (fun m => .str (num m)) fun m hm => ⟨_, rfl, rfl, by simp -implicitDefEqProofs only [q_var, q_va, q_c, q_op2, q_2a, q_2b, q_op1, q_isi, q_call, q_oCall, q_oSort, q_1, q_fn, q_f, q_nil, q_cons, q_ca, q_cb, q_tup, q_tu, q_oLst, q_ol, q_and, q_andT, q_andF, q_or, q_orT, q_orF, q_if, q_ifT, q_ifF, q_tVal, q_tv, q_tAnd, q_taT, q_taF, q_tOr, q_toT, q_toF, q_tNot, q_tn, q_yes, q_frz, q_fz, q_box, q_bx, q_chain, q_c1, q_c2, q_c2T, q_c2F, q_c3, q_met1, q_m1, q_m2, q_sl, q_s1, q_s2, q_s3, q_qN, q_qS, q_qs, q_fld, q_fl, q_lk, q_meth, q_mc, q_mc2, q_md, q_make, q_mk, q_jsN, q_jsC, q_js, q_iAny, q_itL, q_itT, q_itS, q_iRg1, q_rg1, q_iRg2, q_rg2, q_rg3, q_comp, q_cm, q_noEx, q_w0, q_w1, q_seq, q_sqN, q_sqR, q_sqC, q_sqB, q_skip, q_cont, q_break, q_retN, q_set, q_st, q_setO, q_so, q_ret, q_rt, q_expr, q_ex, q_sIf, q_siT, q_siF, q_asg, q_as, q_ofE, q_append, q_ap0, q_ap, q_extend, q_xt0, q_xt, q_for, q_fo, q_boxSet, q_b1, q_b2, q_b3, q_bC, q_bB, q_fldSet, q_fs1, q_fs2, q_fsC, q_sFrz, q_tryNo, q_trN, q_trR, q_trC, q_trB, q_gTp, q_gNm, q_def, q_dN, q_dR, q_add, q_addS, q_addT, q_addL, q_sub, q_mul, q_mod, q_div, q_neg, q_le, q_ge, q_gt, q_lt, q_eq, q_ne, q_eqS, q_neS, q_ixT, q_ixL, q_ixB, q_lenT, q_lenL, q_int, q_tupleL, q_tupleT, q_cellL, q_cellLs, q_not, ofO_some, atI0, atI1, atI2, atI3, atI4, frzE, gAll, List.getElem?_cons_zero, List.getElem?_cons_succ, List.set_cons_zero, List.set_cons_succ, List.map_cons, List.map_nil, List.cons_append, List.nil_append, List.append_nil, List.length_cons, List.length_nil, Option.bind_some, Option.map_some, if_true, reduceIte, or_true, true_or, and_true, true_and, Bool.not_true, Bool.not_false, decide_true, decide_false, if_false, Bool.false_eq_true, List.replicate, Int.reduceLT, Int.reduceLE, Int.reduceEq, Int.reduceNe, Int.reduceNeg, Int.reducePow, Int.reduceSub, Nat.reduceLeDiff, Nat.reduceAdd, Nat.reduceSub, Nat.reduceLT, Nat.reduceEqDiff, Nat.reducePow, eq_self, false_and, and_false, false_or, or_false, not_true_eq_false, not_false_eq_true, isi_non_tuple, isi_non_int, isi_non_str, isi_non_bool, isi_non_list, isi_bl_tuple, isi_bl_int, isi_bl_str, isi_bl_bool, isi_bl_list, isi_int_tuple, isi_int_int, isi_int_str, isi_int_bool, isi_int_list, isi_str_tuple, isi_str_int, isi_str_str, isi_str_bool, isi_str_list, isi_tup_tuple, isi_tup_int, isi_tup_str, isi_tup_bool, isi_tup_list, isi_lst_tuple, isi_lst_int, isi_lst_str, isi_lst_bool, isi_lst_list, Int.cast_ofNat_Int, Int.natCast_one, Int.natCast_zero, strP_num (h.m m hm).w]⟩
  have cw : ∀ s2 l1, compL (gNm 6) tYesF (eMet1 joinP (eC (.str " ")) (eOp2 addP (eFrz (oLst (aCons (eC (.str "wake")) aNil))) (eFrz (oComp (iAny (eVar 6)) (gNm 10) tYesF (eCall strP (aCons (eVar 10) aNil)) [10])))) [.va (encF F), l1, s2, .va (.tup X), .va (.tup Y), .va (.tup Z), .un, .un, .un, .un, .un] (F.ws.map encK) b = .ok (F.ws.map fun w => .str (tWake w)) b := fun s2 l1 =>
    comp_pl encK (fun w => .str (tWake w)) fun w hw => ⟨_, rfl, rfl, by
      have hn := h.w w hw
      have ci : compL (gNm 10) tYesF (eCall strP (aCons (eVar 10) aNil)) [.va (encF F), l1, s2, .va (.tup X), .va (.tup Y), .va (.tup Z), .va (encK w), .un, .un, .un, .un] ((nums4 w).map P.int) b = .ok ((nums4 w).map fun m => .str (num m)) b :=
        comp_pl P.int (fun m => .str (num m)) fun m hm => ⟨_, rfl, rfl, by simp -implicitDefEqProofs only [q_var, q_va, q_c, q_op2, q_2a, q_2b, q_op1, q_isi, q_call, q_oCall, q_oSort, q_1, q_fn, q_f, q_nil, q_cons, q_ca, q_cb, q_tup, q_tu, q_oLst, q_ol, q_and, q_andT, q_andF, q_or, q_orT, q_orF, q_if, q_ifT, q_ifF, q_tVal, q_tv, q_tAnd, q_taT, q_taF, q_tOr, q_toT, q_toF, q_tNot, q_tn, q_yes, q_frz, q_fz, q_box, q_bx, q_chain, q_c1, q_c2, q_c2T, q_c2F, q_c3, q_met1, q_m1, q_m2, q_sl, q_s1, q_s2, q_s3, q_qN, q_qS, q_qs, q_fld, q_fl, q_lk, q_meth, q_mc, q_mc2, q_md, q_make, q_mk, q_jsN, q_jsC, q_js, q_iAny, q_itL, q_itT, q_itS, q_iRg1, q_rg1, q_iRg2, q_rg2, q_rg3, q_comp, q_cm, q_noEx, q_w0, q_w1, q_seq, q_sqN, q_sqR, q_sqC, q_sqB, q_skip, q_cont, q_break, q_retN, q_set, q_st, q_setO, q_so, q_ret, q_rt, q_expr, q_ex, q_sIf, q_siT, q_siF, q_asg, q_as, q_ofE, q_append, q_ap0, q_ap, q_extend, q_xt0, q_xt, q_for, q_fo, q_boxSet, q_b1, q_b2, q_b3, q_bC, q_bB, q_fldSet, q_fs1, q_fs2, q_fsC, q_sFrz, q_tryNo, q_trN, q_trR, q_trC, q_trB, q_gTp, q_gNm, q_def, q_dN, q_dR, q_add, q_addS, q_addT, q_addL, q_sub, q_mul, q_mod, q_div, q_neg, q_le, q_ge, q_gt, q_lt, q_eq, q_ne, q_eqS, q_neS, q_ixT, q_ixL, q_ixB, q_lenT, q_lenL, q_int, q_tupleL, q_tupleT, q_cellL, q_cellLs, q_not, ofO_some, atI0, atI1, atI2, atI3, atI4, frzE, gAll, List.getElem?_cons_zero, List.getElem?_cons_succ, List.set_cons_zero, List.set_cons_succ, List.map_cons, List.map_nil, List.cons_append, List.nil_append, List.append_nil, List.length_cons, List.length_nil, Option.bind_some, Option.map_some, if_true, reduceIte, or_true, true_or, and_true, true_and, Bool.not_true, Bool.not_false, decide_true, decide_false, if_false, Bool.false_eq_true, List.replicate, Int.reduceLT, Int.reduceLE, Int.reduceEq, Int.reduceNe, Int.reduceNeg, Int.reducePow, Int.reduceSub, Nat.reduceLeDiff, Nat.reduceAdd, Nat.reduceSub, Nat.reduceLT, Nat.reduceEqDiff, Nat.reducePow, eq_self, false_and, and_false, false_or, or_false, not_true_eq_false, not_false_eq_true, isi_non_tuple, isi_non_int, isi_non_str, isi_non_bool, isi_non_list, isi_bl_tuple, isi_bl_int, isi_bl_str, isi_bl_bool, isi_bl_list, isi_int_tuple, isi_int_int, isi_int_str, isi_int_bool, isi_int_list, isi_str_tuple, isi_str_int, isi_str_str, isi_str_bool, isi_str_list, isi_tup_tuple, isi_tup_int, isi_tup_str, isi_tup_bool, isi_tup_list, isi_lst_tuple, isi_lst_int, isi_lst_str, isi_lst_bool, isi_lst_list, Int.cast_ofNat_Int, Int.natCast_one, Int.natCast_zero, strP_num (hn m hm).w]⟩
      have hk : encK w = .tup ((nums4 w).map P.int) := rfl
      have h1 : (nums4 w).length < 1000000 := by unfold nums4; simp
      have h3 : 1 + (nums4 w).length ≤ 1000000 := by unfold nums4; simp
      rw [hk] at ci ⊢
      simp -implicitDefEqProofs only [q_var, q_va, q_c, q_op2, q_2a, q_2b, q_op1, q_isi, q_call, q_oCall, q_oSort, q_1, q_fn, q_f, q_nil, q_cons, q_ca, q_cb, q_tup, q_tu, q_oLst, q_ol, q_and, q_andT, q_andF, q_or, q_orT, q_orF, q_if, q_ifT, q_ifF, q_tVal, q_tv, q_tAnd, q_taT, q_taF, q_tOr, q_toT, q_toF, q_tNot, q_tn, q_yes, q_frz, q_fz, q_box, q_bx, q_chain, q_c1, q_c2, q_c2T, q_c2F, q_c3, q_met1, q_m1, q_m2, q_sl, q_s1, q_s2, q_s3, q_qN, q_qS, q_qs, q_fld, q_fl, q_lk, q_meth, q_mc, q_mc2, q_md, q_make, q_mk, q_jsN, q_jsC, q_js, q_iAny, q_itL, q_itT, q_itS, q_iRg1, q_rg1, q_iRg2, q_rg2, q_rg3, q_comp, q_cm, q_noEx, q_w0, q_w1, q_seq, q_sqN, q_sqR, q_sqC, q_sqB, q_skip, q_cont, q_break, q_retN, q_set, q_st, q_setO, q_so, q_ret, q_rt, q_expr, q_ex, q_sIf, q_siT, q_siF, q_asg, q_as, q_ofE, q_append, q_ap0, q_ap, q_extend, q_xt0, q_xt, q_for, q_fo, q_boxSet, q_b1, q_b2, q_b3, q_bC, q_bB, q_fldSet, q_fs1, q_fs2, q_fsC, q_sFrz, q_tryNo, q_trN, q_trR, q_trC, q_trB, q_gTp, q_gNm, q_def, q_dN, q_dR, q_add, q_addS, q_addT, q_addL, q_sub, q_mul, q_mod, q_div, q_neg, q_le, q_ge, q_gt, q_lt, q_eq, q_ne, q_eqS, q_neS, q_ixT, q_ixL, q_ixB, q_lenT, q_lenL, q_int, q_tupleL, q_tupleT, q_cellL, q_cellLs, q_not, ofO_some, atI0, atI1, atI2, atI3, atI4, frzE, gAll, List.getElem?_cons_zero, List.getElem?_cons_succ, List.set_cons_zero, List.set_cons_succ, List.map_cons, List.map_nil, List.cons_append, List.nil_append, List.append_nil, List.length_cons, List.length_nil, Option.bind_some, Option.map_some, if_true, reduceIte, or_true, true_or, and_true, true_and, Bool.not_true, Bool.not_false, decide_true, decide_false, if_false, Bool.false_eq_true, List.replicate, Int.reduceLT, Int.reduceLE, Int.reduceEq, Int.reduceNe, Int.reduceNeg, Int.reducePow, Int.reduceSub, Nat.reduceLeDiff, Nat.reduceAdd, Nat.reduceSub, Nat.reduceLT, Nat.reduceEqDiff, Nat.reducePow, eq_self, false_and, and_false, false_or, or_false, not_true_eq_false, not_false_eq_true, isi_non_tuple, isi_non_int, isi_non_str, isi_non_bool, isi_non_list, isi_bl_tuple, isi_bl_int, isi_bl_str, isi_bl_bool, isi_bl_list, isi_int_tuple, isi_int_int, isi_int_str, isi_int_bool, isi_int_list, isi_str_tuple, isi_str_int, isi_str_str, isi_str_bool, isi_str_list, isi_tup_tuple, isi_tup_int, isi_tup_str, isi_tup_bool, isi_tup_list, isi_lst_tuple, isi_lst_int, isi_lst_str, isi_lst_bool, isi_lst_list, Int.cast_ofNat_Int, Int.natCast_one, Int.natCast_zero, List.length_map, h1, ci, h3, wake_join hn]⟩
  have h1 : F.cs.length < 1000000 := by have := h.cl; omega
  have h2 : F.ms.length < 1000000 := by have := h.ml; omega
  have h3 : F.ws.length < 1000000 := by have := h.wl; omega
  have h5 : 1 + F.ms.length ≤ 1000000 := by omega
  have h6 : F.cs.length + 1 + F.ws.length ≤ 1000000 := by have := h.cl; have := h.wl; omega
  have hj : joinP (.str "\n") (.lst ((F.cs.map fun c => P.str (tCurve c)) ++ (P.str (tMach F.ms) :: F.ws.map fun w => P.str (tWake w)))) = some (.str (tFarm F)) := by
    have := farm_join h
    unfold tLines at this
    simpa [List.map_append, List.map_map, Function.comp_def] using this
  simp only [X, Y, Z] at q1 cm cw
  unfold d_write_farm b_write_farm
  rw [hF] at q1 cm cw ⊢
  simp -implicitDefEqProofs only [q_var, q_va, q_c, q_op2, q_2a, q_2b, q_op1, q_isi, q_call, q_oCall, q_oSort, q_1, q_fn, q_f, q_nil, q_cons, q_ca, q_cb, q_tup, q_tu, q_oLst, q_ol, q_and, q_andT, q_andF, q_or, q_orT, q_orF, q_if, q_ifT, q_ifF, q_tVal, q_tv, q_tAnd, q_taT, q_taF, q_tOr, q_toT, q_toF, q_tNot, q_tn, q_yes, q_frz, q_fz, q_box, q_bx, q_chain, q_c1, q_c2, q_c2T, q_c2F, q_c3, q_met1, q_m1, q_m2, q_sl, q_s1, q_s2, q_s3, q_qN, q_qS, q_qs, q_fld, q_fl, q_lk, q_meth, q_mc, q_mc2, q_md, q_make, q_mk, q_jsN, q_jsC, q_js, q_iAny, q_itL, q_itT, q_itS, q_iRg1, q_rg1, q_iRg2, q_rg2, q_rg3, q_comp, q_cm, q_noEx, q_w0, q_w1, q_seq, q_sqN, q_sqR, q_sqC, q_sqB, q_skip, q_cont, q_break, q_retN, q_set, q_st, q_setO, q_so, q_ret, q_rt, q_expr, q_ex, q_sIf, q_siT, q_siF, q_asg, q_as, q_ofE, q_append, q_ap0, q_ap, q_extend, q_xt0, q_xt, q_for, q_fo, q_boxSet, q_b1, q_b2, q_b3, q_bC, q_bB, q_fldSet, q_fs1, q_fs2, q_fsC, q_sFrz, q_tryNo, q_trN, q_trR, q_trC, q_trB, q_gTp, q_gNm, q_def, q_dN, q_dR, q_add, q_addS, q_addT, q_addL, q_sub, q_mul, q_mod, q_div, q_neg, q_le, q_ge, q_gt, q_lt, q_eq, q_ne, q_eqS, q_neS, q_ixT, q_ixL, q_ixB, q_lenT, q_lenL, q_int, q_tupleL, q_tupleT, q_cellL, q_cellLs, q_not, ofO_some, atI0, atI1, atI2, atI3, atI4, frzE, gAll, List.getElem?_cons_zero, List.getElem?_cons_succ, List.set_cons_zero, List.set_cons_succ, List.map_cons, List.map_nil, List.cons_append, List.nil_append, List.append_nil, List.length_cons, List.length_nil, Option.bind_some, Option.map_some, if_true, reduceIte, or_true, true_or, and_true, true_and, Bool.not_true, Bool.not_false, decide_true, decide_false, if_false, Bool.false_eq_true, List.replicate, Int.reduceLT, Int.reduceLE, Int.reduceEq, Int.reduceNe, Int.reduceNeg, Int.reducePow, Int.reduceSub, Nat.reduceLeDiff, Nat.reduceAdd, Nat.reduceSub, Nat.reduceLT, Nat.reduceEqDiff, Nat.reducePow, eq_self, false_and, and_false, false_or, or_false, not_true_eq_false, not_false_eq_true, isi_non_tuple, isi_non_int, isi_non_str, isi_non_bool, isi_non_list, isi_bl_tuple, isi_bl_int, isi_bl_str, isi_bl_bool, isi_bl_list, isi_int_tuple, isi_int_int, isi_int_str, isi_int_bool, isi_int_list, isi_str_tuple, isi_str_int, isi_str_str, isi_str_bool, isi_str_list, isi_tup_tuple, isi_tup_int, isi_tup_str, isi_tup_bool, isi_tup_list, isi_lst_tuple, isi_lst_int, isi_lst_str, isi_lst_bool, isi_lst_list, Int.cast_ofNat_Int, Int.natCast_one, Int.natCast_zero, q1, List.length_map, h2, cm, h5, mach_join h.ml h.m, h1, h3, cw, q_addL, List.length_append, h6, List.append_assoc, hj]

/-! ### is_farm -/
theorem is_whole_eq {b : Bx} {i : Int} : d_is_whole [.int i] b = .ok (.bl true) b := by
  unfold d_is_whole b_is_whole
  simp -implicitDefEqProofs only [q_var, q_va, q_c, q_op2, q_2a, q_2b, q_op1, q_isi, q_call, q_oCall, q_oSort, q_1, q_fn, q_f, q_nil, q_cons, q_ca, q_cb, q_tup, q_tu, q_oLst, q_ol, q_and, q_andT, q_andF, q_or, q_orT, q_orF, q_if, q_ifT, q_ifF, q_tVal, q_tv, q_tAnd, q_taT, q_taF, q_tOr, q_toT, q_toF, q_tNot, q_tn, q_yes, q_frz, q_fz, q_box, q_bx, q_chain, q_c1, q_c2, q_c2T, q_c2F, q_c3, q_met1, q_m1, q_m2, q_sl, q_s1, q_s2, q_s3, q_qN, q_qS, q_qs, q_fld, q_fl, q_lk, q_meth, q_mc, q_mc2, q_md, q_make, q_mk, q_jsN, q_jsC, q_js, q_iAny, q_itL, q_itT, q_itS, q_iRg1, q_rg1, q_iRg2, q_rg2, q_rg3, q_comp, q_cm, q_noEx, q_w0, q_w1, q_seq, q_sqN, q_sqR, q_sqC, q_sqB, q_skip, q_cont, q_break, q_retN, q_set, q_st, q_setO, q_so, q_ret, q_rt, q_expr, q_ex, q_sIf, q_siT, q_siF, q_asg, q_as, q_ofE, q_append, q_ap0, q_ap, q_extend, q_xt0, q_xt, q_for, q_fo, q_boxSet, q_b1, q_b2, q_b3, q_bC, q_bB, q_fldSet, q_fs1, q_fs2, q_fsC, q_sFrz, q_tryNo, q_trN, q_trR, q_trC, q_trB, q_gTp, q_gNm, q_def, q_dN, q_dR, q_add, q_addS, q_addT, q_addL, q_sub, q_mul, q_mod, q_div, q_neg, q_le, q_ge, q_gt, q_lt, q_eq, q_ne, q_eqS, q_neS, q_ixT, q_ixL, q_ixB, q_lenT, q_lenL, q_int, q_tupleL, q_tupleT, q_cellL, q_cellLs, q_not, ofO_some, atI0, atI1, atI2, atI3, atI4, frzE, gAll, List.getElem?_cons_zero, List.getElem?_cons_succ, List.set_cons_zero, List.set_cons_succ, List.map_cons, List.map_nil, List.cons_append, List.nil_append, List.append_nil, List.length_cons, List.length_nil, Option.bind_some, Option.map_some, if_true, reduceIte, or_true, true_or, and_true, true_and, Bool.not_true, Bool.not_false, decide_true, decide_false, if_false, Bool.false_eq_true, List.replicate, Int.reduceLT, Int.reduceLE, Int.reduceEq, Int.reduceNe, Int.reduceNeg, Int.reducePow, Int.reduceSub, Nat.reduceLeDiff, Nat.reduceAdd, Nat.reduceSub, Nat.reduceLT, Nat.reduceEqDiff, Nat.reducePow, eq_self, false_and, and_false, false_or, or_false, not_true_eq_false, not_false_eq_true, isi_non_tuple, isi_non_int, isi_non_str, isi_non_bool, isi_non_list, isi_bl_tuple, isi_bl_int, isi_bl_str, isi_bl_bool, isi_bl_list, isi_int_tuple, isi_int_int, isi_int_str, isi_int_bool, isi_int_list, isi_str_tuple, isi_str_int, isi_str_str, isi_str_bool, isi_str_list, isi_tup_tuple, isi_tup_int, isi_tup_str, isi_tup_bool, isi_tup_list, isi_lst_tuple, isi_lst_int, isi_lst_str, isi_lst_bool, isi_lst_list, Int.cast_ofNat_Int, Int.natCast_one, Int.natCast_zero]
theorem is_from_eq {b : Bx} {i lo hi : Int} (h0 : lo ≤ i) (h1 : i ≤ hi) : d_is_from [.int i, .int lo, .int hi] b = .ok (.bl true) b := by
  unfold d_is_from b_is_from
  simp -implicitDefEqProofs only [q_var, q_va, q_c, q_op2, q_2a, q_2b, q_op1, q_isi, q_call, q_oCall, q_oSort, q_1, q_fn, q_f, q_nil, q_cons, q_ca, q_cb, q_tup, q_tu, q_oLst, q_ol, q_and, q_andT, q_andF, q_or, q_orT, q_orF, q_if, q_ifT, q_ifF, q_tVal, q_tv, q_tAnd, q_taT, q_taF, q_tOr, q_toT, q_toF, q_tNot, q_tn, q_yes, q_frz, q_fz, q_box, q_bx, q_chain, q_c1, q_c2, q_c2T, q_c2F, q_c3, q_met1, q_m1, q_m2, q_sl, q_s1, q_s2, q_s3, q_qN, q_qS, q_qs, q_fld, q_fl, q_lk, q_meth, q_mc, q_mc2, q_md, q_make, q_mk, q_jsN, q_jsC, q_js, q_iAny, q_itL, q_itT, q_itS, q_iRg1, q_rg1, q_iRg2, q_rg2, q_rg3, q_comp, q_cm, q_noEx, q_w0, q_w1, q_seq, q_sqN, q_sqR, q_sqC, q_sqB, q_skip, q_cont, q_break, q_retN, q_set, q_st, q_setO, q_so, q_ret, q_rt, q_expr, q_ex, q_sIf, q_siT, q_siF, q_asg, q_as, q_ofE, q_append, q_ap0, q_ap, q_extend, q_xt0, q_xt, q_for, q_fo, q_boxSet, q_b1, q_b2, q_b3, q_bC, q_bB, q_fldSet, q_fs1, q_fs2, q_fsC, q_sFrz, q_tryNo, q_trN, q_trR, q_trC, q_trB, q_gTp, q_gNm, q_def, q_dN, q_dR, q_add, q_addS, q_addT, q_addL, q_sub, q_mul, q_mod, q_div, q_neg, q_le, q_ge, q_gt, q_lt, q_eq, q_ne, q_eqS, q_neS, q_ixT, q_ixL, q_ixB, q_lenT, q_lenL, q_int, q_tupleL, q_tupleT, q_cellL, q_cellLs, q_not, ofO_some, atI0, atI1, atI2, atI3, atI4, frzE, gAll, List.getElem?_cons_zero, List.getElem?_cons_succ, List.set_cons_zero, List.set_cons_succ, List.map_cons, List.map_nil, List.cons_append, List.nil_append, List.append_nil, List.length_cons, List.length_nil, Option.bind_some, Option.map_some, if_true, reduceIte, or_true, true_or, and_true, true_and, Bool.not_true, Bool.not_false, decide_true, decide_false, if_false, Bool.false_eq_true, List.replicate, Int.reduceLT, Int.reduceLE, Int.reduceEq, Int.reduceNe, Int.reduceNeg, Int.reducePow, Int.reduceSub, Nat.reduceLeDiff, Nat.reduceAdd, Nat.reduceSub, Nat.reduceLT, Nat.reduceEqDiff, Nat.reducePow, eq_self, false_and, and_false, false_or, or_false, not_true_eq_false, not_false_eq_true, isi_non_tuple, isi_non_int, isi_non_str, isi_non_bool, isi_non_list, isi_bl_tuple, isi_bl_int, isi_bl_str, isi_bl_bool, isi_bl_list, isi_int_tuple, isi_int_int, isi_int_str, isi_int_bool, isi_int_list, isi_str_tuple, isi_str_int, isi_str_str, isi_str_bool, isi_str_list, isi_tup_tuple, isi_tup_int, isi_tup_str, isi_tup_bool, isi_tup_list, isi_lst_tuple, isi_lst_int, isi_lst_str, isi_lst_bool, isi_lst_list, Int.cast_ofNat_Int, Int.natCast_one, Int.natCast_zero, is_whole_eq, h0, h1]
theorem is_row_eq {b : Bx} {xs : List Int} {n lo hi : Int} (hn : (xs.length : Int) = n) (hl : xs.length < 1000000) (h : ∀ x, x ∈ xs → lo ≤ x ∧ x ≤ hi) : d_is_row [.tup (xs.map .int), .int n, .int lo, .int hi] b = .ok (.bl true) b := by
  have hc : compL (gNm 4) tYesF (eFn d_is_from (aCons (eVar 4) (aCons (eVar 2) (aCons (eVar 3) aNil)))) [.va (.tup (xs.map .int)), .va (.int n), .va (.int lo), .va (.int hi), .un] (xs.map P.int) b = .ok (xs.map fun _ => .bl true) b :=
    comp_pl P.int (fun _ => .bl true) fun x hx => ⟨_, rfl, rfl, by simp -implicitDefEqProofs only [q_var, q_va, q_c, q_op2, q_2a, q_2b, q_op1, q_isi, q_call, q_oCall, q_oSort, q_1, q_fn, q_f, q_nil, q_cons, q_ca, q_cb, q_tup, q_tu, q_oLst, q_ol, q_and, q_andT, q_andF, q_or, q_orT, q_orF, q_if, q_ifT, q_ifF, q_tVal, q_tv, q_tAnd, q_taT, q_taF, q_tOr, q_toT, q_toF, q_tNot, q_tn, q_yes, q_frz, q_fz, q_box, q_bx, q_chain, q_c1, q_c2, q_c2T, q_c2F, q_c3, q_met1, q_m1, q_m2, q_sl, q_s1, q_s2, q_s3, q_qN, q_qS, q_qs, q_fld, q_fl, q_lk, q_meth, q_mc, q_mc2, q_md, q_make, q_mk, q_jsN, q_jsC, q_js, q_iAny, q_itL, q_itT, q_itS, q_iRg1, q_rg1, q_iRg2, q_rg2, q_rg3, q_comp, q_cm, q_noEx, q_w0, q_w1, q_seq, q_sqN, q_sqR, q_sqC, q_sqB, q_skip, q_cont, q_break, q_retN, q_set, q_st, q_setO, q_so, q_ret, q_rt, q_expr, q_ex, q_sIf, q_siT, q_siF, q_asg, q_as, q_ofE, q_append, q_ap0, q_ap, q_extend, q_xt0, q_xt, q_for, q_fo, q_boxSet, q_b1, q_b2, q_b3, q_bC, q_bB, q_fldSet, q_fs1, q_fs2, q_fsC, q_sFrz, q_tryNo, q_trN, q_trR, q_trC, q_trB, q_gTp, q_gNm, q_def, q_dN, q_dR, q_add, q_addS, q_addT, q_addL, q_sub, q_mul, q_mod, q_div, q_neg, q_le, q_ge, q_gt, q_lt, q_eq, q_ne, q_eqS, q_neS, q_ixT, q_ixL, q_ixB, q_lenT, q_lenL, q_int, q_tupleL, q_tupleT, q_cellL, q_cellLs, q_not, ofO_some, atI0, atI1, atI2, atI3, atI4, frzE, gAll, List.getElem?_cons_zero, List.getElem?_cons_succ, List.set_cons_zero, List.set_cons_succ, List.map_cons, List.map_nil, List.cons_append, List.nil_append, List.append_nil, List.length_cons, List.length_nil, Option.bind_some, Option.map_some, if_true, reduceIte, or_true, true_or, and_true, true_and, Bool.not_true, Bool.not_false, decide_true, decide_false, if_false, Bool.false_eq_true, List.replicate, Int.reduceLT, Int.reduceLE, Int.reduceEq, Int.reduceNe, Int.reduceNeg, Int.reducePow, Int.reduceSub, Nat.reduceLeDiff, Nat.reduceAdd, Nat.reduceSub, Nat.reduceLT, Nat.reduceEqDiff, Nat.reducePow, eq_self, false_and, and_false, false_or, or_false, not_true_eq_false, not_false_eq_true, isi_non_tuple, isi_non_int, isi_non_str, isi_non_bool, isi_non_list, isi_bl_tuple, isi_bl_int, isi_bl_str, isi_bl_bool, isi_bl_list, isi_int_tuple, isi_int_int, isi_int_str, isi_int_bool, isi_int_list, isi_str_tuple, isi_str_int, isi_str_str, isi_str_bool, isi_str_list, isi_tup_tuple, isi_tup_int, isi_tup_str, isi_tup_bool, isi_tup_list, isi_lst_tuple, isi_lst_int, isi_lst_str, isi_lst_bool, isi_lst_list, Int.cast_ofNat_Int, Int.natCast_one, Int.natCast_zero, is_from_eq (h x hx).1 (h x hx).2]⟩
  have ha : allP b [.lst (xs.map fun _ => .bl true)] = some (.bl true) := by rw [all_map xs fun _ => true]; simp
  unfold d_is_row b_is_row
  simp -implicitDefEqProofs only [q_var, q_va, q_c, q_op2, q_2a, q_2b, q_op1, q_isi, q_call, q_oCall, q_oSort, q_1, q_fn, q_f, q_nil, q_cons, q_ca, q_cb, q_tup, q_tu, q_oLst, q_ol, q_and, q_andT, q_andF, q_or, q_orT, q_orF, q_if, q_ifT, q_ifF, q_tVal, q_tv, q_tAnd, q_taT, q_taF, q_tOr, q_toT, q_toF, q_tNot, q_tn, q_yes, q_frz, q_fz, q_box, q_bx, q_chain, q_c1, q_c2, q_c2T, q_c2F, q_c3, q_met1, q_m1, q_m2, q_sl, q_s1, q_s2, q_s3, q_qN, q_qS, q_qs, q_fld, q_fl, q_lk, q_meth, q_mc, q_mc2, q_md, q_make, q_mk, q_jsN, q_jsC, q_js, q_iAny, q_itL, q_itT, q_itS, q_iRg1, q_rg1, q_iRg2, q_rg2, q_rg3, q_comp, q_cm, q_noEx, q_w0, q_w1, q_seq, q_sqN, q_sqR, q_sqC, q_sqB, q_skip, q_cont, q_break, q_retN, q_set, q_st, q_setO, q_so, q_ret, q_rt, q_expr, q_ex, q_sIf, q_siT, q_siF, q_asg, q_as, q_ofE, q_append, q_ap0, q_ap, q_extend, q_xt0, q_xt, q_for, q_fo, q_boxSet, q_b1, q_b2, q_b3, q_bC, q_bB, q_fldSet, q_fs1, q_fs2, q_fsC, q_sFrz, q_tryNo, q_trN, q_trR, q_trC, q_trB, q_gTp, q_gNm, q_def, q_dN, q_dR, q_add, q_addS, q_addT, q_addL, q_sub, q_mul, q_mod, q_div, q_neg, q_le, q_ge, q_gt, q_lt, q_eq, q_ne, q_eqS, q_neS, q_ixT, q_ixL, q_ixB, q_lenT, q_lenL, q_int, q_tupleL, q_tupleT, q_cellL, q_cellLs, q_not, ofO_some, atI0, atI1, atI2, atI3, atI4, frzE, gAll, List.getElem?_cons_zero, List.getElem?_cons_succ, List.set_cons_zero, List.set_cons_succ, List.map_cons, List.map_nil, List.cons_append, List.nil_append, List.append_nil, List.length_cons, List.length_nil, Option.bind_some, Option.map_some, if_true, reduceIte, or_true, true_or, and_true, true_and, Bool.not_true, Bool.not_false, decide_true, decide_false, if_false, Bool.false_eq_true, List.replicate, Int.reduceLT, Int.reduceLE, Int.reduceEq, Int.reduceNe, Int.reduceNeg, Int.reducePow, Int.reduceSub, Nat.reduceLeDiff, Nat.reduceAdd, Nat.reduceSub, Nat.reduceLT, Nat.reduceEqDiff, Nat.reducePow, eq_self, false_and, and_false, false_or, or_false, not_true_eq_false, not_false_eq_true, isi_non_tuple, isi_non_int, isi_non_str, isi_non_bool, isi_non_list, isi_bl_tuple, isi_bl_int, isi_bl_str, isi_bl_bool, isi_bl_list, isi_int_tuple, isi_int_int, isi_int_str, isi_int_bool, isi_int_list, isi_str_tuple, isi_str_int, isi_str_str, isi_str_bool, isi_str_list, isi_tup_tuple, isi_tup_int, isi_tup_str, isi_tup_bool, isi_tup_list, isi_lst_tuple, isi_lst_int, isi_lst_str, isi_lst_bool, isi_lst_list, Int.cast_ofNat_Int, Int.natCast_one, Int.natCast_zero, List.length_map, hn, hl, hc, ha]
theorem rises_eq {b : Bx} {ps : List P} (hl : ps.length < 1000000) (h : ∀ k (h : k + 1 < ps.length), ltP b ps[k] ps[k + 1] = some (.bl true)) : d_rises [.lst ps] b = .ok (.bl true) b := by
  obtain ⟨n, hn⟩ : ∃ n, n = ps.length - 1 := ⟨_, rfl⟩
  have hr : rangeP 0 ((ps.length : Int) - 1) = (List.range n).map fun k => P.int (k : Nat) := by rw [rangeP_map]; congr 2; omega
  have hc : compL (gNm 1) tYesF (eOp2 ltP (eOp2 ixP (eVar 0) (eVar 1)) (eOp2 ixP (eVar 0) (eOp2 addP (eVar 1) (eC (.int 1))))) [.va (.lst ps), .un] ((List.range n).map fun k => P.int (k : Nat)) b = .ok ((List.range n).map fun _ => .bl true) b :=
    comp_pl (fun k : Nat => P.int (k : Nat)) (fun _ => .bl true) fun k hk => ⟨_, rfl, rfl, by
      have hk := List.mem_range.mp hk
      have h1 : atI ps (k : Int) = some ps[k] := atI_ofNat (List.getElem?_eq_getElem (by omega))
      have h2 : atI ps ((k : Int) + 1) = some ps[k + 1] := by
        have : ((k : Int) + 1) = ((k + 1 : Nat) : Int) := by omega
        rw [this]
        exact atI_ofNat (List.getElem?_eq_getElem (by omega))
      simp -implicitDefEqProofs only [q_var, q_va, q_c, q_op2, q_2a, q_2b, q_op1, q_isi, q_call, q_oCall, q_oSort, q_1, q_fn, q_f, q_nil, q_cons, q_ca, q_cb, q_tup, q_tu, q_oLst, q_ol, q_and, q_andT, q_andF, q_or, q_orT, q_orF, q_if, q_ifT, q_ifF, q_tVal, q_tv, q_tAnd, q_taT, q_taF, q_tOr, q_toT, q_toF, q_tNot, q_tn, q_yes, q_frz, q_fz, q_box, q_bx, q_chain, q_c1, q_c2, q_c2T, q_c2F, q_c3, q_met1, q_m1, q_m2, q_sl, q_s1, q_s2, q_s3, q_qN, q_qS, q_qs, q_fld, q_fl, q_lk, q_meth, q_mc, q_mc2, q_md, q_make, q_mk, q_jsN, q_jsC, q_js, q_iAny, q_itL, q_itT, q_itS, q_iRg1, q_rg1, q_iRg2, q_rg2, q_rg3, q_comp, q_cm, q_noEx, q_w0, q_w1, q_seq, q_sqN, q_sqR, q_sqC, q_sqB, q_skip, q_cont, q_break, q_retN, q_set, q_st, q_setO, q_so, q_ret, q_rt, q_expr, q_ex, q_sIf, q_siT, q_siF, q_asg, q_as, q_ofE, q_append, q_ap0, q_ap, q_extend, q_xt0, q_xt, q_for, q_fo, q_boxSet, q_b1, q_b2, q_b3, q_bC, q_bB, q_fldSet, q_fs1, q_fs2, q_fsC, q_sFrz, q_tryNo, q_trN, q_trR, q_trC, q_trB, q_gTp, q_gNm, q_def, q_dN, q_dR, q_add, q_addS, q_addT, q_addL, q_sub, q_mul, q_mod, q_div, q_neg, q_le, q_ge, q_gt, q_lt, q_eq, q_ne, q_eqS, q_neS, q_ixT, q_ixL, q_ixB, q_lenT, q_lenL, q_int, q_tupleL, q_tupleT, q_cellL, q_cellLs, q_not, ofO_some, atI0, atI1, atI2, atI3, atI4, frzE, gAll, List.getElem?_cons_zero, List.getElem?_cons_succ, List.set_cons_zero, List.set_cons_succ, List.map_cons, List.map_nil, List.cons_append, List.nil_append, List.append_nil, List.length_cons, List.length_nil, Option.bind_some, Option.map_some, if_true, reduceIte, or_true, true_or, and_true, true_and, Bool.not_true, Bool.not_false, decide_true, decide_false, if_false, Bool.false_eq_true, List.replicate, Int.reduceLT, Int.reduceLE, Int.reduceEq, Int.reduceNe, Int.reduceNeg, Int.reducePow, Int.reduceSub, Nat.reduceLeDiff, Nat.reduceAdd, Nat.reduceSub, Nat.reduceLT, Nat.reduceEqDiff, Nat.reducePow, eq_self, false_and, and_false, false_or, or_false, not_true_eq_false, not_false_eq_true, isi_non_tuple, isi_non_int, isi_non_str, isi_non_bool, isi_non_list, isi_bl_tuple, isi_bl_int, isi_bl_str, isi_bl_bool, isi_bl_list, isi_int_tuple, isi_int_int, isi_int_str, isi_int_bool, isi_int_list, isi_str_tuple, isi_str_int, isi_str_str, isi_str_bool, isi_str_list, isi_tup_tuple, isi_tup_int, isi_tup_str, isi_tup_bool, isi_tup_list, isi_lst_tuple, isi_lst_int, isi_lst_str, isi_lst_bool, isi_lst_list, Int.cast_ofNat_Int, Int.natCast_one, Int.natCast_zero, h1, h2, h k (by omega)]⟩
  have ha : allP b [.lst ((List.range n).map fun _ => .bl true)] = some (.bl true) := by rw [all_map (List.range n) fun _ => true]; simp
  have hb : -4611686018427387904 ≤ (ps.length : Int) - 1 ∧ (ps.length : Int) - 1 < 4611686018427387904 := by omega
  have hm : n < 1000000 := by omega
  unfold d_rises b_rises
  simp -implicitDefEqProofs only [q_var, q_va, q_c, q_op2, q_2a, q_2b, q_op1, q_isi, q_call, q_oCall, q_oSort, q_1, q_fn, q_f, q_nil, q_cons, q_ca, q_cb, q_tup, q_tu, q_oLst, q_ol, q_and, q_andT, q_andF, q_or, q_orT, q_orF, q_if, q_ifT, q_ifF, q_tVal, q_tv, q_tAnd, q_taT, q_taF, q_tOr, q_toT, q_toF, q_tNot, q_tn, q_yes, q_frz, q_fz, q_box, q_bx, q_chain, q_c1, q_c2, q_c2T, q_c2F, q_c3, q_met1, q_m1, q_m2, q_sl, q_s1, q_s2, q_s3, q_qN, q_qS, q_qs, q_fld, q_fl, q_lk, q_meth, q_mc, q_mc2, q_md, q_make, q_mk, q_jsN, q_jsC, q_js, q_iAny, q_itL, q_itT, q_itS, q_iRg1, q_rg1, q_iRg2, q_rg2, q_rg3, q_comp, q_cm, q_noEx, q_w0, q_w1, q_seq, q_sqN, q_sqR, q_sqC, q_sqB, q_skip, q_cont, q_break, q_retN, q_set, q_st, q_setO, q_so, q_ret, q_rt, q_expr, q_ex, q_sIf, q_siT, q_siF, q_asg, q_as, q_ofE, q_append, q_ap0, q_ap, q_extend, q_xt0, q_xt, q_for, q_fo, q_boxSet, q_b1, q_b2, q_b3, q_bC, q_bB, q_fldSet, q_fs1, q_fs2, q_fsC, q_sFrz, q_tryNo, q_trN, q_trR, q_trC, q_trB, q_gTp, q_gNm, q_def, q_dN, q_dR, q_add, q_addS, q_addT, q_addL, q_sub, q_mul, q_mod, q_div, q_neg, q_le, q_ge, q_gt, q_lt, q_eq, q_ne, q_eqS, q_neS, q_ixT, q_ixL, q_ixB, q_lenT, q_lenL, q_int, q_tupleL, q_tupleT, q_cellL, q_cellLs, q_not, ofO_some, atI0, atI1, atI2, atI3, atI4, frzE, gAll, List.getElem?_cons_zero, List.getElem?_cons_succ, List.set_cons_zero, List.set_cons_succ, List.map_cons, List.map_nil, List.cons_append, List.nil_append, List.append_nil, List.length_cons, List.length_nil, Option.bind_some, Option.map_some, if_true, reduceIte, or_true, true_or, and_true, true_and, Bool.not_true, Bool.not_false, decide_true, decide_false, if_false, Bool.false_eq_true, List.replicate, Int.reduceLT, Int.reduceLE, Int.reduceEq, Int.reduceNe, Int.reduceNeg, Int.reducePow, Int.reduceSub, Nat.reduceLeDiff, Nat.reduceAdd, Nat.reduceSub, Nat.reduceLT, Nat.reduceEqDiff, Nat.reducePow, eq_self, false_and, and_false, false_or, or_false, not_true_eq_false, not_false_eq_true, isi_non_tuple, isi_non_int, isi_non_str, isi_non_bool, isi_non_list, isi_bl_tuple, isi_bl_int, isi_bl_str, isi_bl_bool, isi_bl_list, isi_int_tuple, isi_int_int, isi_int_str, isi_int_bool, isi_int_list, isi_str_tuple, isi_str_int, isi_str_str, isi_str_bool, isi_str_list, isi_tup_tuple, isi_tup_int, isi_tup_str, isi_tup_bool, isi_tup_list, isi_lst_tuple, isi_lst_int, isi_lst_str, isi_lst_bool, isi_lst_list, Int.cast_ofNat_Int, Int.natCast_one, Int.natCast_zero, hb, hr, List.length_map, List.length_range, hm, hc, ha]
theorem rises_ints {b : Bx} {ns : List Int} (hl : ns.length < 1000000) (h : ns.Pairwise (· < ·)) : d_rises [.lst (ns.map .int)] b = .ok (.bl true) b := by
  refine rises_eq (by simpa using hl) fun k hk => ?_
  rw [List.length_map] at hk
  rw [List.getElem_map, List.getElem_map]
  exact ltP_T (List.pairwise_iff_getElem.mp h k (k + 1) (by omega) hk (by omega))
theorem atI_end {α : Type} {xs : List α} (h : xs ≠ []) : ∃ x, x ∈ xs ∧ atI xs (-1) = some x := by
  refine ⟨xs.getLast h, List.getLast_mem h, ?_⟩
  have := L2.atI_last xs.dropLast (xs.getLast h)
  rw [List.dropLast_concat_getLast] at this
  exact this
theorem is_curve_eq {b : Bx} {c : List (Int × Int)} {top : Int} (g : GoodC top c) (ht : top ≤ 100) : d_is_curve [encC c] b = .ok (.bl true) b := by
  have hl := g.lo
  have hh := g.hi
  have a1 : (2 : Int) ≤ (c.length : Nat) := by omega
  have a2 : ((c.length : Nat) : Int) ≤ 8 := by omega
  have hk : encC c = .tup (c.map encW) := rfl
  have hc : ∀ b, compL (gNm 1) tYesF (eFn d_is_row (aCons (eVar 1) (aCons (eC (.int 2)) (aCons (eC (.int 0)) (aCons (eC (.int 100)) aNil))))) [.va (encC c), .un] (c.map encW) b = .ok (c.map fun _ => .bl true) b := fun b =>
    comp_pl encW (fun _ => .bl true) fun z hz => ⟨_, rfl, rfl, by
      have h1 := g.wi z hz
      have h2 := g.po z hz
      have hz : encW z = .tup ([z.1, z.2].map .int) := rfl
      have := is_row_eq (b := b) (xs := [z.1, z.2]) (n := 2) (lo := 0) (hi := 100) rfl (by simp) (by
        intro x hx
        simp only [List.mem_cons, List.not_mem_nil, or_false] at hx
        rcases hx with rfl | rfl <;> omega)
      rw [hz]
      simp -implicitDefEqProofs only [q_var, q_va, q_c, q_op2, q_2a, q_2b, q_op1, q_isi, q_call, q_oCall, q_oSort, q_1, q_fn, q_f, q_nil, q_cons, q_ca, q_cb, q_tup, q_tu, q_oLst, q_ol, q_and, q_andT, q_andF, q_or, q_orT, q_orF, q_if, q_ifT, q_ifF, q_tVal, q_tv, q_tAnd, q_taT, q_taF, q_tOr, q_toT, q_toF, q_tNot, q_tn, q_yes, q_frz, q_fz, q_box, q_bx, q_chain, q_c1, q_c2, q_c2T, q_c2F, q_c3, q_met1, q_m1, q_m2, q_sl, q_s1, q_s2, q_s3, q_qN, q_qS, q_qs, q_fld, q_fl, q_lk, q_meth, q_mc, q_mc2, q_md, q_make, q_mk, q_jsN, q_jsC, q_js, q_iAny, q_itL, q_itT, q_itS, q_iRg1, q_rg1, q_iRg2, q_rg2, q_rg3, q_comp, q_cm, q_noEx, q_w0, q_w1, q_seq, q_sqN, q_sqR, q_sqC, q_sqB, q_skip, q_cont, q_break, q_retN, q_set, q_st, q_setO, q_so, q_ret, q_rt, q_expr, q_ex, q_sIf, q_siT, q_siF, q_asg, q_as, q_ofE, q_append, q_ap0, q_ap, q_extend, q_xt0, q_xt, q_for, q_fo, q_boxSet, q_b1, q_b2, q_b3, q_bC, q_bB, q_fldSet, q_fs1, q_fs2, q_fsC, q_sFrz, q_tryNo, q_trN, q_trR, q_trC, q_trB, q_gTp, q_gNm, q_def, q_dN, q_dR, q_add, q_addS, q_addT, q_addL, q_sub, q_mul, q_mod, q_div, q_neg, q_le, q_ge, q_gt, q_lt, q_eq, q_ne, q_eqS, q_neS, q_ixT, q_ixL, q_ixB, q_lenT, q_lenL, q_int, q_tupleL, q_tupleT, q_cellL, q_cellLs, q_not, ofO_some, atI0, atI1, atI2, atI3, atI4, frzE, gAll, List.getElem?_cons_zero, List.getElem?_cons_succ, List.set_cons_zero, List.set_cons_succ, List.map_cons, List.map_nil, List.cons_append, List.nil_append, List.append_nil, List.length_cons, List.length_nil, Option.bind_some, Option.map_some, if_true, reduceIte, or_true, true_or, and_true, true_and, Bool.not_true, Bool.not_false, decide_true, decide_false, if_false, Bool.false_eq_true, List.replicate, Int.reduceLT, Int.reduceLE, Int.reduceEq, Int.reduceNe, Int.reduceNeg, Int.reducePow, Int.reduceSub, Nat.reduceLeDiff, Nat.reduceAdd, Nat.reduceSub, Nat.reduceLT, Nat.reduceEqDiff, Nat.reducePow, eq_self, false_and, and_false, false_or, or_false, not_true_eq_false, not_false_eq_true, isi_non_tuple, isi_non_int, isi_non_str, isi_non_bool, isi_non_list, isi_bl_tuple, isi_bl_int, isi_bl_str, isi_bl_bool, isi_bl_list, isi_int_tuple, isi_int_int, isi_int_str, isi_int_bool, isi_int_list, isi_str_tuple, isi_str_int, isi_str_str, isi_str_bool, isi_str_list, isi_tup_tuple, isi_tup_int, isi_tup_str, isi_tup_bool, isi_tup_list, isi_lst_tuple, isi_lst_int, isi_lst_str, isi_lst_bool, isi_lst_list, Int.cast_ofNat_Int, Int.natCast_one, Int.natCast_zero]
      simpa using this⟩
  have ha : allP b [.lst (c.map fun _ => .bl true)] = some (.bl true) := by rw [all_map c fun _ => true]; simp
  have hd : compL (gNm 1) tYesF (eOp2 ixP (eVar 1) (eC (.int 0))) [.va (encC c), .un] (c.map encW) b = .ok (c.map fun z => .int z.1) b :=
    comp_pl encW (fun z => .int z.1) fun z hz => ⟨_, rfl, rfl, by
      unfold encW
      simp -implicitDefEqProofs only [q_var, q_va, q_c, q_op2, q_2a, q_2b, q_op1, q_isi, q_call, q_oCall, q_oSort, q_1, q_fn, q_f, q_nil, q_cons, q_ca, q_cb, q_tup, q_tu, q_oLst, q_ol, q_and, q_andT, q_andF, q_or, q_orT, q_orF, q_if, q_ifT, q_ifF, q_tVal, q_tv, q_tAnd, q_taT, q_taF, q_tOr, q_toT, q_toF, q_tNot, q_tn, q_yes, q_frz, q_fz, q_box, q_bx, q_chain, q_c1, q_c2, q_c2T, q_c2F, q_c3, q_met1, q_m1, q_m2, q_sl, q_s1, q_s2, q_s3, q_qN, q_qS, q_qs, q_fld, q_fl, q_lk, q_meth, q_mc, q_mc2, q_md, q_make, q_mk, q_jsN, q_jsC, q_js, q_iAny, q_itL, q_itT, q_itS, q_iRg1, q_rg1, q_iRg2, q_rg2, q_rg3, q_comp, q_cm, q_noEx, q_w0, q_w1, q_seq, q_sqN, q_sqR, q_sqC, q_sqB, q_skip, q_cont, q_break, q_retN, q_set, q_st, q_setO, q_so, q_ret, q_rt, q_expr, q_ex, q_sIf, q_siT, q_siF, q_asg, q_as, q_ofE, q_append, q_ap0, q_ap, q_extend, q_xt0, q_xt, q_for, q_fo, q_boxSet, q_b1, q_b2, q_b3, q_bC, q_bB, q_fldSet, q_fs1, q_fs2, q_fsC, q_sFrz, q_tryNo, q_trN, q_trR, q_trC, q_trB, q_gTp, q_gNm, q_def, q_dN, q_dR, q_add, q_addS, q_addT, q_addL, q_sub, q_mul, q_mod, q_div, q_neg, q_le, q_ge, q_gt, q_lt, q_eq, q_ne, q_eqS, q_neS, q_ixT, q_ixL, q_ixB, q_lenT, q_lenL, q_int, q_tupleL, q_tupleT, q_cellL, q_cellLs, q_not, ofO_some, atI0, atI1, atI2, atI3, atI4, frzE, gAll, List.getElem?_cons_zero, List.getElem?_cons_succ, List.set_cons_zero, List.set_cons_succ, List.map_cons, List.map_nil, List.cons_append, List.nil_append, List.append_nil, List.length_cons, List.length_nil, Option.bind_some, Option.map_some, if_true, reduceIte, or_true, true_or, and_true, true_and, Bool.not_true, Bool.not_false, decide_true, decide_false, if_false, Bool.false_eq_true, List.replicate, Int.reduceLT, Int.reduceLE, Int.reduceEq, Int.reduceNe, Int.reduceNeg, Int.reducePow, Int.reduceSub, Nat.reduceLeDiff, Nat.reduceAdd, Nat.reduceSub, Nat.reduceLT, Nat.reduceEqDiff, Nat.reducePow, eq_self, false_and, and_false, false_or, or_false, not_true_eq_false, not_false_eq_true, isi_non_tuple, isi_non_int, isi_non_str, isi_non_bool, isi_non_list, isi_bl_tuple, isi_bl_int, isi_bl_str, isi_bl_bool, isi_bl_list, isi_int_tuple, isi_int_int, isi_int_str, isi_int_bool, isi_int_list, isi_str_tuple, isi_str_int, isi_str_str, isi_str_bool, isi_str_list, isi_tup_tuple, isi_tup_int, isi_tup_str, isi_tup_bool, isi_tup_list, isi_lst_tuple, isi_lst_int, isi_lst_str, isi_lst_bool, isi_lst_list, Int.cast_ofNat_Int, Int.natCast_one, Int.natCast_zero]⟩
  have hr := rises_ints (b := b) (ns := c.map (·.1)) (by simp; omega) g.up
  rw [List.map_map] at hr
  obtain ⟨v, r, hz0⟩ := g.z0
  have h00 : atI (c.map encW) 0 = some (encW (0, v)) := by rw [hz0]; exact atI0 _ _
  obtain ⟨x, hx, he⟩ := atI_end (xs := c.map encW) (by rw [hz0]; simp)
  obtain ⟨z, hz, rfl⟩ := List.mem_map.mp hx
  have hw := (g.wi z hz).2
  have hm : c.length < 1000000 := by omega
  unfold d_is_curve b_is_curve
  rw [hk] at hc hd ⊢
  have e1 : encW (0, v) = .tup [.int 0, .int v] := rfl
  have e2 : encW z = .tup [.int z.1, .int z.2] := rfl
  have hcs : c_STRONGEST = .int 40 := rfl
  have hr' : d_rises [.lst (c.map fun z => .int z.1)] b = .ok (.bl true) b := hr
  simp -implicitDefEqProofs only [q_var, q_va, q_c, q_op2, q_2a, q_2b, q_op1, q_isi, q_call, q_oCall, q_oSort, q_1, q_fn, q_f, q_nil, q_cons, q_ca, q_cb, q_tup, q_tu, q_oLst, q_ol, q_and, q_andT, q_andF, q_or, q_orT, q_orF, q_if, q_ifT, q_ifF, q_tVal, q_tv, q_tAnd, q_taT, q_taF, q_tOr, q_toT, q_toF, q_tNot, q_tn, q_yes, q_frz, q_fz, q_box, q_bx, q_chain, q_c1, q_c2, q_c2T, q_c2F, q_c3, q_met1, q_m1, q_m2, q_sl, q_s1, q_s2, q_s3, q_qN, q_qS, q_qs, q_fld, q_fl, q_lk, q_meth, q_mc, q_mc2, q_md, q_make, q_mk, q_jsN, q_jsC, q_js, q_iAny, q_itL, q_itT, q_itS, q_iRg1, q_rg1, q_iRg2, q_rg2, q_rg3, q_comp, q_cm, q_noEx, q_w0, q_w1, q_seq, q_sqN, q_sqR, q_sqC, q_sqB, q_skip, q_cont, q_break, q_retN, q_set, q_st, q_setO, q_so, q_ret, q_rt, q_expr, q_ex, q_sIf, q_siT, q_siF, q_asg, q_as, q_ofE, q_append, q_ap0, q_ap, q_extend, q_xt0, q_xt, q_for, q_fo, q_boxSet, q_b1, q_b2, q_b3, q_bC, q_bB, q_fldSet, q_fs1, q_fs2, q_fsC, q_sFrz, q_tryNo, q_trN, q_trR, q_trC, q_trB, q_gTp, q_gNm, q_def, q_dN, q_dR, q_add, q_addS, q_addT, q_addL, q_sub, q_mul, q_mod, q_div, q_neg, q_le, q_ge, q_gt, q_lt, q_eq, q_ne, q_eqS, q_neS, q_ixT, q_ixL, q_ixB, q_lenT, q_lenL, q_int, q_tupleL, q_tupleT, q_cellL, q_cellLs, q_not, ofO_some, atI0, atI1, atI2, atI3, atI4, frzE, gAll, List.getElem?_cons_zero, List.getElem?_cons_succ, List.set_cons_zero, List.set_cons_succ, List.map_cons, List.map_nil, List.cons_append, List.nil_append, List.append_nil, List.length_cons, List.length_nil, Option.bind_some, Option.map_some, if_true, reduceIte, or_true, true_or, and_true, true_and, Bool.not_true, Bool.not_false, decide_true, decide_false, if_false, Bool.false_eq_true, List.replicate, Int.reduceLT, Int.reduceLE, Int.reduceEq, Int.reduceNe, Int.reduceNeg, Int.reducePow, Int.reduceSub, Nat.reduceLeDiff, Nat.reduceAdd, Nat.reduceSub, Nat.reduceLT, Nat.reduceEqDiff, Nat.reducePow, eq_self, false_and, and_false, false_or, or_false, not_true_eq_false, not_false_eq_true, isi_non_tuple, isi_non_int, isi_non_str, isi_non_bool, isi_non_list, isi_bl_tuple, isi_bl_int, isi_bl_str, isi_bl_bool, isi_bl_list, isi_int_tuple, isi_int_int, isi_int_str, isi_int_bool, isi_int_list, isi_str_tuple, isi_str_int, isi_str_str, isi_str_bool, isi_str_list, isi_tup_tuple, isi_tup_int, isi_tup_str, isi_tup_bool, isi_tup_list, isi_lst_tuple, isi_lst_int, isi_lst_str, isi_lst_bool, isi_lst_list, Int.cast_ofNat_Int, Int.natCast_one, Int.natCast_zero, List.length_map, a1, a2, hc, hm, ha, h00, e1, e2, he, hcs, hw, hd, hr']
theorem is_wake_eq {b : Bx} {w : K4} {n : Int} (g : GoodK n w) (hn : n ≤ 100) : d_is_wake [.int n, encK w] b = .ok (.bl true) b := by
  obtain ⟨d0, d1, i0, i1, j0, j1, ne, p0, p1⟩ := g
  have hr := is_row_eq (b := b) (xs := nums4 w) (n := 4) (lo := 0) (hi := 100) rfl (by unfold nums4; simp) (by
    intro x hx
    unfold nums4 at hx
    simp only [List.mem_cons, List.not_mem_nil, or_false] at hx
    rcases hx with rfl | rfl | rfl | rfl <;> omega)
  have hk : P.tup ((nums4 w).map .int) = .tup [.int w.1, .int w.2.1, .int w.2.2.1, .int w.2.2.2] := rfl
  rw [hk] at hr
  have hcd : c_DIRECTIONS = .int 4 := rfl
  have a1 : ¬ 4 ≤ w.1 := by omega
  have a2 : ¬ w.2.2.2 = 0 := by omega
  unfold d_is_wake b_is_wake encK
  simp -implicitDefEqProofs only [q_var, q_va, q_c, q_op2, q_2a, q_2b, q_op1, q_isi, q_call, q_oCall, q_oSort, q_1, q_fn, q_f, q_nil, q_cons, q_ca, q_cb, q_tup, q_tu, q_oLst, q_ol, q_and, q_andT, q_andF, q_or, q_orT, q_orF, q_if, q_ifT, q_ifF, q_tVal, q_tv, q_tAnd, q_taT, q_taF, q_tOr, q_toT, q_toF, q_tNot, q_tn, q_yes, q_frz, q_fz, q_box, q_bx, q_chain, q_c1, q_c2, q_c2T, q_c2F, q_c3, q_met1, q_m1, q_m2, q_sl, q_s1, q_s2, q_s3, q_qN, q_qS, q_qs, q_fld, q_fl, q_lk, q_meth, q_mc, q_mc2, q_md, q_make, q_mk, q_jsN, q_jsC, q_js, q_iAny, q_itL, q_itT, q_itS, q_iRg1, q_rg1, q_iRg2, q_rg2, q_rg3, q_comp, q_cm, q_noEx, q_w0, q_w1, q_seq, q_sqN, q_sqR, q_sqC, q_sqB, q_skip, q_cont, q_break, q_retN, q_set, q_st, q_setO, q_so, q_ret, q_rt, q_expr, q_ex, q_sIf, q_siT, q_siF, q_asg, q_as, q_ofE, q_append, q_ap0, q_ap, q_extend, q_xt0, q_xt, q_for, q_fo, q_boxSet, q_b1, q_b2, q_b3, q_bC, q_bB, q_fldSet, q_fs1, q_fs2, q_fsC, q_sFrz, q_tryNo, q_trN, q_trR, q_trC, q_trB, q_gTp, q_gNm, q_def, q_dN, q_dR, q_add, q_addS, q_addT, q_addL, q_sub, q_mul, q_mod, q_div, q_neg, q_le, q_ge, q_gt, q_lt, q_eq, q_ne, q_eqS, q_neS, q_ixT, q_ixL, q_ixB, q_lenT, q_lenL, q_int, q_tupleL, q_tupleT, q_cellL, q_cellLs, q_not, ofO_some, atI0, atI1, atI2, atI3, atI4, frzE, gAll, List.getElem?_cons_zero, List.getElem?_cons_succ, List.set_cons_zero, List.set_cons_succ, List.map_cons, List.map_nil, List.cons_append, List.nil_append, List.append_nil, List.length_cons, List.length_nil, Option.bind_some, Option.map_some, if_true, reduceIte, or_true, true_or, and_true, true_and, Bool.not_true, Bool.not_false, decide_true, decide_false, if_false, Bool.false_eq_true, List.replicate, Int.reduceLT, Int.reduceLE, Int.reduceEq, Int.reduceNe, Int.reduceNeg, Int.reducePow, Int.reduceSub, Nat.reduceLeDiff, Nat.reduceAdd, Nat.reduceSub, Nat.reduceLT, Nat.reduceEqDiff, Nat.reducePow, eq_self, false_and, and_false, false_or, or_false, not_true_eq_false, not_false_eq_true, isi_non_tuple, isi_non_int, isi_non_str, isi_non_bool, isi_non_list, isi_bl_tuple, isi_bl_int, isi_bl_str, isi_bl_bool, isi_bl_list, isi_int_tuple, isi_int_int, isi_int_str, isi_int_bool, isi_int_list, isi_str_tuple, isi_str_int, isi_str_str, isi_str_bool, isi_str_list, isi_tup_tuple, isi_tup_int, isi_tup_str, isi_tup_bool, isi_tup_list, isi_lst_tuple, isi_lst_int, isi_lst_str, isi_lst_bool, isi_lst_list, Int.cast_ofNat_Int, Int.natCast_one, Int.natCast_zero, hr, hcd, a1, a2, i1, j1, ne]
theorem lex3 {x y : K4} (h : kLt x y) : HT.lexLt [x.1, x.2.1, x.2.2.1] [y.1, y.2.1, y.2.2.1] = true := by
  rw [HT.lexLt_cons, HT.lexLt_cons, HT.lexLt_cons]
  unfold kLt at h
  by_cases h1 : x.1 = y.1
  · rw [if_pos h1]
    by_cases h2 : x.2.1 = y.2.1
    · rw [if_pos h2, if_neg (by omega), decide_eq_true (by omega)]
    · rw [if_neg h2, decide_eq_true (by omega)]
  · rw [if_neg h1, decide_eq_true (by omega)]
theorem is_farm_eq {b : Bx} {F : Farm} (g : GoodF 4 100 F) : d_is_farm [encF F] b = .ok (.bl true) b := by
  have h0 := g.c0
  have h1 := g.c1
  have m0 := g.m0
  have m1 := g.m1
  have a1 : (1 : Int) ≤ (F.cs.length : Nat) := by omega
  have a2 : ((F.cs.length : Nat) : Int) ≤ 3 := by omega
  have a3 : (1 : Int) ≤ (F.ms.length : Nat) := by omega
  have hm : F.cs.length < 1000000 := by omega
  have hm2 : F.ms.length < 1000000 := by omega
  have hm3 : F.ws.length < 1000000 := by have := g.wl; omega
  have hF : encF F = .tup [.tup (F.cs.map encC), .tup (F.ms.map .int), .tup (F.ws.map encK)] := rfl
  have ha : ∀ {α : Type} (l : List α), allP b [.lst (l.map fun _ => .bl true)] = some (.bl true) := fun l => by rw [all_map l fun _ => true]; simp
  let E : List PV.Slot := [.va (encF F), .va (.tup (F.cs.map encC)), .va (.tup (F.ms.map .int)), .va (.tup (F.ws.map encK)), .un, .un, .un, .un]
  have k1 : compL (gNm 7) tYesF (eFn d_is_curve (aCons (eVar 7) aNil)) E (F.cs.map encC) b = .ok (F.cs.map fun _ => .bl true) b :=
    comp_pl encC (fun _ => .bl true) fun c hc => ⟨_, rfl, rfl, by simp only [E]; simp -implicitDefEqProofs only [q_var, q_va, q_c, q_op2, q_2a, q_2b, q_op1, q_isi, q_call, q_oCall, q_oSort, q_1, q_fn, q_f, q_nil, q_cons, q_ca, q_cb, q_tup, q_tu, q_oLst, q_ol, q_and, q_andT, q_andF, q_or, q_orT, q_orF, q_if, q_ifT, q_ifF, q_tVal, q_tv, q_tAnd, q_taT, q_taF, q_tOr, q_toT, q_toF, q_tNot, q_tn, q_yes, q_frz, q_fz, q_box, q_bx, q_chain, q_c1, q_c2, q_c2T, q_c2F, q_c3, q_met1, q_m1, q_m2, q_sl, q_s1, q_s2, q_s3, q_qN, q_qS, q_qs, q_fld, q_fl, q_lk, q_meth, q_mc, q_mc2, q_md, q_make, q_mk, q_jsN, q_jsC, q_js, q_iAny, q_itL, q_itT, q_itS, q_iRg1, q_rg1, q_iRg2, q_rg2, q_rg3, q_comp, q_cm, q_noEx, q_w0, q_w1, q_seq, q_sqN, q_sqR, q_sqC, q_sqB, q_skip, q_cont, q_break, q_retN, q_set, q_st, q_setO, q_so, q_ret, q_rt, q_expr, q_ex, q_sIf, q_siT, q_siF, q_asg, q_as, q_ofE, q_append, q_ap0, q_ap, q_extend, q_xt0, q_xt, q_for, q_fo, q_boxSet, q_b1, q_b2, q_b3, q_bC, q_bB, q_fldSet, q_fs1, q_fs2, q_fsC, q_sFrz, q_tryNo, q_trN, q_trR, q_trC, q_trB, q_gTp, q_gNm, q_def, q_dN, q_dR, q_add, q_addS, q_addT, q_addL, q_sub, q_mul, q_mod, q_div, q_neg, q_le, q_ge, q_gt, q_lt, q_eq, q_ne, q_eqS, q_neS, q_ixT, q_ixL, q_ixB, q_lenT, q_lenL, q_int, q_tupleL, q_tupleT, q_cellL, q_cellLs, q_not, ofO_some, atI0, atI1, atI2, atI3, atI4, frzE, gAll, List.getElem?_cons_zero, List.getElem?_cons_succ, List.set_cons_zero, List.set_cons_succ, List.map_cons, List.map_nil, List.cons_append, List.nil_append, List.append_nil, List.length_cons, List.length_nil, Option.bind_some, Option.map_some, if_true, reduceIte, or_true, true_or, and_true, true_and, Bool.not_true, Bool.not_false, decide_true, decide_false, if_false, Bool.false_eq_true, List.replicate, Int.reduceLT, Int.reduceLE, Int.reduceEq, Int.reduceNe, Int.reduceNeg, Int.reducePow, Int.reduceSub, Nat.reduceLeDiff, Nat.reduceAdd, Nat.reduceSub, Nat.reduceLT, Nat.reduceEqDiff, Nat.reducePow, eq_self, false_and, and_false, false_or, or_false, not_true_eq_false, not_false_eq_true, isi_non_tuple, isi_non_int, isi_non_str, isi_non_bool, isi_non_list, isi_bl_tuple, isi_bl_int, isi_bl_str, isi_bl_bool, isi_bl_list, isi_int_tuple, isi_int_int, isi_int_str, isi_int_bool, isi_int_list, isi_str_tuple, isi_str_int, isi_str_str, isi_str_bool, isi_str_list, isi_tup_tuple, isi_tup_int, isi_tup_str, isi_tup_bool, isi_tup_list, isi_lst_tuple, isi_lst_int, isi_lst_str, isi_lst_bool, isi_lst_list, Int.cast_ofNat_Int, Int.natCast_one, Int.natCast_zero, is_curve_eq (g.cg c hc) (by omega)]⟩
  have k2 : compL (gNm 4) tYesF (eFn d_is_from (aCons (eVar 4) (aCons (eC (.int 0)) (aCons (eOp2 subP (eCall lenP (aCons (eVar 1) aNil)) (eC (.int 1))) aNil)))) E (F.ms.map .int) b = .ok (F.ms.map fun _ => .bl true) b :=
    comp_pl P.int (fun _ => .bl true) fun m hm => ⟨_, rfl, rfl, by
      have := g.mg m hm
      have h1 : m ≤ (F.cs.length : Int) - 1 := by omega
      simp only [E]; simp -implicitDefEqProofs only [q_var, q_va, q_c, q_op2, q_2a, q_2b, q_op1, q_isi, q_call, q_oCall, q_oSort, q_1, q_fn, q_f, q_nil, q_cons, q_ca, q_cb, q_tup, q_tu, q_oLst, q_ol, q_and, q_andT, q_andF, q_or, q_orT, q_orF, q_if, q_ifT, q_ifF, q_tVal, q_tv, q_tAnd, q_taT, q_taF, q_tOr, q_toT, q_toF, q_tNot, q_tn, q_yes, q_frz, q_fz, q_box, q_bx, q_chain, q_c1, q_c2, q_c2T, q_c2F, q_c3, q_met1, q_m1, q_m2, q_sl, q_s1, q_s2, q_s3, q_qN, q_qS, q_qs, q_fld, q_fl, q_lk, q_meth, q_mc, q_mc2, q_md, q_make, q_mk, q_jsN, q_jsC, q_js, q_iAny, q_itL, q_itT, q_itS, q_iRg1, q_rg1, q_iRg2, q_rg2, q_rg3, q_comp, q_cm, q_noEx, q_w0, q_w1, q_seq, q_sqN, q_sqR, q_sqC, q_sqB, q_skip, q_cont, q_break, q_retN, q_set, q_st, q_setO, q_so, q_ret, q_rt, q_expr, q_ex, q_sIf, q_siT, q_siF, q_asg, q_as, q_ofE, q_append, q_ap0, q_ap, q_extend, q_xt0, q_xt, q_for, q_fo, q_boxSet, q_b1, q_b2, q_b3, q_bC, q_bB, q_fldSet, q_fs1, q_fs2, q_fsC, q_sFrz, q_tryNo, q_trN, q_trR, q_trC, q_trB, q_gTp, q_gNm, q_def, q_dN, q_dR, q_add, q_addS, q_addT, q_addL, q_sub, q_mul, q_mod, q_div, q_neg, q_le, q_ge, q_gt, q_lt, q_eq, q_ne, q_eqS, q_neS, q_ixT, q_ixL, q_ixB, q_lenT, q_lenL, q_int, q_tupleL, q_tupleT, q_cellL, q_cellLs, q_not, ofO_some, atI0, atI1, atI2, atI3, atI4, frzE, gAll, List.getElem?_cons_zero, List.getElem?_cons_succ, List.set_cons_zero, List.set_cons_succ, List.map_cons, List.map_nil, List.cons_append, List.nil_append, List.append_nil, List.length_cons, List.length_nil, Option.bind_some, Option.map_some, if_true, reduceIte, or_true, true_or, and_true, true_and, Bool.not_true, Bool.not_false, decide_true, decide_false, if_false, Bool.false_eq_true, List.replicate, Int.reduceLT, Int.reduceLE, Int.reduceEq, Int.reduceNe, Int.reduceNeg, Int.reducePow, Int.reduceSub, Nat.reduceLeDiff, Nat.reduceAdd, Nat.reduceSub, Nat.reduceLT, Nat.reduceEqDiff, Nat.reducePow, eq_self, false_and, and_false, false_or, or_false, not_true_eq_false, not_false_eq_true, isi_non_tuple, isi_non_int, isi_non_str, isi_non_bool, isi_non_list, isi_bl_tuple, isi_bl_int, isi_bl_str, isi_bl_bool, isi_bl_list, isi_int_tuple, isi_int_int, isi_int_str, isi_int_bool, isi_int_list, isi_str_tuple, isi_str_int, isi_str_str, isi_str_bool, isi_str_list, isi_tup_tuple, isi_tup_int, isi_tup_str, isi_tup_bool, isi_tup_list, isi_lst_tuple, isi_lst_int, isi_lst_str, isi_lst_bool, isi_lst_list, Int.cast_ofNat_Int, Int.natCast_one, Int.natCast_zero, List.length_map, is_from_eq this.1 h1]⟩
  have k3 : compL (gNm 5) tYesF (eFn d_is_wake (aCons (eCall lenP (aCons (eVar 2) aNil)) (aCons (eVar 5) aNil))) E (F.ws.map encK) b = .ok (F.ws.map fun _ => .bl true) b :=
    comp_pl encK (fun _ => .bl true) fun m hm => ⟨_, rfl, rfl, by
      simp only [E]; simp -implicitDefEqProofs only [q_var, q_va, q_c, q_op2, q_2a, q_2b, q_op1, q_isi, q_call, q_oCall, q_oSort, q_1, q_fn, q_f, q_nil, q_cons, q_ca, q_cb, q_tup, q_tu, q_oLst, q_ol, q_and, q_andT, q_andF, q_or, q_orT, q_orF, q_if, q_ifT, q_ifF, q_tVal, q_tv, q_tAnd, q_taT, q_taF, q_tOr, q_toT, q_toF, q_tNot, q_tn, q_yes, q_frz, q_fz, q_box, q_bx, q_chain, q_c1, q_c2, q_c2T, q_c2F, q_c3, q_met1, q_m1, q_m2, q_sl, q_s1, q_s2, q_s3, q_qN, q_qS, q_qs, q_fld, q_fl, q_lk, q_meth, q_mc, q_mc2, q_md, q_make, q_mk, q_jsN, q_jsC, q_js, q_iAny, q_itL, q_itT, q_itS, q_iRg1, q_rg1, q_iRg2, q_rg2, q_rg3, q_comp, q_cm, q_noEx, q_w0, q_w1, q_seq, q_sqN, q_sqR, q_sqC, q_sqB, q_skip, q_cont, q_break, q_retN, q_set, q_st, q_setO, q_so, q_ret, q_rt, q_expr, q_ex, q_sIf, q_siT, q_siF, q_asg, q_as, q_ofE, q_append, q_ap0, q_ap, q_extend, q_xt0, q_xt, q_for, q_fo, q_boxSet, q_b1, q_b2, q_b3, q_bC, q_bB, q_fldSet, q_fs1, q_fs2, q_fsC, q_sFrz, q_tryNo, q_trN, q_trR, q_trC, q_trB, q_gTp, q_gNm, q_def, q_dN, q_dR, q_add, q_addS, q_addT, q_addL, q_sub, q_mul, q_mod, q_div, q_neg, q_le, q_ge, q_gt, q_lt, q_eq, q_ne, q_eqS, q_neS, q_ixT, q_ixL, q_ixB, q_lenT, q_lenL, q_int, q_tupleL, q_tupleT, q_cellL, q_cellLs, q_not, ofO_some, atI0, atI1, atI2, atI3, atI4, frzE, gAll, List.getElem?_cons_zero, List.getElem?_cons_succ, List.set_cons_zero, List.set_cons_succ, List.map_cons, List.map_nil, List.cons_append, List.nil_append, List.append_nil, List.length_cons, List.length_nil, Option.bind_some, Option.map_some, if_true, reduceIte, or_true, true_or, and_true, true_and, Bool.not_true, Bool.not_false, decide_true, decide_false, if_false, Bool.false_eq_true, List.replicate, Int.reduceLT, Int.reduceLE, Int.reduceEq, Int.reduceNe, Int.reduceNeg, Int.reducePow, Int.reduceSub, Nat.reduceLeDiff, Nat.reduceAdd, Nat.reduceSub, Nat.reduceLT, Nat.reduceEqDiff, Nat.reducePow, eq_self, false_and, and_false, false_or, or_false, not_true_eq_false, not_false_eq_true, isi_non_tuple, isi_non_int, isi_non_str, isi_non_bool, isi_non_list, isi_bl_tuple, isi_bl_int, isi_bl_str, isi_bl_bool, isi_bl_list, isi_int_tuple, isi_int_int, isi_int_str, isi_int_bool, isi_int_list, isi_str_tuple, isi_str_int, isi_str_str, isi_str_bool, isi_str_list, isi_tup_tuple, isi_tup_int, isi_tup_str, isi_tup_bool, isi_tup_list, isi_lst_tuple, isi_lst_int, isi_lst_str, isi_lst_bool, isi_lst_list, Int.cast_ofNat_Int, Int.natCast_one, Int.natCast_zero, List.length_map, is_wake_eq (g.wg m hm) (by omega)]⟩
  have k4 : compL (gNm 5) tYesF (eSl (eVar 5) qNone (qSome (eC (.int 3)))) E (F.ws.map encK) b = .ok (F.ws.map fun w => .tup [.int w.1, .int w.2.1, .int w.2.2.1]) b :=
    comp_pl encK (fun w => .tup [.int w.1, .int w.2.1, .int w.2.2.1]) fun w hw => ⟨_, rfl, rfl, by
      have hs : slP b (encK w) none (some 3) = some (.tup [.int w.1, .int w.2.1, .int w.2.2.1]) := rfl
      simp only [E]; simp -implicitDefEqProofs only [q_var, q_va, q_c, q_op2, q_2a, q_2b, q_op1, q_isi, q_call, q_oCall, q_oSort, q_1, q_fn, q_f, q_nil, q_cons, q_ca, q_cb, q_tup, q_tu, q_oLst, q_ol, q_and, q_andT, q_andF, q_or, q_orT, q_orF, q_if, q_ifT, q_ifF, q_tVal, q_tv, q_tAnd, q_taT, q_taF, q_tOr, q_toT, q_toF, q_tNot, q_tn, q_yes, q_frz, q_fz, q_box, q_bx, q_chain, q_c1, q_c2, q_c2T, q_c2F, q_c3, q_met1, q_m1, q_m2, q_sl, q_s1, q_s2, q_s3, q_qN, q_qS, q_qs, q_fld, q_fl, q_lk, q_meth, q_mc, q_mc2, q_md, q_make, q_mk, q_jsN, q_jsC, q_js, q_iAny, q_itL, q_itT, q_itS, q_iRg1, q_rg1, q_iRg2, q_rg2, q_rg3, q_comp, q_cm, q_noEx, q_w0, q_w1, q_seq, q_sqN, q_sqR, q_sqC, q_sqB, q_skip, q_cont, q_break, q_retN, q_set, q_st, q_setO, q_so, q_ret, q_rt, q_expr, q_ex, q_sIf, q_siT, q_siF, q_asg, q_as, q_ofE, q_append, q_ap0, q_ap, q_extend, q_xt0, q_xt, q_for, q_fo, q_boxSet, q_b1, q_b2, q_b3, q_bC, q_bB, q_fldSet, q_fs1, q_fs2, q_fsC, q_sFrz, q_tryNo, q_trN, q_trR, q_trC, q_trB, q_gTp, q_gNm, q_def, q_dN, q_dR, q_add, q_addS, q_addT, q_addL, q_sub, q_mul, q_mod, q_div, q_neg, q_le, q_ge, q_gt, q_lt, q_eq, q_ne, q_eqS, q_neS, q_ixT, q_ixL, q_ixB, q_lenT, q_lenL, q_int, q_tupleL, q_tupleT, q_cellL, q_cellLs, q_not, ofO_some, atI0, atI1, atI2, atI3, atI4, frzE, gAll, List.getElem?_cons_zero, List.getElem?_cons_succ, List.set_cons_zero, List.set_cons_succ, List.map_cons, List.map_nil, List.cons_append, List.nil_append, List.append_nil, List.length_cons, List.length_nil, Option.bind_some, Option.map_some, if_true, reduceIte, or_true, true_or, and_true, true_and, Bool.not_true, Bool.not_false, decide_true, decide_false, if_false, Bool.false_eq_true, List.replicate, Int.reduceLT, Int.reduceLE, Int.reduceEq, Int.reduceNe, Int.reduceNeg, Int.reducePow, Int.reduceSub, Nat.reduceLeDiff, Nat.reduceAdd, Nat.reduceSub, Nat.reduceLT, Nat.reduceEqDiff, Nat.reducePow, eq_self, false_and, and_false, false_or, or_false, not_true_eq_false, not_false_eq_true, isi_non_tuple, isi_non_int, isi_non_str, isi_non_bool, isi_non_list, isi_bl_tuple, isi_bl_int, isi_bl_str, isi_bl_bool, isi_bl_list, isi_int_tuple, isi_int_int, isi_int_str, isi_int_bool, isi_int_list, isi_str_tuple, isi_str_int, isi_str_str, isi_str_bool, isi_str_list, isi_tup_tuple, isi_tup_int, isi_tup_str, isi_tup_bool, isi_tup_list, isi_lst_tuple, isi_lst_int, isi_lst_str, isi_lst_bool, isi_lst_list, Int.cast_ofNat_Int, Int.natCast_one, Int.natCast_zero, hs]⟩
  have k5 : d_rises [.lst (F.ws.map fun w => .tup [.int w.1, .int w.2.1, .int w.2.2.1])] b = .ok (.bl true) b := by
    refine rises_eq (by simpa using hm3) fun k hk => ?_
    rw [List.length_map] at hk
    rw [List.getElem_map, List.getElem_map]
    have := List.pairwise_iff_getElem.mp g.wu k (k + 1) (by omega) hk (by omega)
    have := lex3 this
    unfold ltP
    simp only [intsOf, Option.map_some, this]
  simp only [E] at k1 k2 k3 k4
  unfold d_is_farm b_is_farm
  rw [hF] at k1 k2 k3 k4 ⊢
  have a5 : allP b [.lst [.bl true, .bl true, .bl true]] = some (.bl true) := rfl
  have a6 : (3 : Nat) < 1000000 := by decide
  simp -implicitDefEqProofs only [q_var, q_va, q_c, q_op2, q_2a, q_2b, q_op1, q_isi, q_call, q_oCall, q_oSort, q_1, q_fn, q_f, q_nil, q_cons, q_ca, q_cb, q_tup, q_tu, q_oLst, q_ol, q_and, q_andT, q_andF, q_or, q_orT, q_orF, q_if, q_ifT, q_ifF, q_tVal, q_tv, q_tAnd, q_taT, q_taF, q_tOr, q_toT, q_toF, q_tNot, q_tn, q_yes, q_frz, q_fz, q_box, q_bx, q_chain, q_c1, q_c2, q_c2T, q_c2F, q_c3, q_met1, q_m1, q_m2, q_sl, q_s1, q_s2, q_s3, q_qN, q_qS, q_qs, q_fld, q_fl, q_lk, q_meth, q_mc, q_mc2, q_md, q_make, q_mk, q_jsN, q_jsC, q_js, q_iAny, q_itL, q_itT, q_itS, q_iRg1, q_rg1, q_iRg2, q_rg2, q_rg3, q_comp, q_cm, q_noEx, q_w0, q_w1, q_seq, q_sqN, q_sqR, q_sqC, q_sqB, q_skip, q_cont, q_break, q_retN, q_set, q_st, q_setO, q_so, q_ret, q_rt, q_expr, q_ex, q_sIf, q_siT, q_siF, q_asg, q_as, q_ofE, q_append, q_ap0, q_ap, q_extend, q_xt0, q_xt, q_for, q_fo, q_boxSet, q_b1, q_b2, q_b3, q_bC, q_bB, q_fldSet, q_fs1, q_fs2, q_fsC, q_sFrz, q_tryNo, q_trN, q_trR, q_trC, q_trB, q_gTp, q_gNm, q_def, q_dN, q_dR, q_add, q_addS, q_addT, q_addL, q_sub, q_mul, q_mod, q_div, q_neg, q_le, q_ge, q_gt, q_lt, q_eq, q_ne, q_eqS, q_neS, q_ixT, q_ixL, q_ixB, q_lenT, q_lenL, q_int, q_tupleL, q_tupleT, q_cellL, q_cellLs, q_not, ofO_some, atI0, atI1, atI2, atI3, atI4, frzE, gAll, List.getElem?_cons_zero, List.getElem?_cons_succ, List.set_cons_zero, List.set_cons_succ, List.map_cons, List.map_nil, List.cons_append, List.nil_append, List.append_nil, List.length_cons, List.length_nil, Option.bind_some, Option.map_some, if_true, reduceIte, or_true, true_or, and_true, true_and, Bool.not_true, Bool.not_false, decide_true, decide_false, if_false, Bool.false_eq_true, List.replicate, Int.reduceLT, Int.reduceLE, Int.reduceEq, Int.reduceNe, Int.reduceNeg, Int.reducePow, Int.reduceSub, Nat.reduceLeDiff, Nat.reduceAdd, Nat.reduceSub, Nat.reduceLT, Nat.reduceEqDiff, Nat.reducePow, eq_self, false_and, and_false, false_or, or_false, not_true_eq_false, not_false_eq_true, isi_non_tuple, isi_non_int, isi_non_str, isi_non_bool, isi_non_list, isi_bl_tuple, isi_bl_int, isi_bl_str, isi_bl_bool, isi_bl_list, isi_int_tuple, isi_int_int, isi_int_str, isi_int_bool, isi_int_list, isi_str_tuple, isi_str_int, isi_str_str, isi_str_bool, isi_str_list, isi_tup_tuple, isi_tup_int, isi_tup_str, isi_tup_bool, isi_tup_list, isi_lst_tuple, isi_lst_int, isi_lst_str, isi_lst_bool, isi_lst_list, Int.cast_ofNat_Int, Int.natCast_one, Int.natCast_zero, u_forN, u_forC, u_frA, u_frN, u_frT, u_frB, u_frR, u_cpN, u_cpC, u_cpA, u_cpT, u_cpF, u_cpc, u_cpD, a5, List.length_map, a1, a2, hm, k1, ha, a3, m1, hm2, k2, hm3, k3, k4, k5]

/-! ### the reader -/
def rdFs (X Y Z : P) : List (Str × P) := [("curves", X), ("machines", Y), ("wakes", Z)]
theorem rd_c {X Y Z : P} : (rdFs X Y Z).lookup ("curves" : Str) = some X := rfl
theorem rd_m {X Y Z : P} : (rdFs X Y Z).lookup ("machines" : Str) = some Y := rfl
theorem rd_w {X Y Z : P} : (rdFs X Y Z).lookup ("wakes" : Str) = some Z := rfl
theorem rd_take {X Y Z : P} : (rdFs X Y Z).lookup ("take" : Str) = none := rfl
theorem rd_farm {X Y Z : P} : (rdFs X Y Z).lookup ("farm" : Str) = none := rfl
theorem rd_len {X Y Z : P} : (rdFs X Y Z).length = 3 := rfl
theorem pt_c {X Y Z p : P} : putP "curves" p (rdFs X Y Z) = rdFs p Y Z := rfl
theorem pt_m {X Y Z p : P} : putP "machines" p (rdFs X Y Z) = rdFs X p Z := rfl
theorem pt_w {X Y Z p : P} : putP "wakes" p (rdFs X Y Z) = rdFs X Y p := rfl
theorem cellI_end {C : Str} {b : Bx} {fs : List (Str × P)} : cellI C (b ++ [.ins C fs]) b.length = some fs := by
  unfold cellI
  rw [List.getElem?_append_right (Nat.le_refl _), Nat.sub_self]
  simp
theorem set_end {b : Bx} {c c' : Cell} : (b ++ [c]).set b.length c' = b ++ [c'] := by
  rw [List.set_append_right _ _ (Nat.le_refl _), Nat.sub_self]; rfl
def rd (b : Bx) (cs : List (List (Int × Int))) (ms : List Int) (ws : List K4) : Bx := b ++ [.ins "FarmReader" (rdFs (.tup (cs.map encC)) (.tup (ms.map .int)) (.tup (ws.map encK)))]
theorem rd_init (b : Bx) : d_FarmReader_init__ [.box b.length] (b ++ [.ins "FarmReader" []]) = .ok .non (rd b [] [] []) := by
  have p1 : ∀ p, putP "curves" p [] = [(("curves" : Str), p)] := fun p => rfl
  have p2 : ∀ p q, putP "machines" p [(("curves" : Str), q)] = [(("curves" : Str), q), ("machines", p)] := fun p q => rfl
  have p3 : ∀ p q r, putP "wakes" p [(("curves" : Str), q), ("machines", r)] = [(("curves" : Str), q), ("machines", r), ("wakes", p)] := fun p q r => rfl
  have z0 : (0 : Nat) < 900 := by decide
  have z1 : (0 : Nat) ≤ 1000 := by decide
  unfold d_FarmReader_init__ b_FarmReader_init__ rd rdFs
  simp -implicitDefEqProofs only [q_var, q_va, q_c, q_op2, q_2a, q_2b, q_op1, q_isi, q_call, q_oCall, q_oSort, q_1, q_fn, q_f, q_nil, q_cons, q_ca, q_cb, q_tup, q_tu, q_oLst, q_ol, q_and, q_andT, q_andF, q_or, q_orT, q_orF, q_if, q_ifT, q_ifF, q_tVal, q_tv, q_tAnd, q_taT, q_taF, q_tOr, q_toT, q_toF, q_tNot, q_tn, q_yes, q_frz, q_fz, q_box, q_bx, q_chain, q_c1, q_c2, q_c2T, q_c2F, q_c3, q_met1, q_m1, q_m2, q_sl, q_s1, q_s2, q_s3, q_qN, q_qS, q_qs, q_fld, q_fl, q_lk, q_meth, q_mc, q_mc2, q_md, q_make, q_mk, q_jsN, q_jsC, q_js, q_iAny, q_itL, q_itT, q_itS, q_iRg1, q_rg1, q_iRg2, q_rg2, q_rg3, q_comp, q_cm, q_noEx, q_w0, q_w1, q_seq, q_sqN, q_sqR, q_sqC, q_sqB, q_skip, q_cont, q_break, q_retN, q_set, q_st, q_setO, q_so, q_ret, q_rt, q_expr, q_ex, q_sIf, q_siT, q_siF, q_asg, q_as, q_ofE, q_append, q_ap0, q_ap, q_extend, q_xt0, q_xt, q_for, q_fo, q_boxSet, q_b1, q_b2, q_b3, q_bC, q_bB, q_fldSet, q_fs1, q_fs2, q_fsC, q_sFrz, q_tryNo, q_trN, q_trR, q_trC, q_trB, q_gTp, q_gNm, q_def, q_dN, q_dR, q_add, q_addS, q_addT, q_addL, q_sub, q_mul, q_mod, q_div, q_neg, q_le, q_ge, q_gt, q_lt, q_eq, q_ne, q_eqS, q_neS, q_ixT, q_ixL, q_ixB, q_lenT, q_lenL, q_int, q_tupleL, q_tupleT, q_cellL, q_cellLs, q_not, ofO_some, atI0, atI1, atI2, atI3, atI4, frzE, gAll, List.getElem?_cons_zero, List.getElem?_cons_succ, List.set_cons_zero, List.set_cons_succ, List.map_cons, List.map_nil, List.cons_append, List.nil_append, List.append_nil, List.length_cons, List.length_nil, Option.bind_some, Option.map_some, if_true, reduceIte, or_true, true_or, and_true, true_and, Bool.not_true, Bool.not_false, decide_true, decide_false, if_false, Bool.false_eq_true, List.replicate, Int.reduceLT, Int.reduceLE, Int.reduceEq, Int.reduceNe, Int.reduceNeg, Int.reducePow, Int.reduceSub, Nat.reduceLeDiff, Nat.reduceAdd, Nat.reduceSub, Nat.reduceLT, Nat.reduceEqDiff, Nat.reducePow, eq_self, false_and, and_false, false_or, or_false, not_true_eq_false, not_false_eq_true, isi_non_tuple, isi_non_int, isi_non_str, isi_non_bool, isi_non_list, isi_bl_tuple, isi_bl_int, isi_bl_str, isi_bl_bool, isi_bl_list, isi_int_tuple, isi_int_int, isi_int_str, isi_int_bool, isi_int_list, isi_str_tuple, isi_str_int, isi_str_str, isi_str_bool, isi_str_list, isi_tup_tuple, isi_tup_int, isi_tup_str, isi_tup_bool, isi_tup_list, isi_lst_tuple, isi_lst_int, isi_lst_str, isi_lst_bool, isi_lst_list, Int.cast_ofNat_Int, Int.natCast_one, Int.natCast_zero, cellI_end, set_end, p1, p2, p3, z0, z1, Nat.zero_le]
def dC (cs : List (List (Int × Int))) : List (List (Int × Int)) := if cs = [] then [[(0, 0), (1, 0)]] else cs
def dM (ms : List Int) : List Int := if ms = [] then [0] else ms
theorem farm_meth_eq (b : Bx) (cs : List (List (Int × Int))) (ms : List Int) (ws : List K4) : d_FarmReader_farm [.box b.length] (rd b cs ms ws) = .ok (encF ⟨dC cs, dM ms, ws⟩) (rd b cs ms ws) := by
  have hL : c_LOW = encC [(0, 0), (1, 0)] := rfl
  unfold d_FarmReader_farm b_FarmReader_farm rd encF dC dM
  by_cases h1 : cs = []
  · subst h1
    by_cases h2 : ms = []
    · subst h2
      simp -implicitDefEqProofs only [q_var, q_va, q_c, q_op2, q_2a, q_2b, q_op1, q_isi, q_call, q_oCall, q_oSort, q_1, q_fn, q_f, q_nil, q_cons, q_ca, q_cb, q_tup, q_tu, q_oLst, q_ol, q_and, q_andT, q_andF, q_or, q_orT, q_orF, q_if, q_ifT, q_ifF, q_tVal, q_tv, q_tAnd, q_taT, q_taF, q_tOr, q_toT, q_toF, q_tNot, q_tn, q_yes, q_frz, q_fz, q_box, q_bx, q_chain, q_c1, q_c2, q_c2T, q_c2F, q_c3, q_met1, q_m1, q_m2, q_sl, q_s1, q_s2, q_s3, q_qN, q_qS, q_qs, q_fld, q_fl, q_lk, q_meth, q_mc, q_mc2, q_md, q_make, q_mk, q_jsN, q_jsC, q_js, q_iAny, q_itL, q_itT, q_itS, q_iRg1, q_rg1, q_iRg2, q_rg2, q_rg3, q_comp, q_cm, q_noEx, q_w0, q_w1, q_seq, q_sqN, q_sqR, q_sqC, q_sqB, q_skip, q_cont, q_break, q_retN, q_set, q_st, q_setO, q_so, q_ret, q_rt, q_expr, q_ex, q_sIf, q_siT, q_siF, q_asg, q_as, q_ofE, q_append, q_ap0, q_ap, q_extend, q_xt0, q_xt, q_for, q_fo, q_boxSet, q_b1, q_b2, q_b3, q_bC, q_bB, q_fldSet, q_fs1, q_fs2, q_fsC, q_sFrz, q_tryNo, q_trN, q_trR, q_trC, q_trB, q_gTp, q_gNm, q_def, q_dN, q_dR, q_add, q_addS, q_addT, q_addL, q_sub, q_mul, q_mod, q_div, q_neg, q_le, q_ge, q_gt, q_lt, q_eq, q_ne, q_eqS, q_neS, q_ixT, q_ixL, q_ixB, q_lenT, q_lenL, q_int, q_tupleL, q_tupleT, q_cellL, q_cellLs, q_not, ofO_some, atI0, atI1, atI2, atI3, atI4, frzE, gAll, List.getElem?_cons_zero, List.getElem?_cons_succ, List.set_cons_zero, List.set_cons_succ, List.map_cons, List.map_nil, List.cons_append, List.nil_append, List.append_nil, List.length_cons, List.length_nil, Option.bind_some, Option.map_some, if_true, reduceIte, or_true, true_or, and_true, true_and, Bool.not_true, Bool.not_false, decide_true, decide_false, if_false, Bool.false_eq_true, List.replicate, Int.reduceLT, Int.reduceLE, Int.reduceEq, Int.reduceNe, Int.reduceNeg, Int.reducePow, Int.reduceSub, Nat.reduceLeDiff, Nat.reduceAdd, Nat.reduceSub, Nat.reduceLT, Nat.reduceEqDiff, Nat.reducePow, eq_self, false_and, and_false, false_or, or_false, not_true_eq_false, not_false_eq_true, isi_non_tuple, isi_non_int, isi_non_str, isi_non_bool, isi_non_list, isi_bl_tuple, isi_bl_int, isi_bl_str, isi_bl_bool, isi_bl_list, isi_int_tuple, isi_int_int, isi_int_str, isi_int_bool, isi_int_list, isi_str_tuple, isi_str_int, isi_str_str, isi_str_bool, isi_str_list, isi_tup_tuple, isi_tup_int, isi_tup_str, isi_tup_bool, isi_tup_list, isi_lst_tuple, isi_lst_int, isi_lst_str, isi_lst_bool, isi_lst_list, Int.cast_ofNat_Int, Int.natCast_one, Int.natCast_zero, cellI_end, rd_c, rd_m, rd_w, hL, Int.lt_irrefl]
    · have : (0 : Int) < (ms.length : Nat) := by have := List.length_pos_iff.mpr h2; omega
      simp -implicitDefEqProofs only [q_var, q_va, q_c, q_op2, q_2a, q_2b, q_op1, q_isi, q_call, q_oCall, q_oSort, q_1, q_fn, q_f, q_nil, q_cons, q_ca, q_cb, q_tup, q_tu, q_oLst, q_ol, q_and, q_andT, q_andF, q_or, q_orT, q_orF, q_if, q_ifT, q_ifF, q_tVal, q_tv, q_tAnd, q_taT, q_taF, q_tOr, q_toT, q_toF, q_tNot, q_tn, q_yes, q_frz, q_fz, q_box, q_bx, q_chain, q_c1, q_c2, q_c2T, q_c2F, q_c3, q_met1, q_m1, q_m2, q_sl, q_s1, q_s2, q_s3, q_qN, q_qS, q_qs, q_fld, q_fl, q_lk, q_meth, q_mc, q_mc2, q_md, q_make, q_mk, q_jsN, q_jsC, q_js, q_iAny, q_itL, q_itT, q_itS, q_iRg1, q_rg1, q_iRg2, q_rg2, q_rg3, q_comp, q_cm, q_noEx, q_w0, q_w1, q_seq, q_sqN, q_sqR, q_sqC, q_sqB, q_skip, q_cont, q_break, q_retN, q_set, q_st, q_setO, q_so, q_ret, q_rt, q_expr, q_ex, q_sIf, q_siT, q_siF, q_asg, q_as, q_ofE, q_append, q_ap0, q_ap, q_extend, q_xt0, q_xt, q_for, q_fo, q_boxSet, q_b1, q_b2, q_b3, q_bC, q_bB, q_fldSet, q_fs1, q_fs2, q_fsC, q_sFrz, q_tryNo, q_trN, q_trR, q_trC, q_trB, q_gTp, q_gNm, q_def, q_dN, q_dR, q_add, q_addS, q_addT, q_addL, q_sub, q_mul, q_mod, q_div, q_neg, q_le, q_ge, q_gt, q_lt, q_eq, q_ne, q_eqS, q_neS, q_ixT, q_ixL, q_ixB, q_lenT, q_lenL, q_int, q_tupleL, q_tupleT, q_cellL, q_cellLs, q_not, ofO_some, atI0, atI1, atI2, atI3, atI4, frzE, gAll, List.getElem?_cons_zero, List.getElem?_cons_succ, List.set_cons_zero, List.set_cons_succ, List.map_cons, List.map_nil, List.cons_append, List.nil_append, List.append_nil, List.length_cons, List.length_nil, Option.bind_some, Option.map_some, if_true, reduceIte, or_true, true_or, and_true, true_and, Bool.not_true, Bool.not_false, decide_true, decide_false, if_false, Bool.false_eq_true, List.replicate, Int.reduceLT, Int.reduceLE, Int.reduceEq, Int.reduceNe, Int.reduceNeg, Int.reducePow, Int.reduceSub, Nat.reduceLeDiff, Nat.reduceAdd, Nat.reduceSub, Nat.reduceLT, Nat.reduceEqDiff, Nat.reducePow, eq_self, false_and, and_false, false_or, or_false, not_true_eq_false, not_false_eq_true, isi_non_tuple, isi_non_int, isi_non_str, isi_non_bool, isi_non_list, isi_bl_tuple, isi_bl_int, isi_bl_str, isi_bl_bool, isi_bl_list, isi_int_tuple, isi_int_int, isi_int_str, isi_int_bool, isi_int_list, isi_str_tuple, isi_str_int, isi_str_str, isi_str_bool, isi_str_list, isi_tup_tuple, isi_tup_int, isi_tup_str, isi_tup_bool, isi_tup_list, isi_lst_tuple, isi_lst_int, isi_lst_str, isi_lst_bool, isi_lst_list, Int.cast_ofNat_Int, Int.natCast_one, Int.natCast_zero, cellI_end, rd_c, rd_m, rd_w, hL, Int.lt_irrefl, List.length_map, this, h2]
  · have h1' : (0 : Int) < (cs.length : Nat) := by have := List.length_pos_iff.mpr h1; omega
    by_cases h2 : ms = []
    · subst h2
      simp -implicitDefEqProofs only [q_var, q_va, q_c, q_op2, q_2a, q_2b, q_op1, q_isi, q_call, q_oCall, q_oSort, q_1, q_fn, q_f, q_nil, q_cons, q_ca, q_cb, q_tup, q_tu, q_oLst, q_ol, q_and, q_andT, q_andF, q_or, q_orT, q_orF, q_if, q_ifT, q_ifF, q_tVal, q_tv, q_tAnd, q_taT, q_taF, q_tOr, q_toT, q_toF, q_tNot, q_tn, q_yes, q_frz, q_fz, q_box, q_bx, q_chain, q_c1, q_c2, q_c2T, q_c2F, q_c3, q_met1, q_m1, q_m2, q_sl, q_s1, q_s2, q_s3, q_qN, q_qS, q_qs, q_fld, q_fl, q_lk, q_meth, q_mc, q_mc2, q_md, q_make, q_mk, q_jsN, q_jsC, q_js, q_iAny, q_itL, q_itT, q_itS, q_iRg1, q_rg1, q_iRg2, q_rg2, q_rg3, q_comp, q_cm, q_noEx, q_w0, q_w1, q_seq, q_sqN, q_sqR, q_sqC, q_sqB, q_skip, q_cont, q_break, q_retN, q_set, q_st, q_setO, q_so, q_ret, q_rt, q_expr, q_ex, q_sIf, q_siT, q_siF, q_asg, q_as, q_ofE, q_append, q_ap0, q_ap, q_extend, q_xt0, q_xt, q_for, q_fo, q_boxSet, q_b1, q_b2, q_b3, q_bC, q_bB, q_fldSet, q_fs1, q_fs2, q_fsC, q_sFrz, q_tryNo, q_trN, q_trR, q_trC, q_trB, q_gTp, q_gNm, q_def, q_dN, q_dR, q_add, q_addS, q_addT, q_addL, q_sub, q_mul, q_mod, q_div, q_neg, q_le, q_ge, q_gt, q_lt, q_eq, q_ne, q_eqS, q_neS, q_ixT, q_ixL, q_ixB, q_lenT, q_lenL, q_int, q_tupleL, q_tupleT, q_cellL, q_cellLs, q_not, ofO_some, atI0, atI1, atI2, atI3, atI4, frzE, gAll, List.getElem?_cons_zero, List.getElem?_cons_succ, List.set_cons_zero, List.set_cons_succ, List.map_cons, List.map_nil, List.cons_append, List.nil_append, List.append_nil, List.length_cons, List.length_nil, Option.bind_some, Option.map_some, if_true, reduceIte, or_true, true_or, and_true, true_and, Bool.not_true, Bool.not_false, decide_true, decide_false, if_false, Bool.false_eq_true, List.replicate, Int.reduceLT, Int.reduceLE, Int.reduceEq, Int.reduceNe, Int.reduceNeg, Int.reducePow, Int.reduceSub, Nat.reduceLeDiff, Nat.reduceAdd, Nat.reduceSub, Nat.reduceLT, Nat.reduceEqDiff, Nat.reducePow, eq_self, false_and, and_false, false_or, or_false, not_true_eq_false, not_false_eq_true, isi_non_tuple, isi_non_int, isi_non_str, isi_non_bool, isi_non_list, isi_bl_tuple, isi_bl_int, isi_bl_str, isi_bl_bool, isi_bl_list, isi_int_tuple, isi_int_int, isi_int_str, isi_int_bool, isi_int_list, isi_str_tuple, isi_str_int, isi_str_str, isi_str_bool, isi_str_list, isi_tup_tuple, isi_tup_int, isi_tup_str, isi_tup_bool, isi_tup_list, isi_lst_tuple, isi_lst_int, isi_lst_str, isi_lst_bool, isi_lst_list, Int.cast_ofNat_Int, Int.natCast_one, Int.natCast_zero, cellI_end, rd_c, rd_m, rd_w, hL, Int.lt_irrefl, List.length_map, h1, h1']
    · have : (0 : Int) < (ms.length : Nat) := by have := List.length_pos_iff.mpr h2; omega
      simp -implicitDefEqProofs only [q_var, q_va, q_c, q_op2, q_2a, q_2b, q_op1, q_isi, q_call, q_oCall, q_oSort, q_1, q_fn, q_f, q_nil, q_cons, q_ca, q_cb, q_tup, q_tu, q_oLst, q_ol, q_and, q_andT, q_andF, q_or, q_orT, q_orF, q_if, q_ifT, q_ifF, q_tVal, q_tv, q_tAnd, q_taT, q_taF, q_tOr, q_toT, q_toF, q_tNot, q_tn, q_yes, q_frz, q_fz, q_box, q_bx, q_chain, q_c1, q_c2, q_c2T, q_c2F, q_c3, q_met1, q_m1, q_m2, q_sl, q_s1, q_s2, q_s3, q_qN, q_qS, q_qs, q_fld, q_fl, q_lk, q_meth, q_mc, q_mc2, q_md, q_make, q_mk, q_jsN, q_jsC, q_js, q_iAny, q_itL, q_itT, q_itS, q_iRg1, q_rg1, q_iRg2, q_rg2, q_rg3, q_comp, q_cm, q_noEx, q_w0, q_w1, q_seq, q_sqN, q_sqR, q_sqC, q_sqB, q_skip, q_cont, q_break, q_retN, q_set, q_st, q_setO, q_so, q_ret, q_rt, q_expr, q_ex, q_sIf, q_siT, q_siF, q_asg, q_as, q_ofE, q_append, q_ap0, q_ap, q_extend, q_xt0, q_xt, q_for, q_fo, q_boxSet, q_b1, q_b2, q_b3, q_bC, q_bB, q_fldSet, q_fs1, q_fs2, q_fsC, q_sFrz, q_tryNo, q_trN, q_trR, q_trC, q_trB, q_gTp, q_gNm, q_def, q_dN, q_dR, q_add, q_addS, q_addT, q_addL, q_sub, q_mul, q_mod, q_div, q_neg, q_le, q_ge, q_gt, q_lt, q_eq, q_ne, q_eqS, q_neS, q_ixT, q_ixL, q_ixB, q_lenT, q_lenL, q_int, q_tupleL, q_tupleT, q_cellL, q_cellLs, q_not, ofO_some, atI0, atI1, atI2, atI3, atI4, frzE, gAll, List.getElem?_cons_zero, List.getElem?_cons_succ, List.set_cons_zero, List.set_cons_succ, List.map_cons, List.map_nil, List.cons_append, List.nil_append, List.append_nil, List.length_cons, List.length_nil, Option.bind_some, Option.map_some, if_true, reduceIte, or_true, true_or, and_true, true_and, Bool.not_true, Bool.not_false, decide_true, decide_false, if_false, Bool.false_eq_true, List.replicate, Int.reduceLT, Int.reduceLE, Int.reduceEq, Int.reduceNe, Int.reduceNeg, Int.reducePow, Int.reduceSub, Nat.reduceLeDiff, Nat.reduceAdd, Nat.reduceSub, Nat.reduceLT, Nat.reduceEqDiff, Nat.reducePow, eq_self, false_and, and_false, false_or, or_false, not_true_eq_false, not_false_eq_true, isi_non_tuple, isi_non_int, isi_non_str, isi_non_bool, isi_non_list, isi_bl_tuple, isi_bl_int, isi_bl_str, isi_bl_bool, isi_bl_list, isi_int_tuple, isi_int_int, isi_int_str, isi_int_bool, isi_int_list, isi_str_tuple, isi_str_int, isi_str_str, isi_str_bool, isi_str_list, isi_tup_tuple, isi_tup_int, isi_tup_str, isi_tup_bool, isi_tup_list, isi_lst_tuple, isi_lst_int, isi_lst_str, isi_lst_bool, isi_lst_list, Int.cast_ofNat_Int, Int.natCast_one, Int.natCast_zero, cellI_end, rd_c, rd_m, rd_w, hL, Int.lt_irrefl, List.length_map, this, h2, h1, h1']

theorem sp_tl : tl (" " : Str) = [32] := by decide
theorem sp_k : (" " : Str).cps.all (· < 256) = true := by decide +kernel
theorem nl_k : ("\n" : Str).cps.all (· < 256) = true := by decide +kernel
theorem nl_tl : tl ("\n" : Str) = [10] := by decide
theorem free_app {s : Nat} {x y : Str} (h1 : s ∉ tl x) (h2 : s ∉ tl y) : s ∉ tl (x ++ y) := by
  rw [tl_append]; simp only [List.mem_append, not_or]; exact ⟨h1, h2⟩
theorem tPt_free {s : Nat} (h : s = 32 ∨ s = 10) {z : Int × Int} (hz : Nm z.1 ∧ Nm z.2) : s ∉ tl (tPt z) := by
  unfold tPt
  exact free_app (free_app (num_free hz.1.1 (by omega)) (by rcases h with rfl | rfl <;> decide)) (num_free hz.2.1 (by omega))
theorem join_free {s : Nat} {y : Str} (hy : s ∉ tl y) : ∀ {parts : List Str}, (∀ p, p ∈ parts → s ∉ tl p) → s ∉ tl (Txt.join y parts)
  | [], _ => by rw [join_eq]; exact List.not_mem_nil
  | [x], h => by rw [join_one]; exact h x List.mem_cons_self
  | x :: z :: r, h => by
    rw [join_cons (by simp)]
    exact free_app (free_app (h x List.mem_cons_self) hy) (join_free hy fun p hp => h p (List.mem_cons_of_mem _ hp))
theorem curve_split {c : List (Int × Int)} (h : c ≠ [] ∧ c.length ≤ 100 ∧ ∀ z, z ∈ c → Nm z.1 ∧ Nm z.2) : splitP (.str (tCurve c)) (.str " ") = some (.lst (.str "curve" :: c.map fun z => .str (tPt z))) := by
  have := splitP_join (y := " ") (s := 32) (S := []) sp_tl sp_k (parts := "curve" :: c.map tPt) (by simp) (fun p hp => by
    rcases List.mem_cons.mp hp with rfl | hp
    · decide
    · obtain ⟨z, hz, rfl⟩ := List.mem_map.mp hp
      exact tPt_free (.inl rfl) (h.2.2 z hz)) (by have := tCurve_len h; unfold tCurve at this; omega)
  unfold tCurve
  simpa [List.map_map, Function.comp_def] using this
theorem mach_split {ms : List Int} (h0 : ms ≠ []) (h : ms.length ≤ 100) (hn : ∀ m, m ∈ ms → Nm m) : splitP (.str (tMach ms)) (.str " ") = some (.lst (.str "machines" :: ms.map fun z => .str (num z))) := by
  have := splitP_join (y := " ") (s := 32) (S := []) sp_tl sp_k (parts := "machines" :: ms.map num) (by simp) (fun p hp => by
    rcases List.mem_cons.mp hp with rfl | hp
    · decide
    · obtain ⟨z, hz, rfl⟩ := List.mem_map.mp hp
      exact num_free (hn z hz).1 (.inl (by decide))) (by have := tMach_len h0 h hn; unfold tMach at this; omega)
  unfold tMach
  simpa [List.map_map, Function.comp_def] using this
theorem wake_split {w : K4} (hn : ∀ m, m ∈ nums4 w → Nm m) : splitP (.str (tWake w)) (.str " ") = some (.lst (.str "wake" :: (nums4 w).map fun z => .str (num z))) := by
  have := splitP_join (y := " ") (s := 32) (S := []) sp_tl sp_k (parts := "wake" :: (nums4 w).map num) (by simp) (fun p hp => by
    rcases List.mem_cons.mp hp with rfl | hp
    · decide
    · obtain ⟨z, hz, rfl⟩ := List.mem_map.mp hp
      exact num_free (hn z hz).1 (.inl (by decide))) (by have := tWake_len hn; unfold tWake at this; omega)
  unfold tWake
  simpa [List.map_map, Function.comp_def] using this
theorem mc_ne : decide (("machines" : Str) = "curve") = false := by decide
theorem wc_ne : decide (("wake" : Str) = "curve") = false := by decide
theorem wm_ne : decide (("wake" : Str) = "machines") = false := by decide
theorem take_curve (b : Bx) (cs : List (List (Int × Int))) {c : List (Int × Int)} (h : c ≠ [] ∧ c.length ≤ 100 ∧ ∀ z, z ∈ c → Nm z.1 ∧ Nm z.2) (hl : cs.length ≤ 100) (g : GoodF 4 100 ⟨cs ++ [c], [0], []⟩) :
    d_FarmReader_take [.box b.length, .str (tCurve c)] (rd b cs [] []) = .ok .non (rd b (cs ++ [c]) [] []) := by
  have hf := farm_meth_eq b (cs ++ [c]) [] []
  have e1 : dC (cs ++ [c]) = cs ++ [c] := by unfold dC; simp
  have e2 : dM [] = [0] := rfl
  rw [e1, e2] at hf
  have hi := is_farm_eq (b := rd b (cs ++ [c]) [] []) g
  have hm : c.length < 1000000 := by omega
  have ht : ∀ (bb : Bx) (xs : List P), slP bb (.lst (.str "curve" :: xs)) (some 1) none = some (.lst xs) := fun bb xs => by unfold slP; simp only [cut_tail]
  have hc : ∀ bb s2 s3, compL (gNm 4) tYesF (eFn d_read_point (aCons (eVar 4) aNil)) [.va (.box b.length), s2, .va (.lst (.str "curve" :: c.map fun z => .str (tPt z))), s3, .un] (c.map fun z => .str (tPt z)) bb = .ok (c.map encW) bb := fun bb s2 s3 =>
    comp_pl (fun z => .str (tPt z)) encW fun z hz => ⟨_, rfl, rfl, by
      have hz' := h.2.2 z hz
      simp -implicitDefEqProofs only [q_var, q_va, q_c, q_op2, q_2a, q_2b, q_op1, q_isi, q_call, q_oCall, q_oSort, q_1, q_fn, q_f, q_nil, q_cons, q_ca, q_cb, q_tup, q_tu, q_oLst, q_ol, q_and, q_andT, q_andF, q_or, q_orT, q_orF, q_if, q_ifT, q_ifF, q_tVal, q_tv, q_tAnd, q_taT, q_taF, q_tOr, q_toT, q_toF, q_tNot, q_tn, q_yes, q_frz, q_fz, q_box, q_bx, q_chain, q_c1, q_c2, q_c2T, q_c2F, q_c3, q_met1, q_m1, q_m2, q_sl, q_s1, q_s2, q_s3, q_qN, q_qS, q_qs, q_fld, q_fl, q_lk, q_meth, q_mc, q_mc2, q_md, q_make, q_mk, q_jsN, q_jsC, q_js, q_iAny, q_itL, q_itT, q_itS, q_iRg1, q_rg1, q_iRg2, q_rg2, q_rg3, q_comp, q_cm, q_noEx, q_w0, q_w1, q_seq, q_sqN, q_sqR, q_sqC, q_sqB, q_skip, q_cont, q_break, q_retN, q_set, q_st, q_setO, q_so, q_ret, q_rt, q_expr, q_ex, q_sIf, q_siT, q_siF, q_asg, q_as, q_ofE, q_append, q_ap0, q_ap, q_extend, q_xt0, q_xt, q_for, q_fo, q_boxSet, q_b1, q_b2, q_b3, q_bC, q_bB, q_fldSet, q_fs1, q_fs2, q_fsC, q_sFrz, q_tryNo, q_trN, q_trR, q_trC, q_trB, q_gTp, q_gNm, q_def, q_dN, q_dR, q_add, q_addS, q_addT, q_addL, q_sub, q_mul, q_mod, q_div, q_neg, q_le, q_ge, q_gt, q_lt, q_eq, q_ne, q_eqS, q_neS, q_ixT, q_ixL, q_ixB, q_lenT, q_lenL, q_int, q_tupleL, q_tupleT, q_cellL, q_cellLs, q_not, ofO_some, atI0, atI1, atI2, atI3, atI4, frzE, gAll, List.getElem?_cons_zero, List.getElem?_cons_succ, List.set_cons_zero, List.set_cons_succ, List.map_cons, List.map_nil, List.cons_append, List.nil_append, List.append_nil, List.length_cons, List.length_nil, Option.bind_some, Option.map_some, if_true, reduceIte, or_true, true_or, and_true, true_and, Bool.not_true, Bool.not_false, decide_true, decide_false, if_false, Bool.false_eq_true, List.replicate, Int.reduceLT, Int.reduceLE, Int.reduceEq, Int.reduceNe, Int.reduceNeg, Int.reducePow, Int.reduceSub, Nat.reduceLeDiff, Nat.reduceAdd, Nat.reduceSub, Nat.reduceLT, Nat.reduceEqDiff, Nat.reducePow, eq_self, false_and, and_false, false_or, or_false, not_true_eq_false, not_false_eq_true, isi_non_tuple, isi_non_int, isi_non_str, isi_non_bool, isi_non_list, isi_bl_tuple, isi_bl_int, isi_bl_str, isi_bl_bool, isi_bl_list, isi_int_tuple, isi_int_int, isi_int_str, isi_int_bool, isi_int_list, isi_str_tuple, isi_str_int, isi_str_str, isi_str_bool, isi_str_list, isi_tup_tuple, isi_tup_int, isi_tup_str, isi_tup_bool, isi_tup_list, isi_lst_tuple, isi_lst_int, isi_lst_str, isi_lst_bool, isi_lst_list, Int.cast_ofNat_Int, Int.natCast_one, Int.natCast_zero, read_point_eq hz'.1.1 hz'.1.2 hz'.2.1 hz'.2.2]⟩
  have h6 : cs.length + 1 ≤ 1000000 := by omega
  have e3 : encC c = .tup (c.map encW) := rfl
  unfold rd at hf hi
  unfold d_FarmReader_take b_FarmReader_take rd
  simp only [List.map_append, List.map_cons, List.map_nil, e3] at hf hi
  simp -implicitDefEqProofs only [q_var, q_va, q_c, q_op2, q_2a, q_2b, q_op1, q_isi, q_call, q_oCall, q_oSort, q_1, q_fn, q_f, q_nil, q_cons, q_ca, q_cb, q_tup, q_tu, q_oLst, q_ol, q_and, q_andT, q_andF, q_or, q_orT, q_orF, q_if, q_ifT, q_ifF, q_tVal, q_tv, q_tAnd, q_taT, q_taF, q_tOr, q_toT, q_toF, q_tNot, q_tn, q_yes, q_frz, q_fz, q_box, q_bx, q_chain, q_c1, q_c2, q_c2T, q_c2F, q_c3, q_met1, q_m1, q_m2, q_sl, q_s1, q_s2, q_s3, q_qN, q_qS, q_qs, q_fld, q_fl, q_lk, q_meth, q_mc, q_mc2, q_md, q_make, q_mk, q_jsN, q_jsC, q_js, q_iAny, q_itL, q_itT, q_itS, q_iRg1, q_rg1, q_iRg2, q_rg2, q_rg3, q_comp, q_cm, q_noEx, q_w0, q_w1, q_seq, q_sqN, q_sqR, q_sqC, q_sqB, q_skip, q_cont, q_break, q_retN, q_set, q_st, q_setO, q_so, q_ret, q_rt, q_expr, q_ex, q_sIf, q_siT, q_siF, q_asg, q_as, q_ofE, q_append, q_ap0, q_ap, q_extend, q_xt0, q_xt, q_for, q_fo, q_boxSet, q_b1, q_b2, q_b3, q_bC, q_bB, q_fldSet, q_fs1, q_fs2, q_fsC, q_sFrz, q_tryNo, q_trN, q_trR, q_trC, q_trB, q_gTp, q_gNm, q_def, q_dN, q_dR, q_add, q_addS, q_addT, q_addL, q_sub, q_mul, q_mod, q_div, q_neg, q_le, q_ge, q_gt, q_lt, q_eq, q_ne, q_eqS, q_neS, q_ixT, q_ixL, q_ixB, q_lenT, q_lenL, q_int, q_tupleL, q_tupleT, q_cellL, q_cellLs, q_not, ofO_some, atI0, atI1, atI2, atI3, atI4, frzE, gAll, List.getElem?_cons_zero, List.getElem?_cons_succ, List.set_cons_zero, List.set_cons_succ, List.map_cons, List.map_nil, List.cons_append, List.nil_append, List.append_nil, List.length_cons, List.length_nil, Option.bind_some, Option.map_some, if_true, reduceIte, or_true, true_or, and_true, true_and, Bool.not_true, Bool.not_false, decide_true, decide_false, if_false, Bool.false_eq_true, List.replicate, Int.reduceLT, Int.reduceLE, Int.reduceEq, Int.reduceNe, Int.reduceNeg, Int.reducePow, Int.reduceSub, Nat.reduceLeDiff, Nat.reduceAdd, Nat.reduceSub, Nat.reduceLT, Nat.reduceEqDiff, Nat.reducePow, eq_self, false_and, and_false, false_or, or_false, not_true_eq_false, not_false_eq_true, isi_non_tuple, isi_non_int, isi_non_str, isi_non_bool, isi_non_list, isi_bl_tuple, isi_bl_int, isi_bl_str, isi_bl_bool, isi_bl_list, isi_int_tuple, isi_int_int, isi_int_str, isi_int_bool, isi_int_list, isi_str_tuple, isi_str_int, isi_str_str, isi_str_bool, isi_str_list, isi_tup_tuple, isi_tup_int, isi_tup_str, isi_tup_bool, isi_tup_list, isi_lst_tuple, isi_lst_int, isi_lst_str, isi_lst_bool, isi_lst_list, Int.cast_ofNat_Int, Int.natCast_one, Int.natCast_zero, curve_split h, cellI_end, rd_c, rd_m, Int.lt_irrefl, ht, hc, List.length_map, hm, q_addT, h6, rd_len, pt_c, set_end, rd_farm, hf, hi, Option.isNone_none, List.map_append, e3]
theorem take_mach (b : Bx) (cs : List (List (Int × Int))) {ms : List Int} (h0 : ms ≠ []) (h : ms.length ≤ 100) (hn : ∀ m, m ∈ ms → Nm m) (hcs : cs ≠ []) (g : GoodF 4 100 ⟨cs, ms, []⟩) :
    d_FarmReader_take [.box b.length, .str (tMach ms)] (rd b cs [] []) = .ok .non (rd b cs ms []) := by
  have hf := farm_meth_eq b cs ms []
  have e1 : dC cs = cs := if_neg hcs
  have e2 : dM ms = ms := if_neg h0
  rw [e1, e2] at hf
  have hi := is_farm_eq (b := rd b cs ms []) g
  have hm : ms.length < 1000000 := by omega
  have ht : ∀ (bb : Bx) (xs : List P), slP bb (.lst (.str "machines" :: xs)) (some 1) none = some (.lst xs) := fun bb xs => by unfold slP; simp only [cut_tail]
  have hc : ∀ bb s2 s3, compL (gNm 4) tYesF (eFn d_read_number (aCons (eVar 4) aNil)) [.va (.box b.length), s2, .va (.lst (.str "machines" :: ms.map fun z => .str (num z))), s3, .un] (ms.map fun z => .str (num z)) bb = .ok (ms.map .int) bb := fun bb s2 s3 =>
    comp_pl (fun z => .str (num z)) P.int fun z hz => ⟨_, rfl, rfl, by
      simp -implicitDefEqProofs only [q_var, q_va, q_c, q_op2, q_2a, q_2b, q_op1, q_isi, q_call, q_oCall, q_oSort, q_1, q_fn, q_f, q_nil, q_cons, q_ca, q_cb, q_tup, q_tu, q_oLst, q_ol, q_and, q_andT, q_andF, q_or, q_orT, q_orF, q_if, q_ifT, q_ifF, q_tVal, q_tv, q_tAnd, q_taT, q_taF, q_tOr, q_toT, q_toF, q_tNot, q_tn, q_yes, q_frz, q_fz, q_box, q_bx, q_chain, q_c1, q_c2, q_c2T, q_c2F, q_c3, q_met1, q_m1, q_m2, q_sl, q_s1, q_s2, q_s3, q_qN, q_qS, q_qs, q_fld, q_fl, q_lk, q_meth, q_mc, q_mc2, q_md, q_make, q_mk, q_jsN, q_jsC, q_js, q_iAny, q_itL, q_itT, q_itS, q_iRg1, q_rg1, q_iRg2, q_rg2, q_rg3, q_comp, q_cm, q_noEx, q_w0, q_w1, q_seq, q_sqN, q_sqR, q_sqC, q_sqB, q_skip, q_cont, q_break, q_retN, q_set, q_st, q_setO, q_so, q_ret, q_rt, q_expr, q_ex, q_sIf, q_siT, q_siF, q_asg, q_as, q_ofE, q_append, q_ap0, q_ap, q_extend, q_xt0, q_xt, q_for, q_fo, q_boxSet, q_b1, q_b2, q_b3, q_bC, q_bB, q_fldSet, q_fs1, q_fs2, q_fsC, q_sFrz, q_tryNo, q_trN, q_trR, q_trC, q_trB, q_gTp, q_gNm, q_def, q_dN, q_dR, q_add, q_addS, q_addT, q_addL, q_sub, q_mul, q_mod, q_div, q_neg, q_le, q_ge, q_gt, q_lt, q_eq, q_ne, q_eqS, q_neS, q_ixT, q_ixL, q_ixB, q_lenT, q_lenL, q_int, q_tupleL, q_tupleT, q_cellL, q_cellLs, q_not, ofO_some, atI0, atI1, atI2, atI3, atI4, frzE, gAll, List.getElem?_cons_zero, List.getElem?_cons_succ, List.set_cons_zero, List.set_cons_succ, List.map_cons, List.map_nil, List.cons_append, List.nil_append, List.append_nil, List.length_cons, List.length_nil, Option.bind_some, Option.map_some, if_true, reduceIte, or_true, true_or, and_true, true_and, Bool.not_true, Bool.not_false, decide_true, decide_false, if_false, Bool.false_eq_true, List.replicate, Int.reduceLT, Int.reduceLE, Int.reduceEq, Int.reduceNe, Int.reduceNeg, Int.reducePow, Int.reduceSub, Nat.reduceLeDiff, Nat.reduceAdd, Nat.reduceSub, Nat.reduceLT, Nat.reduceEqDiff, Nat.reducePow, eq_self, false_and, and_false, false_or, or_false, not_true_eq_false, not_false_eq_true, isi_non_tuple, isi_non_int, isi_non_str, isi_non_bool, isi_non_list, isi_bl_tuple, isi_bl_int, isi_bl_str, isi_bl_bool, isi_bl_list, isi_int_tuple, isi_int_int, isi_int_str, isi_int_bool, isi_int_list, isi_str_tuple, isi_str_int, isi_str_str, isi_str_bool, isi_str_list, isi_tup_tuple, isi_tup_int, isi_tup_str, isi_tup_bool, isi_tup_list, isi_lst_tuple, isi_lst_int, isi_lst_str, isi_lst_bool, isi_lst_list, Int.cast_ofNat_Int, Int.natCast_one, Int.natCast_zero, read_number_eq (hn z hz).1 (hn z hz).2]⟩
  have a1 : (0 : Int) < (cs.length : Nat) := by have := List.length_pos_iff.mpr hcs; omega
  have a2 : (1 : Int) < (ms.length + 1 : Nat) := by have := List.length_pos_iff.mpr h0; omega
  unfold rd at hf hi
  unfold d_FarmReader_take b_FarmReader_take rd
  simp only [List.map_nil] at hf hi
  simp -implicitDefEqProofs only [q_var, q_va, q_c, q_op2, q_2a, q_2b, q_op1, q_isi, q_call, q_oCall, q_oSort, q_1, q_fn, q_f, q_nil, q_cons, q_ca, q_cb, q_tup, q_tu, q_oLst, q_ol, q_and, q_andT, q_andF, q_or, q_orT, q_orF, q_if, q_ifT, q_ifF, q_tVal, q_tv, q_tAnd, q_taT, q_taF, q_tOr, q_toT, q_toF, q_tNot, q_tn, q_yes, q_frz, q_fz, q_box, q_bx, q_chain, q_c1, q_c2, q_c2T, q_c2F, q_c3, q_met1, q_m1, q_m2, q_sl, q_s1, q_s2, q_s3, q_qN, q_qS, q_qs, q_fld, q_fl, q_lk, q_meth, q_mc, q_mc2, q_md, q_make, q_mk, q_jsN, q_jsC, q_js, q_iAny, q_itL, q_itT, q_itS, q_iRg1, q_rg1, q_iRg2, q_rg2, q_rg3, q_comp, q_cm, q_noEx, q_w0, q_w1, q_seq, q_sqN, q_sqR, q_sqC, q_sqB, q_skip, q_cont, q_break, q_retN, q_set, q_st, q_setO, q_so, q_ret, q_rt, q_expr, q_ex, q_sIf, q_siT, q_siF, q_asg, q_as, q_ofE, q_append, q_ap0, q_ap, q_extend, q_xt0, q_xt, q_for, q_fo, q_boxSet, q_b1, q_b2, q_b3, q_bC, q_bB, q_fldSet, q_fs1, q_fs2, q_fsC, q_sFrz, q_tryNo, q_trN, q_trR, q_trC, q_trB, q_gTp, q_gNm, q_def, q_dN, q_dR, q_add, q_addS, q_addT, q_addL, q_sub, q_mul, q_mod, q_div, q_neg, q_le, q_ge, q_gt, q_lt, q_eq, q_ne, q_eqS, q_neS, q_ixT, q_ixL, q_ixB, q_lenT, q_lenL, q_int, q_tupleL, q_tupleT, q_cellL, q_cellLs, q_not, ofO_some, atI0, atI1, atI2, atI3, atI4, frzE, gAll, List.getElem?_cons_zero, List.getElem?_cons_succ, List.set_cons_zero, List.set_cons_succ, List.map_cons, List.map_nil, List.cons_append, List.nil_append, List.append_nil, List.length_cons, List.length_nil, Option.bind_some, Option.map_some, if_true, reduceIte, or_true, true_or, and_true, true_and, Bool.not_true, Bool.not_false, decide_true, decide_false, if_false, Bool.false_eq_true, List.replicate, Int.reduceLT, Int.reduceLE, Int.reduceEq, Int.reduceNe, Int.reduceNeg, Int.reducePow, Int.reduceSub, Nat.reduceLeDiff, Nat.reduceAdd, Nat.reduceSub, Nat.reduceLT, Nat.reduceEqDiff, Nat.reducePow, eq_self, false_and, and_false, false_or, or_false, not_true_eq_false, not_false_eq_true, isi_non_tuple, isi_non_int, isi_non_str, isi_non_bool, isi_non_list, isi_bl_tuple, isi_bl_int, isi_bl_str, isi_bl_bool, isi_bl_list, isi_int_tuple, isi_int_int, isi_int_str, isi_int_bool, isi_int_list, isi_str_tuple, isi_str_int, isi_str_str, isi_str_bool, isi_str_list, isi_tup_tuple, isi_tup_int, isi_tup_str, isi_tup_bool, isi_tup_list, isi_lst_tuple, isi_lst_int, isi_lst_str, isi_lst_bool, isi_lst_list, Int.cast_ofNat_Int, Int.natCast_one, Int.natCast_zero, mach_split h0 h hn, cellI_end, rd_c, rd_m, Int.lt_irrefl, mc_ne, List.length_map, a1, a2, ht, hc, hm, rd_len, pt_m, set_end, rd_farm, hf, hi, Option.isNone_none]
theorem take_wake (b : Bx) (cs : List (List (Int × Int))) {ms : List Int} {ws : List K4} {w : K4} (h0 : ms ≠ []) (hn : ∀ m, m ∈ nums4 w → Nm m) (hcs : cs ≠ []) (hl : ws.length ≤ 1000) (g : GoodF 4 100 ⟨cs, ms, ws ++ [w]⟩) :
    d_FarmReader_take [.box b.length, .str (tWake w)] (rd b cs ms ws) = .ok .non (rd b cs ms (ws ++ [w])) := by
  have hf := farm_meth_eq b cs ms (ws ++ [w])
  have e1 : dC cs = cs := if_neg hcs
  have e2 : dM ms = ms := if_neg h0
  rw [e1, e2] at hf
  have hi := is_farm_eq (b := rd b cs ms (ws ++ [w])) g
  have hm : (nums4 w).length < 1000000 := by unfold nums4; simp
  have ht : ∀ (bb : Bx) (xs : List P), slP bb (.lst (.str "wake" :: xs)) (some 1) none = some (.lst xs) := fun bb xs => by unfold slP; simp only [cut_tail]
  have hc : ∀ bb s2 s3, compL (gNm 4) tYesF (eFn d_read_number (aCons (eVar 4) aNil)) [.va (.box b.length), s2, .va (.lst (.str "wake" :: (nums4 w).map fun z => .str (num z))), s3, .un] ((nums4 w).map fun z => .str (num z)) bb = .ok ((nums4 w).map .int) bb := fun bb s2 s3 =>
    comp_pl (fun z => .str (num z)) P.int fun z hz => ⟨_, rfl, rfl, by
      simp -implicitDefEqProofs only [q_var, q_va, q_c, q_op2, q_2a, q_2b, q_op1, q_isi, q_call, q_oCall, q_oSort, q_1, q_fn, q_f, q_nil, q_cons, q_ca, q_cb, q_tup, q_tu, q_oLst, q_ol, q_and, q_andT, q_andF, q_or, q_orT, q_orF, q_if, q_ifT, q_ifF, q_tVal, q_tv, q_tAnd, q_taT, q_taF, q_tOr, q_toT, q_toF, q_tNot, q_tn, q_yes, q_frz, q_fz, q_box, q_bx, q_chain, q_c1, q_c2, q_c2T, q_c2F, q_c3, q_met1, q_m1, q_m2, q_sl, q_s1, q_s2, q_s3, q_qN, q_qS, q_qs, q_fld, q_fl, q_lk, q_meth, q_mc, q_mc2, q_md, q_make, q_mk, q_jsN, q_jsC, q_js, q_iAny, q_itL, q_itT, q_itS, q_iRg1, q_rg1, q_iRg2, q_rg2, q_rg3, q_comp, q_cm, q_noEx, q_w0, q_w1, q_seq, q_sqN, q_sqR, q_sqC, q_sqB, q_skip, q_cont, q_break, q_retN, q_set, q_st, q_setO, q_so, q_ret, q_rt, q_expr, q_ex, q_sIf, q_siT, q_siF, q_asg, q_as, q_ofE, q_append, q_ap0, q_ap, q_extend, q_xt0, q_xt, q_for, q_fo, q_boxSet, q_b1, q_b2, q_b3, q_bC, q_bB, q_fldSet, q_fs1, q_fs2, q_fsC, q_sFrz, q_tryNo, q_trN, q_trR, q_trC, q_trB, q_gTp, q_gNm, q_def, q_dN, q_dR, q_add, q_addS, q_addT, q_addL, q_sub, q_mul, q_mod, q_div, q_neg, q_le, q_ge, q_gt, q_lt, q_eq, q_ne, q_eqS, q_neS, q_ixT, q_ixL, q_ixB, q_lenT, q_lenL, q_int, q_tupleL, q_tupleT, q_cellL, q_cellLs, q_not, ofO_some, atI0, atI1, atI2, atI3, atI4, frzE, gAll, List.getElem?_cons_zero, List.getElem?_cons_succ, List.set_cons_zero, List.set_cons_succ, List.map_cons, List.map_nil, List.cons_append, List.nil_append, List.append_nil, List.length_cons, List.length_nil, Option.bind_some, Option.map_some, if_true, reduceIte, or_true, true_or, and_true, true_and, Bool.not_true, Bool.not_false, decide_true, decide_false, if_false, Bool.false_eq_true, List.replicate, Int.reduceLT, Int.reduceLE, Int.reduceEq, Int.reduceNe, Int.reduceNeg, Int.reducePow, Int.reduceSub, Nat.reduceLeDiff, Nat.reduceAdd, Nat.reduceSub, Nat.reduceLT, Nat.reduceEqDiff, Nat.reducePow, eq_self, false_and, and_false, false_or, or_false, not_true_eq_false, not_false_eq_true, isi_non_tuple, isi_non_int, isi_non_str, isi_non_bool, isi_non_list, isi_bl_tuple, isi_bl_int, isi_bl_str, isi_bl_bool, isi_bl_list, isi_int_tuple, isi_int_int, isi_int_str, isi_int_bool, isi_int_list, isi_str_tuple, isi_str_int, isi_str_str, isi_str_bool, isi_str_list, isi_tup_tuple, isi_tup_int, isi_tup_str, isi_tup_bool, isi_tup_list, isi_lst_tuple, isi_lst_int, isi_lst_str, isi_lst_bool, isi_lst_list, Int.cast_ofNat_Int, Int.natCast_one, Int.natCast_zero, read_number_eq (hn z hz).1 (hn z hz).2]⟩
  have a1 : (0 : Int) < (ms.length : Nat) := by have := List.length_pos_iff.mpr h0; omega
  have h6 : ws.length + 1 ≤ 1000000 := by omega
  have e3 : encK w = .tup ((nums4 w).map .int) := rfl
  unfold rd at hf hi
  unfold d_FarmReader_take b_FarmReader_take rd
  simp only [List.map_append, List.map_cons, List.map_nil, e3] at hf hi
  simp -implicitDefEqProofs only [q_var, q_va, q_c, q_op2, q_2a, q_2b, q_op1, q_isi, q_call, q_oCall, q_oSort, q_1, q_fn, q_f, q_nil, q_cons, q_ca, q_cb, q_tup, q_tu, q_oLst, q_ol, q_and, q_andT, q_andF, q_or, q_orT, q_orF, q_if, q_ifT, q_ifF, q_tVal, q_tv, q_tAnd, q_taT, q_taF, q_tOr, q_toT, q_toF, q_tNot, q_tn, q_yes, q_frz, q_fz, q_box, q_bx, q_chain, q_c1, q_c2, q_c2T, q_c2F, q_c3, q_met1, q_m1, q_m2, q_sl, q_s1, q_s2, q_s3, q_qN, q_qS, q_qs, q_fld, q_fl, q_lk, q_meth, q_mc, q_mc2, q_md, q_make, q_mk, q_jsN, q_jsC, q_js, q_iAny, q_itL, q_itT, q_itS, q_iRg1, q_rg1, q_iRg2, q_rg2, q_rg3, q_comp, q_cm, q_noEx, q_w0, q_w1, q_seq, q_sqN, q_sqR, q_sqC, q_sqB, q_skip, q_cont, q_break, q_retN, q_set, q_st, q_setO, q_so, q_ret, q_rt, q_expr, q_ex, q_sIf, q_siT, q_siF, q_asg, q_as, q_ofE, q_append, q_ap0, q_ap, q_extend, q_xt0, q_xt, q_for, q_fo, q_boxSet, q_b1, q_b2, q_b3, q_bC, q_bB, q_fldSet, q_fs1, q_fs2, q_fsC, q_sFrz, q_tryNo, q_trN, q_trR, q_trC, q_trB, q_gTp, q_gNm, q_def, q_dN, q_dR, q_add, q_addS, q_addT, q_addL, q_sub, q_mul, q_mod, q_div, q_neg, q_le, q_ge, q_gt, q_lt, q_eq, q_ne, q_eqS, q_neS, q_ixT, q_ixL, q_ixB, q_lenT, q_lenL, q_int, q_tupleL, q_tupleT, q_cellL, q_cellLs, q_not, ofO_some, atI0, atI1, atI2, atI3, atI4, frzE, gAll, List.getElem?_cons_zero, List.getElem?_cons_succ, List.set_cons_zero, List.set_cons_succ, List.map_cons, List.map_nil, List.cons_append, List.nil_append, List.append_nil, List.length_cons, List.length_nil, Option.bind_some, Option.map_some, if_true, reduceIte, or_true, true_or, and_true, true_and, Bool.not_true, Bool.not_false, decide_true, decide_false, if_false, Bool.false_eq_true, List.replicate, Int.reduceLT, Int.reduceLE, Int.reduceEq, Int.reduceNe, Int.reduceNeg, Int.reducePow, Int.reduceSub, Nat.reduceLeDiff, Nat.reduceAdd, Nat.reduceSub, Nat.reduceLT, Nat.reduceEqDiff, Nat.reducePow, eq_self, false_and, and_false, false_or, or_false, not_true_eq_false, not_false_eq_true, isi_non_tuple, isi_non_int, isi_non_str, isi_non_bool, isi_non_list, isi_bl_tuple, isi_bl_int, isi_bl_str, isi_bl_bool, isi_bl_list, isi_int_tuple, isi_int_int, isi_int_str, isi_int_bool, isi_int_list, isi_str_tuple, isi_str_int, isi_str_str, isi_str_bool, isi_str_list, isi_tup_tuple, isi_tup_int, isi_tup_str, isi_tup_bool, isi_tup_list, isi_lst_tuple, isi_lst_int, isi_lst_str, isi_lst_bool, isi_lst_list, Int.cast_ofNat_Int, Int.natCast_one, Int.natCast_zero, wake_split hn, cellI_end, rd_c, rd_m, rd_w, wc_ne, wm_ne, List.length_map, a1, ht, hc, hm, q_addT, h6, rd_len, pt_w, set_end, rd_farm, hf, hi, Option.isNone_none, List.map_append, e3]

theorem take_next {α : Type} {xs : List α} {k : Nat} (h : k < xs.length) : xs.take (k + 1) = xs.take k ++ [xs[k]] := by
  rw [List.take_succ, List.getElem?_eq_getElem h]; rfl
theorem pre_curves {F : Farm} (g : GoodF 4 100 F) {k : Nat} (h0 : 0 < k) (h1 : k ≤ F.cs.length) : GoodF 4 100 ⟨F.cs.take k, [0], []⟩ where
  c0 := by simp only [List.length_take]; omega
  c1 := by have := g.c1; simp only [List.length_take]; omega
  cg := fun c hc => g.cg c (List.mem_of_mem_take hc)
  m0 := by simp
  m1 := by simp
  mg := fun m hm => by
    simp only [List.mem_singleton] at hm
    subst hm
    simp only [List.length_take]
    omega
  wg := fun w hw => nomatch hw
  wu := List.Pairwise.nil
  wl := Nat.zero_le _
theorem pre_wakes {F : Farm} (g : GoodF 4 100 F) (k : Nat) : GoodF 4 100 ⟨F.cs, F.ms, F.ws.take k⟩ where
  c0 := g.c0
  c1 := g.c1
  cg := g.cg
  m0 := g.m0
  m1 := g.m1
  mg := g.mg
  wg := fun w hw => g.wg w (List.mem_of_mem_take hw)
  wu := g.wu.sublist (List.take_sublist ..)
  wl := by have := g.wl; simp only [List.length_take]; omega
theorem line_free {F : Farm} (h : NumF F) : ∀ l, l ∈ tLines F → 10 ∉ tl l := fun l hl => by
  have hs : (10 : Nat) ∉ tl (" " : Str) := by decide
  rcases List.mem_append.mp hl with hl | hl
  · obtain ⟨c, hc, rfl⟩ := List.mem_map.mp hl
    refine join_free hs fun p hp => ?_
    rcases List.mem_cons.mp hp with rfl | hp
    · decide
    · obtain ⟨z, hz, rfl⟩ := List.mem_map.mp hp
      exact tPt_free (.inr rfl) ((h.c c hc).2.2 z hz)
  · rcases List.mem_cons.mp hl with rfl | hl
    · refine join_free hs fun p hp => ?_
      rcases List.mem_cons.mp hp with rfl | hp
      · decide
      · obtain ⟨z, hz, rfl⟩ := List.mem_map.mp hp
        exact num_free (h.m z hz).1 (.inl (by decide))
    · obtain ⟨w, hw, rfl⟩ := List.mem_map.mp hl
      refine join_free hs fun p hp => ?_
      rcases List.mem_cons.mp hp with rfl | hp
      · decide
      · obtain ⟨z, hz, rfl⟩ := List.mem_map.mp hp
        exact num_free (h.w w hw z hz).1 (.inl (by decide))
theorem farm_split {F : Farm} (h : NumF F) : splitP (.str (tFarm F)) (.str "\n") = some (.lst ((tLines F).map .str)) := by
  refine splitP_join (s := 10) (S := []) nl_tl nl_k (by unfold tLines; simp) (line_free h) ?_
  have h1 := join_len "\n" (tLines F)
  have h2 := lines_count h
  rw [nl_len] at h1
  have h3 : ((F.cs.map tCurve).map (·.length)).sum ≤ F.cs.length * 2010 := by rw [List.map_map]; exact sum_le fun c hc => tCurve_len (h.c c hc)
  have h4 : ((F.ws.map tWake).map (·.length)).sum ≤ F.ws.length * 45 := by rw [List.map_map]; exact sum_le fun w hw => tWake_len (h.w w hw)
  have h5 := tMach_len h.m0 h.ml h.m
  have h6 := h.cl
  have h7 := h.wl
  have h8 : ((tLines F).map (·.length)).sum = ((F.cs.map tCurve).map (·.length)).sum + ((tMach F.ms).length + ((F.ws.map tWake).map (·.length)).sum) := by
    unfold tLines
    rw [List.map_append, List.map_cons, List.sum_append, List.sum_cons]
  omega
def rdAt (b : Bx) (F : Farm) (k : Nat) : Bx := rd b (F.cs.take k) (if k ≤ F.cs.length then [] else F.ms) (F.ws.take (k - F.cs.length - 1))
theorem take_at (b : Bx) {F : Farm} (g : GoodF 4 100 F) (hN : NumF F) {k : Nat} (hk : k < (tLines F).length) : d_FarmReader_take [.box b.length, .str (tLines F)[k]] (rdAt b F k) = .ok .non (rdAt b F (k + 1)) := by
  have hl : (tLines F).length = F.cs.length + 1 + F.ws.length := by unfold tLines; simp; omega
  have hcs : F.cs ≠ [] := hN.c0
  unfold rdAt
  by_cases h1 : k < F.cs.length
  · have e1 : (tLines F)[k] = tCurve F.cs[k] := by
      have : (tLines F)[k]? = some (tCurve F.cs[k]) := by
        unfold tLines
        rw [List.getElem?_append_left (by simpa using h1), List.getElem?_map, List.getElem?_eq_getElem h1]; rfl
      rw [List.getElem?_eq_getElem hk] at this
      exact Option.some.inj this
    have g' := pre_curves g (k := k + 1) (by omega) (by omega)
    rw [if_pos (by omega), if_pos (by omega), take_next h1, e1, show k - F.cs.length - 1 = 0 by omega, show k + 1 - F.cs.length - 1 = 0 by omega]
    rw [take_next h1] at g'
    exact take_curve b (F.cs.take k) (hN.c _ (List.getElem_mem h1)) (by have := hN.cl; simp only [List.length_take]; omega) g'
  · by_cases h2 : k = F.cs.length
    · subst h2
      have e1 : (tLines F)[F.cs.length] = tMach F.ms := by
        have : (tLines F)[F.cs.length]? = some (tMach F.ms) := by
          unfold tLines
          rw [List.getElem?_append_right (by simp)]; simp
        rw [List.getElem?_eq_getElem hk] at this
        exact Option.some.inj this
      rw [if_pos (Nat.le_refl _), if_neg (by omega), e1, show F.cs.length - F.cs.length - 1 = 0 by omega, show F.cs.length + 1 - F.cs.length - 1 = 0 by omega, List.take_of_length_le (l := F.cs) (Nat.le_refl _), List.take_of_length_le (l := F.cs) (Nat.le_succ _)]
      have := pre_wakes g 0
      exact take_mach b F.cs hN.m0 hN.ml hN.m hcs this
    · obtain ⟨j, hj⟩ : ∃ j, k = F.cs.length + 1 + j := ⟨k - F.cs.length - 1, by omega⟩
      subst hj
      have hjl : j < F.ws.length := by omega
      have e1 : (tLines F)[F.cs.length + 1 + j] = tWake F.ws[j] := by
        have : (tLines F)[F.cs.length + 1 + j]? = some (tWake F.ws[j]) := by
          unfold tLines
          rw [List.getElem?_append_right (by simp; omega), List.length_map, show F.cs.length + 1 + j - F.cs.length = j + 1 by omega, List.getElem?_cons_succ, List.getElem?_map, List.getElem?_eq_getElem hjl]; rfl
        rw [List.getElem?_eq_getElem hk] at this
        exact Option.some.inj this
      rw [if_neg (by omega), if_neg (by omega), e1, show F.cs.length + 1 + j - F.cs.length - 1 = j by omega, show F.cs.length + 1 + j + 1 - F.cs.length - 1 = j + 1 by omega, List.take_of_length_le (l := F.cs) (i := F.cs.length + 1 + j) (by omega), List.take_of_length_le (l := F.cs) (i := F.cs.length + 1 + j + 1) (by omega), take_next hjl]
      have g' := pre_wakes g (j + 1)
      rw [take_next hjl] at g'
      exact take_wake b F.cs hN.m0 (hN.w _ (List.getElem_mem hjl)) hcs (by have := hN.wl; simp only [List.length_take]; omega) g'
theorem read_farm_eq (b : Bx) {F : Farm} (g : GoodF 4 100 F) : d_read_farm [.str (tFarm F)] b = .ok (encF F) (rd b F.cs F.ms F.ws) := by
  have hN := NumF.of g (by omega) (by omega)
  have hl : (tLines F).length = F.cs.length + 1 + F.ws.length := by unfold tLines; simp; omega
  obtain ⟨n, hn⟩ : ∃ n, n = (tLines F).length := ⟨_, rfl⟩
  let E : PV.Slot → List PV.Slot := fun s3 => [.va (.str (tFarm F)), .va (.box b.length), .va (.lst ((tLines F).map .str)), s3]
  obtain ⟨e1, b1, q1, s3, q2, q3⟩ := for_exP (gf := gNm 3) (f := sTryNo (sExpr (eMethC "FarmReader" "take" d_FarmReader_take (eVar 1) (aCons (eOp2 ixP (eVar 2) (eVar 3)) aNil)))) (fun k : Nat => P.int (k : Nat))
    (fun pre e b' => ∃ s3 : PV.Slot, e = E s3 ∧ b' = rdAt b F pre.length) (as := List.range n) (done := []) (fun pre a e b' hp iv => by
      obtain ⟨post, hp⟩ := hp
      obtain ⟨ea, an⟩ := range_split hp
      obtain ⟨s3, rfl, rfl⟩ := iv
      refine ⟨_, E (.va (.int (a : Nat))), rdAt b F (a + 1), rfl, .inl ?_, _, rfl, by simp [ea]⟩
      have hat : atI ((tLines F).map P.str) (a : Int) = some (.str ((tLines F)[a]'(by omega))) := atI_ofNat (by rw [List.getElem?_map, List.getElem?_eq_getElem (by omega)]; rfl)
      have ht := take_at b g hN (k := a) (by omega)
      have hci : cellI "FarmReader" (rdAt b F a) b.length = some (rdFs (.tup ((F.cs.take a).map encC)) (.tup ((if a ≤ F.cs.length then [] else F.ms).map .int)) (.tup ((F.ws.take (a - F.cs.length - 1)).map encK))) := cellI_end
      rw [← ea]
      simp only [E]
      simp -implicitDefEqProofs only [q_var, q_va, q_c, q_op2, q_2a, q_2b, q_op1, q_isi, q_call, q_oCall, q_oSort, q_1, q_fn, q_f, q_nil, q_cons, q_ca, q_cb, q_tup, q_tu, q_oLst, q_ol, q_and, q_andT, q_andF, q_or, q_orT, q_orF, q_if, q_ifT, q_ifF, q_tVal, q_tv, q_tAnd, q_taT, q_taF, q_tOr, q_toT, q_toF, q_tNot, q_tn, q_yes, q_frz, q_fz, q_box, q_bx, q_chain, q_c1, q_c2, q_c2T, q_c2F, q_c3, q_met1, q_m1, q_m2, q_sl, q_s1, q_s2, q_s3, q_qN, q_qS, q_qs, q_fld, q_fl, q_lk, q_meth, q_mc, q_mc2, q_md, q_make, q_mk, q_jsN, q_jsC, q_js, q_iAny, q_itL, q_itT, q_itS, q_iRg1, q_rg1, q_iRg2, q_rg2, q_rg3, q_comp, q_cm, q_noEx, q_w0, q_w1, q_seq, q_sqN, q_sqR, q_sqC, q_sqB, q_skip, q_cont, q_break, q_retN, q_set, q_st, q_setO, q_so, q_ret, q_rt, q_expr, q_ex, q_sIf, q_siT, q_siF, q_asg, q_as, q_ofE, q_append, q_ap0, q_ap, q_extend, q_xt0, q_xt, q_for, q_fo, q_boxSet, q_b1, q_b2, q_b3, q_bC, q_bB, q_fldSet, q_fs1, q_fs2, q_fsC, q_sFrz, q_tryNo, q_trN, q_trR, q_trC, q_trB, q_gTp, q_gNm, q_def, q_dN, q_dR, q_add, q_addS, q_addT, q_addL, q_sub, q_mul, q_mod, q_div, q_neg, q_le, q_ge, q_gt, q_lt, q_eq, q_ne, q_eqS, q_neS, q_ixT, q_ixL, q_ixB, q_lenT, q_lenL, q_int, q_tupleL, q_tupleT, q_cellL, q_cellLs, q_not, ofO_some, atI0, atI1, atI2, atI3, atI4, frzE, gAll, List.getElem?_cons_zero, List.getElem?_cons_succ, List.set_cons_zero, List.set_cons_succ, List.map_cons, List.map_nil, List.cons_append, List.nil_append, List.append_nil, List.length_cons, List.length_nil, Option.bind_some, Option.map_some, if_true, reduceIte, or_true, true_or, and_true, true_and, Bool.not_true, Bool.not_false, decide_true, decide_false, if_false, Bool.false_eq_true, List.replicate, Int.reduceLT, Int.reduceLE, Int.reduceEq, Int.reduceNe, Int.reduceNeg, Int.reducePow, Int.reduceSub, Nat.reduceLeDiff, Nat.reduceAdd, Nat.reduceSub, Nat.reduceLT, Nat.reduceEqDiff, Nat.reducePow, eq_self, false_and, and_false, false_or, or_false, not_true_eq_false, not_false_eq_true, isi_non_tuple, isi_non_int, isi_non_str, isi_non_bool, isi_non_list, isi_bl_tuple, isi_bl_int, isi_bl_str, isi_bl_bool, isi_bl_list, isi_int_tuple, isi_int_int, isi_int_str, isi_int_bool, isi_int_list, isi_str_tuple, isi_str_int, isi_str_str, isi_str_bool, isi_str_list, isi_tup_tuple, isi_tup_int, isi_tup_str, isi_tup_bool, isi_tup_list, isi_lst_tuple, isi_lst_int, isi_lst_str, isi_lst_bool, isi_lst_list, Int.cast_ofNat_Int, Int.natCast_one, Int.natCast_zero, hci, rd_take, Option.isNone_none, hat, ht]) (E .un) (rdAt b F 0) ⟨_, rfl, rfl⟩
  have h0 : rdAt b F 0 = rd b [] [] [] := by
    unfold rdAt
    rw [if_pos (Nat.zero_le _), List.take_zero, show 0 - F.cs.length - 1 = 0 by omega, List.take_zero]
  have h9 : rdAt b F n = rd b F.cs F.ms F.ws := by
    unfold rdAt
    rw [if_neg (by omega), List.take_of_length_le (by omega), List.take_of_length_le (by omega)]
  rw [List.nil_append, List.length_range, h9] at q3
  subst q2 q3
  rw [h0] at q1
  simp only [E] at q1
  have hf := farm_meth_eq b F.cs F.ms F.ws
  have e1 : dC F.cs = F.cs := if_neg hN.c0
  have e2 : dM F.ms = F.ms := if_neg hN.m0
  rw [e1, e2] at hf
  have hbn : -4611686018427387904 ≤ ((tLines F).length : Int) ∧ ((tLines F).length : Int) < 4611686018427387904 := by have := lines_count hN; omega
  have hr : rangeP 0 ((tLines F).length : Int) = (List.range n).map fun k => P.int (k : Nat) := by rw [rangeP_map, hn]; rfl
  have hm : ¬ ((F.ms.length : Nat) : Int) = 0 := by have := List.length_pos_iff.mpr hN.m0; omega
  have hci : cellI "FarmReader" (rd b F.cs F.ms F.ws) b.length = some (rdFs (.tup (F.cs.map encC)) (.tup (F.ms.map .int)) (.tup (F.ws.map encK))) := cellI_end
  unfold d_read_farm b_read_farm
  simp -implicitDefEqProofs only [q_var, q_va, q_c, q_op2, q_2a, q_2b, q_op1, q_isi, q_call, q_oCall, q_oSort, q_1, q_fn, q_f, q_nil, q_cons, q_ca, q_cb, q_tup, q_tu, q_oLst, q_ol, q_and, q_andT, q_andF, q_or, q_orT, q_orF, q_if, q_ifT, q_ifF, q_tVal, q_tv, q_tAnd, q_taT, q_taF, q_tOr, q_toT, q_toF, q_tNot, q_tn, q_yes, q_frz, q_fz, q_box, q_bx, q_chain, q_c1, q_c2, q_c2T, q_c2F, q_c3, q_met1, q_m1, q_m2, q_sl, q_s1, q_s2, q_s3, q_qN, q_qS, q_qs, q_fld, q_fl, q_lk, q_meth, q_mc, q_mc2, q_md, q_make, q_mk, q_jsN, q_jsC, q_js, q_iAny, q_itL, q_itT, q_itS, q_iRg1, q_rg1, q_iRg2, q_rg2, q_rg3, q_comp, q_cm, q_noEx, q_w0, q_w1, q_seq, q_sqN, q_sqR, q_sqC, q_sqB, q_skip, q_cont, q_break, q_retN, q_set, q_st, q_setO, q_so, q_ret, q_rt, q_expr, q_ex, q_sIf, q_siT, q_siF, q_asg, q_as, q_ofE, q_append, q_ap0, q_ap, q_extend, q_xt0, q_xt, q_for, q_fo, q_boxSet, q_b1, q_b2, q_b3, q_bC, q_bB, q_fldSet, q_fs1, q_fs2, q_fsC, q_sFrz, q_tryNo, q_trN, q_trR, q_trC, q_trB, q_gTp, q_gNm, q_def, q_dN, q_dR, q_add, q_addS, q_addT, q_addL, q_sub, q_mul, q_mod, q_div, q_neg, q_le, q_ge, q_gt, q_lt, q_eq, q_ne, q_eqS, q_neS, q_ixT, q_ixL, q_ixB, q_lenT, q_lenL, q_int, q_tupleL, q_tupleT, q_cellL, q_cellLs, q_not, ofO_some, atI0, atI1, atI2, atI3, atI4, frzE, gAll, List.getElem?_cons_zero, List.getElem?_cons_succ, List.set_cons_zero, List.set_cons_succ, List.map_cons, List.map_nil, List.cons_append, List.nil_append, List.append_nil, List.length_cons, List.length_nil, Option.bind_some, Option.map_some, if_true, reduceIte, or_true, true_or, and_true, true_and, Bool.not_true, Bool.not_false, decide_true, decide_false, if_false, Bool.false_eq_true, List.replicate, Int.reduceLT, Int.reduceLE, Int.reduceEq, Int.reduceNe, Int.reduceNeg, Int.reducePow, Int.reduceSub, Nat.reduceLeDiff, Nat.reduceAdd, Nat.reduceSub, Nat.reduceLT, Nat.reduceEqDiff, Nat.reducePow, eq_self, false_and, and_false, false_or, or_false, not_true_eq_false, not_false_eq_true, isi_non_tuple, isi_non_int, isi_non_str, isi_non_bool, isi_non_list, isi_bl_tuple, isi_bl_int, isi_bl_str, isi_bl_bool, isi_bl_list, isi_int_tuple, isi_int_int, isi_int_str, isi_int_bool, isi_int_list, isi_str_tuple, isi_str_int, isi_str_str, isi_str_bool, isi_str_list, isi_tup_tuple, isi_tup_int, isi_tup_str, isi_tup_bool, isi_tup_list, isi_lst_tuple, isi_lst_int, isi_lst_str, isi_lst_bool, isi_lst_list, Int.cast_ofNat_Int, Int.natCast_one, Int.natCast_zero, rd_init, farm_split hN, List.length_map, hbn, hr, q1, hci, rd_m, hm, rd_farm, Option.isNone_none, hf]

/-! ### _law_same on a value and itself -/
def okS : Nat → P → Prop
  | 0, _ => False
  | n + 1, p => match p with
    | .int _ => True
    | .str _ => True
    | .non => True
    | .bl _ => True
    | .tup ps => ps.length < 1000000 ∧ ∀ q, q ∈ ps → okS n q
    | .lst ps => ps.length < 1000000 ∧ ∀ q, q ∈ ps → okS n q
    | _ => False
theorem eq_bl {b : Bx} {x : Bool} : eqP b (.bl x) (.bl x) = some (.bl true) := by unfold eqP eqB; simp
theorem ne_bl {b : Bx} {x : Bool} : neP b (.bl x) (.bl x) = some (.bl false) := by unfold neP eqB; simp
theorem is_non {b : Bx} {p : P} : isP b p .non = some (.bl (isNP p)) := rfl
theorem same_refl : ∀ (n : Nat) (p : P) (b : Bx), okS n p → d_law_same n [p, p] b = .ok (.bl true) b
  | 0, _, _, h => h.elim
  | n + 1, p, b, h => by
    have row : ∀ (v : P) (ps : List P), ps.length < 1000000 → (∀ q, q ∈ ps → okS n q) → (∀ b i, ixP b v (.int i) = atI ps i) →
        compL (gNm 2) (tNotF (tVal (eFn (d_law_same n) (aCons (eOp2 ixP (eVar 0) (eVar 2)) (aCons (eOp2 ixP (eVar 1) (eVar 2)) aNil))))) (eVar 2) [.va v, .va v, .un] ((List.range ps.length).map fun k => P.int (k : Nat)) b = .ok [] b := fun v ps hl hq hv => by
      have := comp_fl (gf := gNm 2) (ft := tNotF (tVal (eFn (d_law_same n) (aCons (eOp2 ixP (eVar 0) (eVar 2)) (aCons (eOp2 ixP (eVar 1) (eVar 2)) aNil))))) (fe := eVar 2) (env0 := [.va v, .va v, .un]) (fun k : Nat => P.int (k : Nat)) (fun k : Nat => P.int (k : Nat)) (fun _ => false) (b := b) (as := List.range ps.length) fun k hk => ⟨_, rfl, by
        have hk := List.mem_range.mp hk
        have h1 : atI ps (k : Int) = some ps[k] := atI_ofNat (List.getElem?_eq_getElem hk)
        have h2 := same_refl n ps[k] b (hq _ (List.getElem_mem hk))
        simp -implicitDefEqProofs only [q_var, q_va, q_c, q_op2, q_2a, q_2b, q_op1, q_isi, q_call, q_oCall, q_oSort, q_1, q_fn, q_f, q_nil, q_cons, q_ca, q_cb, q_tup, q_tu, q_oLst, q_ol, q_and, q_andT, q_andF, q_or, q_orT, q_orF, q_if, q_ifT, q_ifF, q_tVal, q_tv, q_tAnd, q_taT, q_taF, q_tOr, q_toT, q_toF, q_tNot, q_tn, q_yes, q_frz, q_fz, q_box, q_bx, q_chain, q_c1, q_c2, q_c2T, q_c2F, q_c3, q_met1, q_m1, q_m2, q_sl, q_s1, q_s2, q_s3, q_qN, q_qS, q_qs, q_fld, q_fl, q_lk, q_meth, q_mc, q_mc2, q_md, q_make, q_mk, q_jsN, q_jsC, q_js, q_iAny, q_itL, q_itT, q_itS, q_iRg1, q_rg1, q_iRg2, q_rg2, q_rg3, q_comp, q_cm, q_noEx, q_w0, q_w1, q_seq, q_sqN, q_sqR, q_sqC, q_sqB, q_skip, q_cont, q_break, q_retN, q_set, q_st, q_setO, q_so, q_ret, q_rt, q_expr, q_ex, q_sIf, q_siT, q_siF, q_asg, q_as, q_ofE, q_append, q_ap0, q_ap, q_extend, q_xt0, q_xt, q_for, q_fo, q_boxSet, q_b1, q_b2, q_b3, q_bC, q_bB, q_fldSet, q_fs1, q_fs2, q_fsC, q_sFrz, q_tryNo, q_trN, q_trR, q_trC, q_trB, q_gTp, q_gNm, q_def, q_dN, q_dR, q_add, q_addS, q_addT, q_addL, q_sub, q_mul, q_mod, q_div, q_neg, q_le, q_ge, q_gt, q_lt, q_eq, q_ne, q_eqS, q_neS, q_ixT, q_ixL, q_ixB, q_lenT, q_lenL, q_int, q_tupleL, q_tupleT, q_cellL, q_cellLs, q_not, ofO_some, atI0, atI1, atI2, atI3, atI4, frzE, gAll, List.getElem?_cons_zero, List.getElem?_cons_succ, List.set_cons_zero, List.set_cons_succ, List.map_cons, List.map_nil, List.cons_append, List.nil_append, List.append_nil, List.length_cons, List.length_nil, Option.bind_some, Option.map_some, if_true, reduceIte, or_true, true_or, and_true, true_and, Bool.not_true, Bool.not_false, decide_true, decide_false, if_false, Bool.false_eq_true, List.replicate, Int.reduceLT, Int.reduceLE, Int.reduceEq, Int.reduceNe, Int.reduceNeg, Int.reducePow, Int.reduceSub, Nat.reduceLeDiff, Nat.reduceAdd, Nat.reduceSub, Nat.reduceLT, Nat.reduceEqDiff, Nat.reducePow, eq_self, false_and, and_false, false_or, or_false, not_true_eq_false, not_false_eq_true, isi_non_tuple, isi_non_int, isi_non_str, isi_non_bool, isi_non_list, isi_bl_tuple, isi_bl_int, isi_bl_str, isi_bl_bool, isi_bl_list, isi_int_tuple, isi_int_int, isi_int_str, isi_int_bool, isi_int_list, isi_str_tuple, isi_str_int, isi_str_str, isi_str_bool, isi_str_list, isi_tup_tuple, isi_tup_int, isi_tup_str, isi_tup_bool, isi_tup_list, isi_lst_tuple, isi_lst_int, isi_lst_str, isi_lst_bool, isi_lst_list, Int.cast_ofNat_Int, Int.natCast_one, Int.natCast_zero, hv, h1, h2], fun z => nomatch z⟩
      rw [this]
      simp
    unfold d_law_same b_law_same
    cases p with
    | int i => simp -implicitDefEqProofs only [q_var, q_va, q_c, q_op2, q_2a, q_2b, q_op1, q_isi, q_call, q_oCall, q_oSort, q_1, q_fn, q_f, q_nil, q_cons, q_ca, q_cb, q_tup, q_tu, q_oLst, q_ol, q_and, q_andT, q_andF, q_or, q_orT, q_orF, q_if, q_ifT, q_ifF, q_tVal, q_tv, q_tAnd, q_taT, q_taF, q_tOr, q_toT, q_toF, q_tNot, q_tn, q_yes, q_frz, q_fz, q_box, q_bx, q_chain, q_c1, q_c2, q_c2T, q_c2F, q_c3, q_met1, q_m1, q_m2, q_sl, q_s1, q_s2, q_s3, q_qN, q_qS, q_qs, q_fld, q_fl, q_lk, q_meth, q_mc, q_mc2, q_md, q_make, q_mk, q_jsN, q_jsC, q_js, q_iAny, q_itL, q_itT, q_itS, q_iRg1, q_rg1, q_iRg2, q_rg2, q_rg3, q_comp, q_cm, q_noEx, q_w0, q_w1, q_seq, q_sqN, q_sqR, q_sqC, q_sqB, q_skip, q_cont, q_break, q_retN, q_set, q_st, q_setO, q_so, q_ret, q_rt, q_expr, q_ex, q_sIf, q_siT, q_siF, q_asg, q_as, q_ofE, q_append, q_ap0, q_ap, q_extend, q_xt0, q_xt, q_for, q_fo, q_boxSet, q_b1, q_b2, q_b3, q_bC, q_bB, q_fldSet, q_fs1, q_fs2, q_fsC, q_sFrz, q_tryNo, q_trN, q_trR, q_trC, q_trB, q_gTp, q_gNm, q_def, q_dN, q_dR, q_add, q_addS, q_addT, q_addL, q_sub, q_mul, q_mod, q_div, q_neg, q_le, q_ge, q_gt, q_lt, q_eq, q_ne, q_eqS, q_neS, q_ixT, q_ixL, q_ixB, q_lenT, q_lenL, q_int, q_tupleL, q_tupleT, q_cellL, q_cellLs, q_not, ofO_some, atI0, atI1, atI2, atI3, atI4, frzE, gAll, List.getElem?_cons_zero, List.getElem?_cons_succ, List.set_cons_zero, List.set_cons_succ, List.map_cons, List.map_nil, List.cons_append, List.nil_append, List.append_nil, List.length_cons, List.length_nil, Option.bind_some, Option.map_some, if_true, reduceIte, or_true, true_or, and_true, true_and, Bool.not_true, Bool.not_false, decide_true, decide_false, if_false, Bool.false_eq_true, List.replicate, Int.reduceLT, Int.reduceLE, Int.reduceEq, Int.reduceNe, Int.reduceNeg, Int.reducePow, Int.reduceSub, Nat.reduceLeDiff, Nat.reduceAdd, Nat.reduceSub, Nat.reduceLT, Nat.reduceEqDiff, Nat.reducePow, eq_self, false_and, and_false, false_or, or_false, not_true_eq_false, not_false_eq_true, isi_non_tuple, isi_non_int, isi_non_str, isi_non_bool, isi_non_list, isi_bl_tuple, isi_bl_int, isi_bl_str, isi_bl_bool, isi_bl_list, isi_int_tuple, isi_int_int, isi_int_str, isi_int_bool, isi_int_list, isi_str_tuple, isi_str_int, isi_str_str, isi_str_bool, isi_str_list, isi_tup_tuple, isi_tup_int, isi_tup_str, isi_tup_bool, isi_tup_list, isi_lst_tuple, isi_lst_int, isi_lst_str, isi_lst_bool, isi_lst_list, Int.cast_ofNat_Int, Int.natCast_one, Int.natCast_zero, ne_bl, eq_bl, is_non, isNP]
    | str x => simp -implicitDefEqProofs only [q_var, q_va, q_c, q_op2, q_2a, q_2b, q_op1, q_isi, q_call, q_oCall, q_oSort, q_1, q_fn, q_f, q_nil, q_cons, q_ca, q_cb, q_tup, q_tu, q_oLst, q_ol, q_and, q_andT, q_andF, q_or, q_orT, q_orF, q_if, q_ifT, q_ifF, q_tVal, q_tv, q_tAnd, q_taT, q_taF, q_tOr, q_toT, q_toF, q_tNot, q_tn, q_yes, q_frz, q_fz, q_box, q_bx, q_chain, q_c1, q_c2, q_c2T, q_c2F, q_c3, q_met1, q_m1, q_m2, q_sl, q_s1, q_s2, q_s3, q_qN, q_qS, q_qs, q_fld, q_fl, q_lk, q_meth, q_mc, q_mc2, q_md, q_make, q_mk, q_jsN, q_jsC, q_js, q_iAny, q_itL, q_itT, q_itS, q_iRg1, q_rg1, q_iRg2, q_rg2, q_rg3, q_comp, q_cm, q_noEx, q_w0, q_w1, q_seq, q_sqN, q_sqR, q_sqC, q_sqB, q_skip, q_cont, q_break, q_retN, q_set, q_st, q_setO, q_so, q_ret, q_rt, q_expr, q_ex, q_sIf, q_siT, q_siF, q_asg, q_as, q_ofE, q_append, q_ap0, q_ap, q_extend, q_xt0, q_xt, q_for, q_fo, q_boxSet, q_b1, q_b2, q_b3, q_bC, q_bB, q_fldSet, q_fs1, q_fs2, q_fsC, q_sFrz, q_tryNo, q_trN, q_trR, q_trC, q_trB, q_gTp, q_gNm, q_def, q_dN, q_dR, q_add, q_addS, q_addT, q_addL, q_sub, q_mul, q_mod, q_div, q_neg, q_le, q_ge, q_gt, q_lt, q_eq, q_ne, q_eqS, q_neS, q_ixT, q_ixL, q_ixB, q_lenT, q_lenL, q_int, q_tupleL, q_tupleT, q_cellL, q_cellLs, q_not, ofO_some, atI0, atI1, atI2, atI3, atI4, frzE, gAll, List.getElem?_cons_zero, List.getElem?_cons_succ, List.set_cons_zero, List.set_cons_succ, List.map_cons, List.map_nil, List.cons_append, List.nil_append, List.append_nil, List.length_cons, List.length_nil, Option.bind_some, Option.map_some, if_true, reduceIte, or_true, true_or, and_true, true_and, Bool.not_true, Bool.not_false, decide_true, decide_false, if_false, Bool.false_eq_true, List.replicate, Int.reduceLT, Int.reduceLE, Int.reduceEq, Int.reduceNe, Int.reduceNeg, Int.reducePow, Int.reduceSub, Nat.reduceLeDiff, Nat.reduceAdd, Nat.reduceSub, Nat.reduceLT, Nat.reduceEqDiff, Nat.reducePow, eq_self, false_and, and_false, false_or, or_false, not_true_eq_false, not_false_eq_true, isi_non_tuple, isi_non_int, isi_non_str, isi_non_bool, isi_non_list, isi_bl_tuple, isi_bl_int, isi_bl_str, isi_bl_bool, isi_bl_list, isi_int_tuple, isi_int_int, isi_int_str, isi_int_bool, isi_int_list, isi_str_tuple, isi_str_int, isi_str_str, isi_str_bool, isi_str_list, isi_tup_tuple, isi_tup_int, isi_tup_str, isi_tup_bool, isi_tup_list, isi_lst_tuple, isi_lst_int, isi_lst_str, isi_lst_bool, isi_lst_list, Int.cast_ofNat_Int, Int.natCast_one, Int.natCast_zero, ne_bl, eq_bl, is_non, isNP]
    | non => simp -implicitDefEqProofs only [q_var, q_va, q_c, q_op2, q_2a, q_2b, q_op1, q_isi, q_call, q_oCall, q_oSort, q_1, q_fn, q_f, q_nil, q_cons, q_ca, q_cb, q_tup, q_tu, q_oLst, q_ol, q_and, q_andT, q_andF, q_or, q_orT, q_orF, q_if, q_ifT, q_ifF, q_tVal, q_tv, q_tAnd, q_taT, q_taF, q_tOr, q_toT, q_toF, q_tNot, q_tn, q_yes, q_frz, q_fz, q_box, q_bx, q_chain, q_c1, q_c2, q_c2T, q_c2F, q_c3, q_met1, q_m1, q_m2, q_sl, q_s1, q_s2, q_s3, q_qN, q_qS, q_qs, q_fld, q_fl, q_lk, q_meth, q_mc, q_mc2, q_md, q_make, q_mk, q_jsN, q_jsC, q_js, q_iAny, q_itL, q_itT, q_itS, q_iRg1, q_rg1, q_iRg2, q_rg2, q_rg3, q_comp, q_cm, q_noEx, q_w0, q_w1, q_seq, q_sqN, q_sqR, q_sqC, q_sqB, q_skip, q_cont, q_break, q_retN, q_set, q_st, q_setO, q_so, q_ret, q_rt, q_expr, q_ex, q_sIf, q_siT, q_siF, q_asg, q_as, q_ofE, q_append, q_ap0, q_ap, q_extend, q_xt0, q_xt, q_for, q_fo, q_boxSet, q_b1, q_b2, q_b3, q_bC, q_bB, q_fldSet, q_fs1, q_fs2, q_fsC, q_sFrz, q_tryNo, q_trN, q_trR, q_trC, q_trB, q_gTp, q_gNm, q_def, q_dN, q_dR, q_add, q_addS, q_addT, q_addL, q_sub, q_mul, q_mod, q_div, q_neg, q_le, q_ge, q_gt, q_lt, q_eq, q_ne, q_eqS, q_neS, q_ixT, q_ixL, q_ixB, q_lenT, q_lenL, q_int, q_tupleL, q_tupleT, q_cellL, q_cellLs, q_not, ofO_some, atI0, atI1, atI2, atI3, atI4, frzE, gAll, List.getElem?_cons_zero, List.getElem?_cons_succ, List.set_cons_zero, List.set_cons_succ, List.map_cons, List.map_nil, List.cons_append, List.nil_append, List.append_nil, List.length_cons, List.length_nil, Option.bind_some, Option.map_some, if_true, reduceIte, or_true, true_or, and_true, true_and, Bool.not_true, Bool.not_false, decide_true, decide_false, if_false, Bool.false_eq_true, List.replicate, Int.reduceLT, Int.reduceLE, Int.reduceEq, Int.reduceNe, Int.reduceNeg, Int.reducePow, Int.reduceSub, Nat.reduceLeDiff, Nat.reduceAdd, Nat.reduceSub, Nat.reduceLT, Nat.reduceEqDiff, Nat.reducePow, eq_self, false_and, and_false, false_or, or_false, not_true_eq_false, not_false_eq_true, isi_non_tuple, isi_non_int, isi_non_str, isi_non_bool, isi_non_list, isi_bl_tuple, isi_bl_int, isi_bl_str, isi_bl_bool, isi_bl_list, isi_int_tuple, isi_int_int, isi_int_str, isi_int_bool, isi_int_list, isi_str_tuple, isi_str_int, isi_str_str, isi_str_bool, isi_str_list, isi_tup_tuple, isi_tup_int, isi_tup_str, isi_tup_bool, isi_tup_list, isi_lst_tuple, isi_lst_int, isi_lst_str, isi_lst_bool, isi_lst_list, Int.cast_ofNat_Int, Int.natCast_one, Int.natCast_zero, ne_bl, eq_bl, is_non, isNP]
    | bl x => simp -implicitDefEqProofs only [q_var, q_va, q_c, q_op2, q_2a, q_2b, q_op1, q_isi, q_call, q_oCall, q_oSort, q_1, q_fn, q_f, q_nil, q_cons, q_ca, q_cb, q_tup, q_tu, q_oLst, q_ol, q_and, q_andT, q_andF, q_or, q_orT, q_orF, q_if, q_ifT, q_ifF, q_tVal, q_tv, q_tAnd, q_taT, q_taF, q_tOr, q_toT, q_toF, q_tNot, q_tn, q_yes, q_frz, q_fz, q_box, q_bx, q_chain, q_c1, q_c2, q_c2T, q_c2F, q_c3, q_met1, q_m1, q_m2, q_sl, q_s1, q_s2, q_s3, q_qN, q_qS, q_qs, q_fld, q_fl, q_lk, q_meth, q_mc, q_mc2, q_md, q_make, q_mk, q_jsN, q_jsC, q_js, q_iAny, q_itL, q_itT, q_itS, q_iRg1, q_rg1, q_iRg2, q_rg2, q_rg3, q_comp, q_cm, q_noEx, q_w0, q_w1, q_seq, q_sqN, q_sqR, q_sqC, q_sqB, q_skip, q_cont, q_break, q_retN, q_set, q_st, q_setO, q_so, q_ret, q_rt, q_expr, q_ex, q_sIf, q_siT, q_siF, q_asg, q_as, q_ofE, q_append, q_ap0, q_ap, q_extend, q_xt0, q_xt, q_for, q_fo, q_boxSet, q_b1, q_b2, q_b3, q_bC, q_bB, q_fldSet, q_fs1, q_fs2, q_fsC, q_sFrz, q_tryNo, q_trN, q_trR, q_trC, q_trB, q_gTp, q_gNm, q_def, q_dN, q_dR, q_add, q_addS, q_addT, q_addL, q_sub, q_mul, q_mod, q_div, q_neg, q_le, q_ge, q_gt, q_lt, q_eq, q_ne, q_eqS, q_neS, q_ixT, q_ixL, q_ixB, q_lenT, q_lenL, q_int, q_tupleL, q_tupleT, q_cellL, q_cellLs, q_not, ofO_some, atI0, atI1, atI2, atI3, atI4, frzE, gAll, List.getElem?_cons_zero, List.getElem?_cons_succ, List.set_cons_zero, List.set_cons_succ, List.map_cons, List.map_nil, List.cons_append, List.nil_append, List.append_nil, List.length_cons, List.length_nil, Option.bind_some, Option.map_some, if_true, reduceIte, or_true, true_or, and_true, true_and, Bool.not_true, Bool.not_false, decide_true, decide_false, if_false, Bool.false_eq_true, List.replicate, Int.reduceLT, Int.reduceLE, Int.reduceEq, Int.reduceNe, Int.reduceNeg, Int.reducePow, Int.reduceSub, Nat.reduceLeDiff, Nat.reduceAdd, Nat.reduceSub, Nat.reduceLT, Nat.reduceEqDiff, Nat.reducePow, eq_self, false_and, and_false, false_or, or_false, not_true_eq_false, not_false_eq_true, isi_non_tuple, isi_non_int, isi_non_str, isi_non_bool, isi_non_list, isi_bl_tuple, isi_bl_int, isi_bl_str, isi_bl_bool, isi_bl_list, isi_int_tuple, isi_int_int, isi_int_str, isi_int_bool, isi_int_list, isi_str_tuple, isi_str_int, isi_str_str, isi_str_bool, isi_str_list, isi_tup_tuple, isi_tup_int, isi_tup_str, isi_tup_bool, isi_tup_list, isi_lst_tuple, isi_lst_int, isi_lst_str, isi_lst_bool, isi_lst_list, Int.cast_ofNat_Int, Int.natCast_one, Int.natCast_zero, ne_bl, eq_bl, is_non, isNP]
    | tup ps =>
      obtain ⟨hl, hq⟩ := h
      have hc := row (.tup ps) ps hl hq fun _ _ => rfl
      have hb : -4611686018427387904 ≤ (ps.length : Int) ∧ (ps.length : Int) < 4611686018427387904 := by omega
      simp -implicitDefEqProofs only [q_var, q_va, q_c, q_op2, q_2a, q_2b, q_op1, q_isi, q_call, q_oCall, q_oSort, q_1, q_fn, q_f, q_nil, q_cons, q_ca, q_cb, q_tup, q_tu, q_oLst, q_ol, q_and, q_andT, q_andF, q_or, q_orT, q_orF, q_if, q_ifT, q_ifF, q_tVal, q_tv, q_tAnd, q_taT, q_taF, q_tOr, q_toT, q_toF, q_tNot, q_tn, q_yes, q_frz, q_fz, q_box, q_bx, q_chain, q_c1, q_c2, q_c2T, q_c2F, q_c3, q_met1, q_m1, q_m2, q_sl, q_s1, q_s2, q_s3, q_qN, q_qS, q_qs, q_fld, q_fl, q_lk, q_meth, q_mc, q_mc2, q_md, q_make, q_mk, q_jsN, q_jsC, q_js, q_iAny, q_itL, q_itT, q_itS, q_iRg1, q_rg1, q_iRg2, q_rg2, q_rg3, q_comp, q_cm, q_noEx, q_w0, q_w1, q_seq, q_sqN, q_sqR, q_sqC, q_sqB, q_skip, q_cont, q_break, q_retN, q_set, q_st, q_setO, q_so, q_ret, q_rt, q_expr, q_ex, q_sIf, q_siT, q_siF, q_asg, q_as, q_ofE, q_append, q_ap0, q_ap, q_extend, q_xt0, q_xt, q_for, q_fo, q_boxSet, q_b1, q_b2, q_b3, q_bC, q_bB, q_fldSet, q_fs1, q_fs2, q_fsC, q_sFrz, q_tryNo, q_trN, q_trR, q_trC, q_trB, q_gTp, q_gNm, q_def, q_dN, q_dR, q_add, q_addS, q_addT, q_addL, q_sub, q_mul, q_mod, q_div, q_neg, q_le, q_ge, q_gt, q_lt, q_eq, q_ne, q_eqS, q_neS, q_ixT, q_ixL, q_ixB, q_lenT, q_lenL, q_int, q_tupleL, q_tupleT, q_cellL, q_cellLs, q_not, ofO_some, atI0, atI1, atI2, atI3, atI4, frzE, gAll, List.getElem?_cons_zero, List.getElem?_cons_succ, List.set_cons_zero, List.set_cons_succ, List.map_cons, List.map_nil, List.cons_append, List.nil_append, List.append_nil, List.length_cons, List.length_nil, Option.bind_some, Option.map_some, if_true, reduceIte, or_true, true_or, and_true, true_and, Bool.not_true, Bool.not_false, decide_true, decide_false, if_false, Bool.false_eq_true, List.replicate, Int.reduceLT, Int.reduceLE, Int.reduceEq, Int.reduceNe, Int.reduceNeg, Int.reducePow, Int.reduceSub, Nat.reduceLeDiff, Nat.reduceAdd, Nat.reduceSub, Nat.reduceLT, Nat.reduceEqDiff, Nat.reducePow, eq_self, false_and, and_false, false_or, or_false, not_true_eq_false, not_false_eq_true, isi_non_tuple, isi_non_int, isi_non_str, isi_non_bool, isi_non_list, isi_bl_tuple, isi_bl_int, isi_bl_str, isi_bl_bool, isi_bl_list, isi_int_tuple, isi_int_int, isi_int_str, isi_int_bool, isi_int_list, isi_str_tuple, isi_str_int, isi_str_str, isi_str_bool, isi_str_list, isi_tup_tuple, isi_tup_int, isi_tup_str, isi_tup_bool, isi_tup_list, isi_lst_tuple, isi_lst_int, isi_lst_str, isi_lst_bool, isi_lst_list, Int.cast_ofNat_Int, Int.natCast_one, Int.natCast_zero, ne_bl, hb, rangeP_map, Int.toNat_natCast, List.length_map, List.length_range, hl, hc]
    | lst ps =>
      obtain ⟨hl, hq⟩ := h
      have hc := row (.lst ps) ps hl hq fun _ _ => rfl
      have hb : -4611686018427387904 ≤ (ps.length : Int) ∧ (ps.length : Int) < 4611686018427387904 := by omega
      simp -implicitDefEqProofs only [q_var, q_va, q_c, q_op2, q_2a, q_2b, q_op1, q_isi, q_call, q_oCall, q_oSort, q_1, q_fn, q_f, q_nil, q_cons, q_ca, q_cb, q_tup, q_tu, q_oLst, q_ol, q_and, q_andT, q_andF, q_or, q_orT, q_orF, q_if, q_ifT, q_ifF, q_tVal, q_tv, q_tAnd, q_taT, q_taF, q_tOr, q_toT, q_toF, q_tNot, q_tn, q_yes, q_frz, q_fz, q_box, q_bx, q_chain, q_c1, q_c2, q_c2T, q_c2F, q_c3, q_met1, q_m1, q_m2, q_sl, q_s1, q_s2, q_s3, q_qN, q_qS, q_qs, q_fld, q_fl, q_lk, q_meth, q_mc, q_mc2, q_md, q_make, q_mk, q_jsN, q_jsC, q_js, q_iAny, q_itL, q_itT, q_itS, q_iRg1, q_rg1, q_iRg2, q_rg2, q_rg3, q_comp, q_cm, q_noEx, q_w0, q_w1, q_seq, q_sqN, q_sqR, q_sqC, q_sqB, q_skip, q_cont, q_break, q_retN, q_set, q_st, q_setO, q_so, q_ret, q_rt, q_expr, q_ex, q_sIf, q_siT, q_siF, q_asg, q_as, q_ofE, q_append, q_ap0, q_ap, q_extend, q_xt0, q_xt, q_for, q_fo, q_boxSet, q_b1, q_b2, q_b3, q_bC, q_bB, q_fldSet, q_fs1, q_fs2, q_fsC, q_sFrz, q_tryNo, q_trN, q_trR, q_trC, q_trB, q_gTp, q_gNm, q_def, q_dN, q_dR, q_add, q_addS, q_addT, q_addL, q_sub, q_mul, q_mod, q_div, q_neg, q_le, q_ge, q_gt, q_lt, q_eq, q_ne, q_eqS, q_neS, q_ixT, q_ixL, q_ixB, q_lenT, q_lenL, q_int, q_tupleL, q_tupleT, q_cellL, q_cellLs, q_not, ofO_some, atI0, atI1, atI2, atI3, atI4, frzE, gAll, List.getElem?_cons_zero, List.getElem?_cons_succ, List.set_cons_zero, List.set_cons_succ, List.map_cons, List.map_nil, List.cons_append, List.nil_append, List.append_nil, List.length_cons, List.length_nil, Option.bind_some, Option.map_some, if_true, reduceIte, or_true, true_or, and_true, true_and, Bool.not_true, Bool.not_false, decide_true, decide_false, if_false, Bool.false_eq_true, List.replicate, Int.reduceLT, Int.reduceLE, Int.reduceEq, Int.reduceNe, Int.reduceNeg, Int.reducePow, Int.reduceSub, Nat.reduceLeDiff, Nat.reduceAdd, Nat.reduceSub, Nat.reduceLT, Nat.reduceEqDiff, Nat.reducePow, eq_self, false_and, and_false, false_or, or_false, not_true_eq_false, not_false_eq_true, isi_non_tuple, isi_non_int, isi_non_str, isi_non_bool, isi_non_list, isi_bl_tuple, isi_bl_int, isi_bl_str, isi_bl_bool, isi_bl_list, isi_int_tuple, isi_int_int, isi_int_str, isi_int_bool, isi_int_list, isi_str_tuple, isi_str_int, isi_str_str, isi_str_bool, isi_str_list, isi_tup_tuple, isi_tup_int, isi_tup_str, isi_tup_bool, isi_tup_list, isi_lst_tuple, isi_lst_int, isi_lst_str, isi_lst_bool, isi_lst_list, Int.cast_ofNat_Int, Int.natCast_one, Int.natCast_zero, ne_bl, hb, rangeP_map, Int.toNat_natCast, List.length_map, List.length_range, hl, hc]
    | box n => exact h.elim
    | fro ns => exact h.elim

theorem okS_ints {n : Nat} (l : List Int) (h : l.length < 1000000) : okS (n + 2) (.tup (l.map .int)) := ⟨by simpa using h, fun q hq => by
  obtain ⟨z, hz, rfl⟩ := List.mem_map.mp hq
  exact trivial⟩
theorem okS_farm {F : Farm} (h : NumF F) {n : Nat} : okS (n + 6) (encF F) := by
  have h1 := h.cl
  have h2 := h.ml
  have h3 := h.wl
  refine ⟨by simp, fun q hq => ?_⟩
  simp only [List.mem_cons, List.not_mem_nil, or_false] at hq
  rcases hq with rfl | rfl | rfl
  · refine ⟨by simp only [List.length_map]; omega, fun q hq => ?_⟩
    obtain ⟨c, hc, rfl⟩ := List.mem_map.mp hq
    have := (h.c c hc).2.1
    refine ⟨by simp only [List.length_map]; omega, fun q hq => ?_⟩
    obtain ⟨z, hz, rfl⟩ := List.mem_map.mp hq
    exact okS_ints [z.1, z.2] (by simp)
  · exact okS_ints F.ms (by omega)
  · refine ⟨by simp only [List.length_map]; omega, fun q hq => ?_⟩
    obtain ⟨c, hc, rfl⟩ := List.mem_map.mp hq
    exact okS_ints (nums4 c) (by unfold nums4; simp)
theorem plain : ∀ ns : List Int, ns.length ≤ 63 → ∃ b, d_law [.fro ns] [] = .ok (.bl true) b := by
  intro ns h
  obtain ⟨b0, hp, i0⟩ := pool_ex ns h
  obtain ⟨e2, b2, q1, q2⟩ := for_ex (gf := gNm 2) (f := sSeq (sSet 3 (eFn d_law_farm (aCons (eVar 1) (aCons (eC (.int 4)) (aCons (eC (.int 100)) aNil))))) (sSeq (sSet 4 (eMet1 joinP (eC (.str "\n")) (eFn d_law_farm_text (aCons (eVar 3) aNil)))) (sIf (tNotF (tVal (eFn (d_law_same 8) (aCons (eFrz (oLst (aCons (eFn d_write_farm (aCons (eVar 3) aNil)) (aCons (eFn d_read_farm (aCons (eVar 4) aNil)) aNil)))) (aCons (eFrz (oLst (aCons (eVar 4) (aCons (eVar 3) aNil)))) aNil))))) (sRet (eC (.bl false))) sSkip)))
    (fun k : Nat => P.int (k : Nat)) (fun e b => ∃ (rest : Bx) (s2 s3 s4 : PV.Slot), e = [.va (.fro ns), .va (.box 0), s2, s3, s4] ∧ PoolI rest b) (as := List.range 3) (fun a _ e b i => by
      obtain ⟨rest, s2, s3, s4, rfl, i⟩ := i
      obtain ⟨F, b1, hf, g, i1⟩ := farm_ex i (most := 4) (top := 100) (by omega) (by omega) (by omega) (by omega)
      have hN := NumF.of g (by omega) (by omega)
      have ht := farm_text_eq hN b1
      have hj := farm_join hN
      have hw := write_farm_eq hN b1
      have hr := read_farm_eq b1 g
      have hs := same_refl 8 (.lst [.str (tFarm F), encF F]) (rd b1 F.cs F.ms F.ws) ⟨by simp, fun q hq => by
        simp only [List.mem_cons, List.not_mem_nil, or_false] at hq
        rcases hq with rfl | rfl
        · exact trivial
        · exact okS_farm hN⟩
      refine ⟨_, [.va (.fro ns), .va (.box 0), .va (.int (a : Nat)), .va (encF F), .va (.str (tFarm F))], rd b1 F.cs F.ms F.ws, rfl, .inl ?_, ?_⟩
      · simp -implicitDefEqProofs only [q_var, q_va, q_c, q_op2, q_2a, q_2b, q_op1, q_isi, q_call, q_oCall, q_oSort, q_1, q_fn, q_f, q_nil, q_cons, q_ca, q_cb, q_tup, q_tu, q_oLst, q_ol, q_and, q_andT, q_andF, q_or, q_orT, q_orF, q_if, q_ifT, q_ifF, q_tVal, q_tv, q_tAnd, q_taT, q_taF, q_tOr, q_toT, q_toF, q_tNot, q_tn, q_yes, q_frz, q_fz, q_box, q_bx, q_chain, q_c1, q_c2, q_c2T, q_c2F, q_c3, q_met1, q_m1, q_m2, q_sl, q_s1, q_s2, q_s3, q_qN, q_qS, q_qs, q_fld, q_fl, q_lk, q_meth, q_mc, q_mc2, q_md, q_make, q_mk, q_jsN, q_jsC, q_js, q_iAny, q_itL, q_itT, q_itS, q_iRg1, q_rg1, q_iRg2, q_rg2, q_rg3, q_comp, q_cm, q_noEx, q_w0, q_w1, q_seq, q_sqN, q_sqR, q_sqC, q_sqB, q_skip, q_cont, q_break, q_retN, q_set, q_st, q_setO, q_so, q_ret, q_rt, q_expr, q_ex, q_sIf, q_siT, q_siF, q_asg, q_as, q_ofE, q_append, q_ap0, q_ap, q_extend, q_xt0, q_xt, q_for, q_fo, q_boxSet, q_b1, q_b2, q_b3, q_bC, q_bB, q_fldSet, q_fs1, q_fs2, q_fsC, q_sFrz, q_tryNo, q_trN, q_trR, q_trC, q_trB, q_gTp, q_gNm, q_def, q_dN, q_dR, q_add, q_addS, q_addT, q_addL, q_sub, q_mul, q_mod, q_div, q_neg, q_le, q_ge, q_gt, q_lt, q_eq, q_ne, q_eqS, q_neS, q_ixT, q_ixL, q_ixB, q_lenT, q_lenL, q_int, q_tupleL, q_tupleT, q_cellL, q_cellLs, q_not, ofO_some, atI0, atI1, atI2, atI3, atI4, frzE, gAll, List.getElem?_cons_zero, List.getElem?_cons_succ, List.set_cons_zero, List.set_cons_succ, List.map_cons, List.map_nil, List.cons_append, List.nil_append, List.append_nil, List.length_cons, List.length_nil, Option.bind_some, Option.map_some, if_true, reduceIte, or_true, true_or, and_true, true_and, Bool.not_true, Bool.not_false, decide_true, decide_false, if_false, Bool.false_eq_true, List.replicate, Int.reduceLT, Int.reduceLE, Int.reduceEq, Int.reduceNe, Int.reduceNeg, Int.reducePow, Int.reduceSub, Nat.reduceLeDiff, Nat.reduceAdd, Nat.reduceSub, Nat.reduceLT, Nat.reduceEqDiff, Nat.reducePow, eq_self, false_and, and_false, false_or, or_false, not_true_eq_false, not_false_eq_true, isi_non_tuple, isi_non_int, isi_non_str, isi_non_bool, isi_non_list, isi_bl_tuple, isi_bl_int, isi_bl_str, isi_bl_bool, isi_bl_list, isi_int_tuple, isi_int_int, isi_int_str, isi_int_bool, isi_int_list, isi_str_tuple, isi_str_int, isi_str_str, isi_str_bool, isi_str_list, isi_tup_tuple, isi_tup_int, isi_tup_str, isi_tup_bool, isi_tup_list, isi_lst_tuple, isi_lst_int, isi_lst_str, isi_lst_bool, isi_lst_list, Int.cast_ofNat_Int, Int.natCast_one, Int.natCast_zero, hf, ht, hj, hw, hr, hs]
      · obtain ⟨q, rfl⟩ := i1
        exact ⟨_, _, _, _, rfl, q, rfl⟩) [.va (.fro ns), .va (.box 0), .un, .un, .un] b0 ⟨[], _, _, _, rfl, i0⟩
  have hr : rangeP 0 3 = (List.range 3).map fun k => P.int (k : Nat) := rfl
  refine ⟨b2, ?_⟩
  unfold d_law b_law
  simp -implicitDefEqProofs only [q_var, q_va, q_c, q_op2, q_2a, q_2b, q_op1, q_isi, q_call, q_oCall, q_oSort, q_1, q_fn, q_f, q_nil, q_cons, q_ca, q_cb, q_tup, q_tu, q_oLst, q_ol, q_and, q_andT, q_andF, q_or, q_orT, q_orF, q_if, q_ifT, q_ifF, q_tVal, q_tv, q_tAnd, q_taT, q_taF, q_tOr, q_toT, q_toF, q_tNot, q_tn, q_yes, q_frz, q_fz, q_box, q_bx, q_chain, q_c1, q_c2, q_c2T, q_c2F, q_c3, q_met1, q_m1, q_m2, q_sl, q_s1, q_s2, q_s3, q_qN, q_qS, q_qs, q_fld, q_fl, q_lk, q_meth, q_mc, q_mc2, q_md, q_make, q_mk, q_jsN, q_jsC, q_js, q_iAny, q_itL, q_itT, q_itS, q_iRg1, q_rg1, q_iRg2, q_rg2, q_rg3, q_comp, q_cm, q_noEx, q_w0, q_w1, q_seq, q_sqN, q_sqR, q_sqC, q_sqB, q_skip, q_cont, q_break, q_retN, q_set, q_st, q_setO, q_so, q_ret, q_rt, q_expr, q_ex, q_sIf, q_siT, q_siF, q_asg, q_as, q_ofE, q_append, q_ap0, q_ap, q_extend, q_xt0, q_xt, q_for, q_fo, q_boxSet, q_b1, q_b2, q_b3, q_bC, q_bB, q_fldSet, q_fs1, q_fs2, q_fsC, q_sFrz, q_tryNo, q_trN, q_trR, q_trC, q_trB, q_gTp, q_gNm, q_def, q_dN, q_dR, q_add, q_addS, q_addT, q_addL, q_sub, q_mul, q_mod, q_div, q_neg, q_le, q_ge, q_gt, q_lt, q_eq, q_ne, q_eqS, q_neS, q_ixT, q_ixL, q_ixB, q_lenT, q_lenL, q_int, q_tupleL, q_tupleT, q_cellL, q_cellLs, q_not, ofO_some, atI0, atI1, atI2, atI3, atI4, frzE, gAll, List.getElem?_cons_zero, List.getElem?_cons_succ, List.set_cons_zero, List.set_cons_succ, List.map_cons, List.map_nil, List.cons_append, List.nil_append, List.append_nil, List.length_cons, List.length_nil, Option.bind_some, Option.map_some, if_true, reduceIte, or_true, true_or, and_true, true_and, Bool.not_true, Bool.not_false, decide_true, decide_false, if_false, Bool.false_eq_true, List.replicate, Int.reduceLT, Int.reduceLE, Int.reduceEq, Int.reduceNe, Int.reduceNeg, Int.reducePow, Int.reduceSub, Nat.reduceLeDiff, Nat.reduceAdd, Nat.reduceSub, Nat.reduceLT, Nat.reduceEqDiff, Nat.reducePow, eq_self, false_and, and_false, false_or, or_false, not_true_eq_false, not_false_eq_true, isi_non_tuple, isi_non_int, isi_non_str, isi_non_bool, isi_non_list, isi_bl_tuple, isi_bl_int, isi_bl_str, isi_bl_bool, isi_bl_list, isi_int_tuple, isi_int_int, isi_int_str, isi_int_bool, isi_int_list, isi_str_tuple, isi_str_int, isi_str_str, isi_str_bool, isi_str_list, isi_tup_tuple, isi_tup_int, isi_tup_str, isi_tup_bool, isi_tup_list, isi_lst_tuple, isi_lst_int, isi_lst_str, isi_lst_bool, isi_lst_list, Int.cast_ofNat_Int, Int.natCast_one, Int.natCast_zero, hp, hr, q1]

end LW
open PySem PySem.W PySem.Calls PyProof.Rows
set_option maxHeartbeats 0 in
theorem PySem.Challenge.cw_everyweather_k60_texts_of_farms_holds : PySem.Challenge.rw_everyweather_k60_texts_of_farms.Holds := by
  w_on; o_law
  refine HandSHeadRun.head_any (r := OpenLaw.row PySem.Challenge.rw_everyweather_k60_texts_of_farms) (q := view (OpenLaw.row PySem.Challenge.rw_everyweather_k60_texts_of_farms).prog [32]) (H := LW.hk) (ob := LW.ob) (M := 6000) (loose := LW.loose) (d := HandSHeadRun.topDef (OpenLaw.row PySem.Challenge.rw_everyweather_k60_texts_of_farms).prog 32) (kwd := []) LW.ob_eq
    (by kernel_rfl) (fun s => by kernel_rfl) LW.run (by kernel_rfl) (by kernel_rfl) (by kernel_rfl) (by rfl) (by first | assumption | decide +kernel) (by decide +kernel) ⟨rfl, rfl, rfl, rfl, rfl, by decide +kernel⟩ ?hw ?hc
  case hw => w_witness2
  case hc =>
    refine L2.walk_ofE (l := PySem.Challenge.rw_everyweather_k60_texts_of_farms) (n := 63) (k := 9) (x := "script") (CX := L2.CX0) rfl (by decide) (by kernel_rfl) ⟨rfl, by decide, by decide⟩ ?F (fun _ _ _ _ z => z)
    intro w mg fa h Y G hmg0
    obtain ⟨K, KX, c⟩ := Y
    have hmg : mg ("law" : PySem.Str) = some (.ref fa) := by
      have e : (HandSHeadRun.topDef (OpenLaw.row PySem.Challenge.rw_everyweather_k60_texts_of_farms).prog 32).name = ("law" : PySem.Str) := by kernel_rfl
      rw [← e]
      exact hmg0
    have T : LW.Tx K mg := LW.tx_of c.t.d c.more KX G
    have F : LW.Fx K := LW.fx_of c.t.d
    obtain ⟨fd, F0⟩ := F.d_law
    have e := hmg.symm.trans T.g_law
    cases e
    have b := L2.FunD.bindsA (ps := ["script"]) F0 fun _ _ _ _ _ _ us hl => match us, hl with | [_], _ => rfl
    refine ⟨K, fd, PV.spLaw K, KX, fun s v => b s [v] rfl, fun H a ns hl ho hS => ⟨a, ns, rfl, hS, ho, hl, fun _ => rfl⟩, fun base _ _ => ?_⟩
    exact PV.law_ok (LW.fn_law T F fd F0) LW.plain

