import PyProof.Rows.All
import Wide.All
import OpenK.AllK
import Wide.FinOn
import HandS.ForMost
import HandS.Exc
import HandS.ExcCtx
import HandS.HotCalls
import HandS.ExcInit
import HandS.ExcField
import HandS.IsInst
import HandS.Wide
import HandS.Style
import HandS.TupAny
import HandS.TupLe
import HandS.Flow
import HandS.EndBits
import HandS.Codes
import HandS.ExcOwn
import HandS.WordsExc
import HandS.Defaults
import HandS.Text
import PySem.Challenge.RW_seatlots_k02_fractions_next_to_one_anoth
set_option Elab.async false
set_option linter.all false
set_option maxRecDepth 100000
namespace PH
open PySem PySem.Spec PyProof.Rows L2
/-! Trees: what a Python value is, without places in memory. -/
inductive Ty where
  | non | bl | int | str | tup | lst | dic
  deriving DecidableEq
def Ty.name : Ty → String
  | .non => "NoneType" | .bl => "bool" | .int => "int" | .str => "str" | .tup => "tuple" | .lst => "list" | .dic => "dict"
inductive T where
  | non | bl (b : Bool) | int (i : Int) | str (x : Str)
  | ty (n : Ty) | cls (c : Str)
  | tup (xs : List T) | lst (xs : List T)
  | ro (ns : List Int)
  | ins (c : Str) (fs : List (Str × T))

/-- what every judgement leans on: the written part, the module's names -/
structure Gm where
  K : PySem.W.Frag
  mg : Str → Option Value

mutual
inductive Rep (G : Gm) (Z : Hp) : T → V → Prop
  | non : Rep G Z .non .non
  | bl (b : Bool) : Rep G Z (.bl b) (.bl b)
  | int (i : Int) : Rep G Z (.int i) (.int i)
  | str (x : Str) : Rep G Z (.str x) (.str x)
  | ty (n : Ty) : Rep G Z (.ty n) (.ty n.name)
  | cls {c : Str} {C : Addr} : G.mg c = some (.ref C) → Rep G Z (.cls c) (.ref C)
  | tup {a : Addr} {ts : List T} {vs : List V} : SqT G.K Z a vs → Reps G Z ts vs → Rep G Z (.tup ts) (.ref a)
  | lst {a : Addr} {ts : List T} {vs : List V} : Z a = some (.lst vs) → Reps G Z ts vs → Rep G Z (.lst ts) (.ref a)
  | ro {a : Addr} {ns : List Int} : SqL G.K Z a (ns.map V.int) → Rep G Z (.ro ns) (.ref a)
  | ins {a C dx : Addr} {c : Str} {fs : List (Str × T)} {gs : List (Str × V)} : G.mg c = some (.ref C) → Z a = some (.ins C dx gs) → RepF G Z fs gs → Rep G Z (.ins c fs) (.ref a)
inductive Reps (G : Gm) (Z : Hp) : List T → List V → Prop
  | nil : Reps G Z [] []
  | cons {t : T} {v : V} {ts : List T} {vs : List V} : Rep G Z t v → Reps G Z ts vs → Reps G Z (t :: ts) (v :: vs)
inductive RepF (G : Gm) (Z : Hp) : List (Str × T) → List (Str × V) → Prop
  | nil : RepF G Z [] []
  | cons {f : Str} {t : T} {v : V} {fs : List (Str × T)} {gs : List (Str × V)} : Rep G Z t v → RepF G Z fs gs → RepF G Z ((f, t) :: fs) ((f, v) :: gs)
end

/-- one heap within another -/
def Sub (Z H : Hp) : Prop := ∀ a o, Z a = some o → H a = some o
theorem Sub.refl (Z : Hp) : Sub Z Z := fun _ _ h => h
theorem Sub.trans {Z H J : Hp} (p : Sub Z H) (q : Sub H J) : Sub Z J := fun a o h => q a o (p a o h)
theorem Sub.rd {Z H : Hp} (p : Sub Z H) {a : Addr} {u : HO} (h : Rd Z a u) : Rd H a u := by
  rcases h with h | ⟨o, h⟩
  · exact .inl (p _ _ h)
  · exact .inr ⟨o, p _ _ h⟩
theorem Sub.sqT {K : PySem.W.Frag} {Z H : Hp} (p : Sub Z H) {a : Addr} {vs : List V} (h : SqT K Z a vs) : SqT K H a vs := by
  rcases h with h | h
  · exact .inl (p.rd h)
  · exact .inr h
theorem Sub.sqL {K : PySem.W.Frag} {Z H : Hp} (p : Sub Z H) {a : Addr} {vs : List V} (h : SqL K Z a vs) : SqL K H a vs := by
  rcases h with h | h
  · exact .inl (p.rd h)
  · exact .inr h
section
variable {G : Gm} {Z H : Hp}
mutual
theorem Rep.mono (p : Sub Z H) : ∀ {t : T} {v : V}, Rep G Z t v → Rep G H t v
  | _, _, .non => .non
  | _, _, .bl b => .bl b
  | _, _, .int i => .int i
  | _, _, .str x => .str x
  | _, _, .ty n => .ty n
  | _, _, .cls h => .cls h
  | _, _, .tup h r => .tup (p.sqT h) (Reps.mono p r)
  | _, _, .lst h r => .lst (p _ _ h) (Reps.mono p r)
  | _, _, .ro h => .ro (p.sqL h)
  | _, _, .ins m h r => .ins m (p _ _ h) (RepF.mono p r)
theorem Reps.mono (p : Sub Z H) : ∀ {ts : List T} {vs : List V}, Reps G Z ts vs → Reps G H ts vs
  | _, _, .nil => .nil
  | _, _, .cons h r => .cons (Rep.mono p h) (Reps.mono p r)
theorem RepF.mono (p : Sub Z H) : ∀ {fs : List (Str × T)} {gs : List (Str × V)}, RepF G Z fs gs → RepF G H fs gs
  | _, _, .nil => .nil
  | _, _, .cons h r => .cons (Rep.mono p h) (RepF.mono p r)
end
theorem Reps.length {ts : List T} {vs : List V} (h : Reps G Z ts vs) : ts.length = vs.length := by
  induction ts generalizing vs with
  | nil => cases h; rfl
  | cons t ts ih => cases h with | cons a b => simp [ih b]
theorem Reps.get {ts : List T} {vs : List V} (h : Reps G Z ts vs) : ∀ {i : Nat} {t : T}, ts[i]? = some t → ∃ v, vs[i]? = some v ∧ Rep G Z t v := by
  induction ts generalizing vs with
  | nil => intro i t e; simp at e
  | cons t0 ts ih =>
    cases h with
    | cons a b =>
      intro i t e
      cases i with
      | zero => simp at e; subst e; exact ⟨_, rfl, a⟩
      | succ i => obtain ⟨v, e1, r⟩ := ih b (i := i) (by simpa using e); exact ⟨v, by simpa using e1, r⟩
theorem Reps.getV {ts : List T} {vs : List V} (h : Reps G Z ts vs) : ∀ {i : Nat} {v : V}, vs[i]? = some v → ∃ t, ts[i]? = some t ∧ Rep G Z t v := by
  induction ts generalizing vs with
  | nil => cases h; intro i t e; simp at e
  | cons t0 ts ih =>
    cases h with
    | cons a b =>
      intro i t e
      cases i with
      | zero => simp at e; subst e; exact ⟨_, rfl, a⟩
      | succ i => obtain ⟨v, e1, r⟩ := ih b (i := i) (by simpa using e); exact ⟨v, by simpa using e1, r⟩
theorem Reps.append {ts us : List T} {vs ws : List V} (h : Reps G Z ts vs) (k : Reps G Z us ws) : Reps G Z (ts ++ us) (vs ++ ws) := by
  induction ts generalizing vs with
  | nil => cases h; exact k
  | cons t ts ih => cases h with | cons a b => exact .cons a (ih b)
theorem Reps.take {ts : List T} {vs : List V} (h : Reps G Z ts vs) : ∀ n : Nat, Reps G Z (ts.take n) (vs.take n) := by
  induction ts generalizing vs with
  | nil => cases h; intro n; simp; exact .nil
  | cons t ts ih =>
    cases h with
    | cons a b =>
      intro n
      cases n with
      | zero => exact .nil
      | succ n => exact .cons a (ih b n)
theorem Reps.drop {ts : List T} {vs : List V} (h : Reps G Z ts vs) : ∀ n : Nat, Reps G Z (ts.drop n) (vs.drop n) := by
  induction ts generalizing vs with
  | nil => cases h; intro n; simp; exact .nil
  | cons t ts ih =>
    cases h with
    | cons a b =>
      intro n
      cases n with
      | zero => exact .cons a b
      | succ n => exact ih b n
theorem Reps.set {ts : List T} {vs : List V} (h : Reps G Z ts vs) {t : T} {v : V} (r : Rep G Z t v) : ∀ i : Nat, Reps G Z (ts.set i t) (vs.set i v) := by
  induction ts generalizing vs with
  | nil => cases h; intro i; exact .nil
  | cons t0 ts ih =>
    cases h with
    | cons a b =>
      intro i
      cases i with
      | zero => exact .cons r b
      | succ i => exact .cons a (ih b i)
theorem Reps.erase {ts : List T} {vs : List V} (h : Reps G Z ts vs) : ∀ i : Nat, Reps G Z (ts.eraseIdx i) (vs.eraseIdx i) := by
  induction ts generalizing vs with
  | nil => cases h; intro i; exact .nil
  | cons t0 ts ih =>
    cases h with
    | cons a b =>
      intro i
      cases i with
      | zero => exact b
      | succ i => exact .cons a (ih b i)
theorem Reps.dropLast {ts : List T} {vs : List V} (h : Reps G Z ts vs) : Reps G Z ts.dropLast vs.dropLast := by
  rw [List.dropLast_eq_take, List.dropLast_eq_take, h.length]; exact h.take _
theorem Reps.reverse {ts : List T} {vs : List V} (h : Reps G Z ts vs) : Reps G Z ts.reverse vs.reverse := by
  induction ts generalizing vs with
  | nil => cases h; exact .nil
  | cons t ts ih => cases h with | cons a b => simp only [List.reverse_cons]; exact (ih b).append (.cons a .nil)
theorem Reps.rep {ts : List T} {vs : List V} (h : Reps G Z ts vs) : ∀ k : Nat, Reps G Z (List.replicate k ts).flatten (List.replicate k vs).flatten
  | 0 => .nil
  | k + 1 => by simp only [List.replicate_succ, List.flatten_cons]; exact h.append (Reps.rep h k)
theorem Reps.ints : ∀ {ns : List Int} {vs : List V}, Reps G Z (ns.map T.int) vs → vs = ns.map V.int
  | [], _, h => by cases h; rfl
  | n :: ns, _, h => by
    cases h with
    | cons a b => cases a; rw [Reps.ints b]; rfl
theorem Reps.ofInts : ∀ (ns : List Int), Reps G Z (ns.map T.int) (ns.map V.int)
  | [] => .nil
  | n :: ns => .cons (.int n) (Reps.ofInts ns)
theorem Reps.bls : ∀ {bs : List Bool} {vs : List V}, Reps G Z (bs.map T.bl) vs → vs = bs.map V.bl
  | [], _, h => by cases h; rfl
  | n :: ns, _, h => by
    cases h with
    | cons a b => cases a; rw [Reps.bls b]; rfl
theorem Reps.strs : ∀ {xs : List Str} {vs : List V}, Reps G Z (xs.map T.str) vs → vs = xs.map V.str
  | [], _, h => by cases h; rfl
  | n :: ns, _, h => by
    cases h with
    | cons a b => cases a; rw [Reps.strs b]; rfl
theorem Reps.ofStrs : ∀ (xs : List Str), Reps G Z (xs.map T.str) (xs.map V.str)
  | [] => .nil
  | n :: ns => .cons (.str n) (Reps.ofStrs ns)
end

/-! ### answers, slots -/
inductive Sl where
  | no | val (t : T) | own (ts : List T) | box (ts : List T)
abbrev Ev := List Sl
inductive R (α : Type) where
  | ok (a : α) | exc (c : Str) (fs : List (Str × T)) (ev : Ev) | bad
def R.bind {α β : Type} (x : R α) (f : α → R β) : R β := match x with
  | .ok a => f a
  | .exc c fs ev => .exc c fs ev
  | .bad => .bad
instance : Monad R where
  pure := R.ok
  bind := R.bind
@[simp] theorem R.ok_bind {α β : Type} (a : α) (f : α → R β) : (R.ok a >>= f) = f a := rfl
@[simp] theorem R.pure_bind' {α β : Type} (a : α) (f : α → R β) : ((pure a : R α) >>= f) = f a := rfl
@[simp] theorem R.exc_bind {α β : Type} (c : Str) (fs : List (Str × T)) (ev : Ev) (f : α → R β) : ((R.exc c fs ev : R α) >>= f) = R.exc c fs ev := rfl
@[simp] theorem R.bad_bind {α β : Type} (f : α → R β) : ((R.bad : R α) >>= f) = R.bad := rfl
theorem R.pure_eq {α : Type} (a : α) : (pure a : R α) = R.ok a := rfl

def oAt : Sl → Option V → Option Addr
  | .own _, some (.ref a) => some a
  | .box _, some (.ref a) => some a
  | _, _ => none
def SlOk (G : Gm) (Z H : Hp) : Sl → Option V → Prop
  | .no, _ => True
  | .val t, some v => Rep G Z t v
  | .own ts, some (.ref a) => Z a = none ∧ ∃ vs, H a = some (.lst vs) ∧ Reps G Z ts vs
  | .box ts, some (.ref a) => Z a = none ∧ ∃ vs, H a = some (.lst vs) ∧ Reps G Z ts vs
  | _, _ => False
def Own (σ : L2.St) (ev : Ev) (i : Nat) (a : Addr) : Prop := ∃ s v, ev[i]? = some s ∧ σ[i]? = some v ∧ oAt s v = some a
structure StOk (G : Gm) (Z H : Hp) (σ : L2.St) (ev : Ev) : Prop where
  sub : Sub Z H
  len : ev.length = σ.length
  slots : ∀ (i : Nat) (s : Sl) (v : Option V), ev[i]? = some s → σ[i]? = some v → SlOk G Z H s v
  dist : ∀ (i j : Nat) (a : Addr), Own σ ev i a → Own σ ev j a → i = j
theorem oAt_some {s : Sl} {v : Option V} {a : Addr} (h : oAt s v = some a) : v = some (.ref a) ∧ ∃ ts, s = .own ts ∨ s = .box ts := by
  cases s with
  | no => cases h
  | val t => cases h
  | own ts =>
    cases v with
    | none => cases h
    | some v => cases v <;> first | (cases h; done) | (cases h; exact ⟨rfl, ts, .inl rfl⟩)
  | box ts =>
    cases v with
    | none => cases h
    | some v => cases v <;> first | (cases h; done) | (cases h; exact ⟨rfl, ts, .inr rfl⟩)
theorem StOk.own {G : Gm} {Z H : Hp} {σ : L2.St} {ev : Ev} (I : StOk G Z H σ ev) {i : Nat} {a : Addr} (h : Own σ ev i a) : Z a = none ∧ ∃ vs, H a = some (.lst vs) := by
  obtain ⟨s, v, e1, e2, e3⟩ := h
  obtain ⟨rfl, ts, rfl | rfl⟩ := oAt_some e3
  · obtain ⟨z, vs, hv, _⟩ := I.slots i _ _ e1 e2; exact ⟨z, vs, hv⟩
  · obtain ⟨z, vs, hv, _⟩ := I.slots i _ _ e1 e2; exact ⟨z, vs, hv⟩

/-- from one moment to a later one; only the own things were written -/
structure Stp (Z H : Hp) (σ : L2.St) (ev : Ev) (Z' H' : Hp) (σ' : L2.St) (ev' : Ev) : Prop where
  zz : Sub Z Z'
  hh : ∀ a o, H a = some o → (∀ i, ¬ Own σ ev i a) → H' a = some o
  zf : ∀ a o, Z' a = some o → Z a = some o ∨ H a = none ∨ ∃ i, Own σ ev i a
  ow : ∀ (i : Nat) (a : Addr), Own σ' ev' i a → H a = none ∨ ∃ j, Own σ ev j a
  bx : ∀ (i : Nat) (ts : List T), ev[i]? = some (.box ts) → σ'[i]? = σ[i]? ∧ ∃ ts', ev'[i]? = some (.box ts')
  th : ∀ (a : Addr) (o : HO), H a = some o → ∃ o', H' a = some o'
  ln : σ'.length = σ.length
theorem Stp.refl {Z H : Hp} {σ : L2.St} {ev : Ev} : Stp Z H σ ev Z H σ ev :=
  ⟨Sub.refl _, fun _ _ h _ => h, fun _ _ h => .inl h, fun i _ h => .inr ⟨i, h⟩, fun _ ts h => ⟨rfl, ts, h⟩, fun _ o h => ⟨o, h⟩, rfl⟩
theorem Stp.trans {Z H Z1 H1 Z2 H2 : Hp} {σ σ1 σ2 : L2.St} {ev ev1 ev2 : Ev} (p : Stp Z H σ ev Z1 H1 σ1 ev1) (q : Stp Z1 H1 σ1 ev1 Z2 H2 σ2 ev2) : Stp Z H σ ev Z2 H2 σ2 ev2 := by
  have back : ∀ a, H1 a = none → H a = none ∨ ∃ j, Own σ ev j a := fun a h => by
    cases e : H a with
    | none => exact .inl rfl
    | some o =>
      by_cases w : ∃ j, Own σ ev j a
      · exact .inr w
      · rw [p.hh a o e fun i k => w ⟨i, k⟩] at h; cases h
  refine ⟨p.zz.trans q.zz, fun a o h n => q.hh a o (p.hh a o h n) fun i k => ?_, fun a o h => ?_, fun i a k => ?_, fun i ts h => ?_, fun a o h => ?_, q.ln.trans p.ln⟩
  · rcases p.ow i a k with z | ⟨j, w⟩
    · rw [z] at h; cases h
    · exact n j w
  · rcases q.zf a o h with z | z | ⟨i, k⟩
    · exact p.zf a o z
    · exact .inr (back a z)
    · exact .inr (p.ow i a k)
  · rcases q.ow i a k with z | ⟨j, w⟩
    · exact back a z
    · exact p.ow j a w
  · obtain ⟨e1, ts1, b1⟩ := p.bx i ts h
    obtain ⟨e2, ts2, b2⟩ := q.bx i ts1 b1
    exact ⟨e2.trans e1, ts2, b2⟩
  · obtain ⟨o1, e1⟩ := p.th a o h
    exact q.th a o1 e1
/-- what is new now was new at the start -/
theorem Stp.fresh {Z H Z1 H1 : Hp} {σ σ1 : L2.St} {ev ev1 : Ev} (p : Stp Z H σ ev Z1 H1 σ1 ev1) {a : Addr} (h : H1 a = none) : H a = none := by
  cases e : H a with
  | none => rfl
  | some o => obtain ⟨o', e'⟩ := p.th a o e; rw [h] at e'; cases e'
/-- not there at the start, or an own thing of it -/
def Fr' (H : Hp) (σ : L2.St) (ev : Ev) (a : Addr) : Prop := H a = none ∨ ∃ j, Own σ ev j a
theorem Fr'.early {Z H Z1 H1 : Hp} {σ σ1 : L2.St} {ev ev1 : Ev} (p : Stp Z H σ ev Z1 H1 σ1 ev1) {a : Addr} (h : Fr' H1 σ1 ev1 a) : Fr' H σ ev a := by
  rcases h with h | ⟨j, w⟩
  · exact .inl (p.fresh h)
  · exact p.ow j a w
end PH
set_option Elab.async false
set_option linter.all false
set_option maxRecDepth 100000
namespace PH
open PySem PySem.Spec PyProof.Rows L2
abbrev gm (X : Cx) : Gm := ⟨X.K, X.mg⟩
section
variable {G : Gm} {W : WX} {Z H Z1 H1 : Hp} {σ σ1 : L2.St} {ev ev1 : Ev}
/-! ### the state behind small steps -/
theorem Own.alt {i : Nat} {a : Addr} (I : StOk G Z H σ ev) (h : Own σ ev i a) {p : Addr} (hp : H p = none) : a ≠ p := fun e => by
  obtain ⟨_, vs, hv⟩ := I.own h
  rw [e, hp] at hv; cases hv
theorem Sub.none (p : Sub Z H) {a : Addr} (h : H a = Option.none) : Z a = Option.none := by
  cases e : Z a with
  | none => rfl
  | some o => rw [p a o e] at h; cases h
/-- the heap grows by a new thing -/
theorem SlOk.heap {s : Sl} {v : Option V} (h : SlOk G Z H s v) (k : ∀ a, oAt s v = some a → H1 a = H a) : SlOk G Z H1 s v := by
  cases s with
  | no => trivial
  | val t => cases v <;> exact h
  | own ts =>
    cases v with
    | none => exact h
    | some v =>
      cases v <;> first | exact h | skip
      obtain ⟨z, vs, e, r⟩ := h
      exact ⟨z, vs, by rw [k _ rfl]; exact e, r⟩
  | box ts =>
    cases v with
    | none => exact h
    | some v =>
      cases v <;> first | exact h | skip
      obtain ⟨z, vs, e, r⟩ := h
      exact ⟨z, vs, by rw [k _ rfl]; exact e, r⟩
theorem SlOk.grow {s : Sl} {v : Option V} (h : SlOk G Z H s v) (p : Sub Z Z1) (k : ∀ a, oAt s v = some a → Z1 a = Z a) : SlOk G Z1 H s v := by
  cases s with
  | no => trivial
  | val t =>
    cases v with
    | none => exact h
    | some v => exact Rep.mono p h
  | own ts =>
    cases v with
    | none => exact h
    | some v =>
      cases v <;> first | exact h | skip
      obtain ⟨z, vs, e, r⟩ := h
      exact ⟨by rw [k _ rfl]; exact z, vs, e, r.mono p⟩
  | box ts =>
    cases v with
    | none => exact h
    | some v =>
      cases v <;> first | exact h | skip
      obtain ⟨z, vs, e, r⟩ := h
      exact ⟨by rw [k _ rfl]; exact z, vs, e, r.mono p⟩
theorem StOk.alloc (I : StOk G Z H σ ev) {p : Addr} {o : HO} (hp : H p = none) : StOk G Z (upd H p o) σ ev := by
  refine ⟨fun a u e => ?_, I.len, fun i s v e1 e2 => (I.slots i s v e1 e2).heap fun a e => ?_, I.dist⟩
  · rw [upd_ne (ne_of_none (I.sub a u e) hp)]; exact I.sub a u e
  · exact upd_ne (Own.alt I ⟨s, v, e1, e2, e⟩ hp)
theorem StOk.freeze (I : StOk G Z H σ ev) {a : Addr} {o : HO} (h : H a = some o) (n : ∀ i, ¬ Own σ ev i a) : StOk G (upd Z a o) H σ ev := by
  have zz : Sub Z (upd Z a o) := fun b u e => by
    by_cases hb : b = a
    · subst hb; rw [upd_same]; have := I.sub _ _ e; rw [h] at this; exact this
    · rw [upd_ne hb]; exact e
  refine ⟨fun b u e => ?_, I.len, fun i s v e1 e2 => (I.slots i s v e1 e2).grow zz fun b e => ?_, I.dist⟩
  · by_cases hb : b = a
    · subst hb; rw [upd_same] at e; cases e; exact h
    · rw [upd_ne hb] at e; exact I.sub b u e
  · exact upd_ne fun hb => n i (hb ▸ ⟨s, v, e1, e2, e⟩)
theorem sub_upd (p : Sub Z H) {a : Addr} {o : HO} (h : H a = none) : Sub Z (upd Z a o) := fun b u e => by
  rw [upd_ne (ne_of_none (p b u e) h)]; exact e
theorem StOk.new (I : StOk G Z H σ ev) {p : Addr} {o : HO} (hp : H p = none) : StOk G (upd Z p o) (upd H p o) σ ev :=
  (I.alloc hp).freeze upd_same fun i w => Own.alt I w hp rfl
theorem Stp.alloc (I : StOk G Z H σ ev) {p : Addr} {o : HO} (hp : H p = none) : Stp Z H σ ev Z (upd H p o) σ ev :=
  ⟨Sub.refl _, fun a u e _ => by rw [upd_ne (ne_of_none e hp)]; exact e, fun a u e => .inl e, fun i a w => .inr ⟨i, w⟩, fun i ts e => ⟨rfl, ts, e⟩, fun a u e => ⟨u, by rw [upd_ne (ne_of_none e hp)]; exact e⟩, rfl⟩
theorem Stp.new (I : StOk G Z H σ ev) {p : Addr} {o : HO} (hp : H p = none) : Stp Z H σ ev (upd Z p o) (upd H p o) σ ev := by
  refine ⟨sub_upd I.sub hp, fun a u e _ => by rw [upd_ne (ne_of_none e hp)]; exact e, fun a u e => ?_, fun i a w => .inr ⟨i, w⟩, fun i ts e => ⟨rfl, ts, e⟩, fun a u e => ⟨u, by rw [upd_ne (ne_of_none e hp)]; exact e⟩, rfl⟩
  by_cases ha : a = p
  · subst ha; exact .inr (.inl hp)
  · rw [upd_ne ha] at e; exact .inl e
/-- freezing what is new since the start -/
theorem Stp.fr {Z' H' : Hp} {σ' : L2.St} {ev' : Ev} (p : Stp Z H σ ev Z' H' σ' ev') (s : Sub Z H) {a : Addr} {o : HO} (h : H a = none) : Stp Z H σ ev (upd Z' a o) H' σ' ev' := by
  refine ⟨fun b u e => ?_, p.hh, fun b u e => ?_, p.ow, p.bx, p.th, p.ln⟩
  · rw [upd_ne (ne_of_none (s b u e) h)]; exact p.zz b u e
  · by_cases hb : b = a
    · subst hb; exact .inr (.inl h)
    · rw [upd_ne hb] at e; exact p.zf b u e

/-! ### wishes -/
def ExPost (G : Gm) (W : WX) (Z H : Hp) (σ : L2.St) (ev : Ev) (c : Str) (fs : List (Str × T)) (ev' : Ev) : Prop :=
  ∀ (C d : Addr) (gs : List (Str × V)) (σ' : L2.St) (Z' H' : Hp), G.mg c = some (.ref C) → StOk G Z' H' σ' ev' → Stp Z H σ ev Z' H' σ' ev' → H' d = some (.xd gs) → RepF G Z' fs gs → W (.ref C) (some d) σ' H'
def Post {α : Type} (G : Gm) (W : WX) (Z H : Hp) (σ : L2.St) (ev : Ev) (r : R (α × Ev)) (ok : α → Ev → Prop) : Prop := match r with
  | .ok p => ok p.1 p.2
  | .exc c fs ev' => ExPost G W Z H σ ev c fs ev'
  | .bad => False
theorem ExPost.later (s : Stp Z H σ ev Z1 H1 σ1 ev1) {c : Str} {fs : List (Str × T)} {ev' : Ev} (h : ExPost G W Z H σ ev c fs ev') : ExPost G W Z1 H1 σ1 ev1 c fs ev' :=
  fun C d gs σ' Z' H' hm I q hd r => h C d gs σ' Z' H' hm I (s.trans q) hd r
/-- one thing behind another -/
theorem Post.bind {α β : Type} {x : R (α × Ev)} {f : α × Ev → R (β × Ev)} {ok : β → Ev → Prop} (h : Post G W Z H σ ev (x.bind f) ok) :
    Post G W Z H σ ev x fun a ev1 => Post G W Z H σ ev (f (a, ev1)) ok := by
  cases x with
  | ok p => exact h
  | exc c fs e => exact h
  | bad => exact h
theorem Post.imp {α : Type} {x : R (α × Ev)} {ok ok' : α → Ev → Prop} (h : Post G W Z H σ ev x ok) (k : ∀ a e, ok a e → ok' a e) : Post G W Z H σ ev x ok' := by
  cases x with
  | ok p => exact k _ _ h
  | exc c fs e => exact h
  | bad => exact h
theorem Post.later {α : Type} {x : R (α × Ev)} {ok ok' : α → Ev → Prop} (s : Stp Z H σ ev Z1 H1 σ1 ev1) (h : Post G W Z H σ ev x ok) (k : ∀ a e, ok a e → ok' a e) : Post G W Z1 H1 σ1 ev1 x ok' := by
  cases x with
  | ok p => exact k _ _ h
  | exc c fs e => exact ExPost.later s h
  | bad => exact h
abbrev OkE (G : Gm) (Z H : Hp) (σ : L2.St) (ev : Ev) (Q : VK) : T → Ev → Prop := fun d ev' => ∀ v Z' H', StOk G Z' H' σ ev' → Stp Z H σ ev Z' H' σ ev' → Rep G Z' d v → Q v H'
abbrev OkB (G : Gm) (Z H : Hp) (σ : L2.St) (ev : Ev) (Q : Bool → Hp → Prop) : Bool → Ev → Prop := fun b ev' => ∀ Z' H', StOk G Z' H' σ ev' → Stp Z H σ ev Z' H' σ ev' → Q b H'
abbrev OkA (G : Gm) (Z H : Hp) (σ : L2.St) (ev : Ev) (Q : List V → Hp → Prop) : List T → Ev → Prop := fun ts ev' => ∀ vs Z' H', StOk G Z' H' σ ev' → Stp Z H σ ev Z' H' σ ev' → Reps G Z' ts vs → Q vs H'
/-- a fresh list, nobody's yet -/
abbrev OkO (G : Gm) (Z H : Hp) (σ : L2.St) (ev : Ev) (Q : VK) : List T → Ev → Prop := fun ts ev' => ∀ a vs Z' H', StOk G Z' H' σ ev' → Stp Z H σ ev Z' H' σ ev' → H a = none → Z' a = none → (∀ i, ¬ Own σ ev' i a) → H' a = some (.lst vs) → Reps G Z' ts vs → Q (.ref a) H'
def SE (G : Gm) (W : WX) (t : TE) (τ : Ev → R (T × Ev)) : Prop := ∀ Z H σ ev Q, StOk G Z H σ ev → Post G W Z H σ ev (τ ev) (OkE G Z H σ ev Q) → t σ H Q
def SB (G : Gm) (W : WX) (t : TT) (τ : Ev → R (Bool × Ev)) : Prop := ∀ Z H σ ev Q, StOk G Z H σ ev → Post G W Z H σ ev (τ ev) (OkB G Z H σ ev Q) → t σ H Q
def SA (G : Gm) (W : WX) (t : TA) (τ : Ev → R (List T × Ev)) : Prop := ∀ Z H σ ev Q, StOk G Z H σ ev → Post G W Z H σ ev (τ ev) (OkA G Z H σ ev Q) → t σ H Q
def SO (G : Gm) (W : WX) (t : TE) (τ : Ev → R (List T × Ev)) : Prop := ∀ Z H σ ev Q, StOk G Z H σ ev → Post G W Z H σ ev (τ ev) (OkO G Z H σ ev Q) → t σ H Q
end
structure XE (X : Cx) (W : WX) (e : Expr) (τ : Ev → R (T × Ev)) : Prop where
  ex : ∃ t, PE X e t ∧ SE (gm X) W t τ
structure XT (X : Cx) (W : WX) (e : Expr) (τ : Ev → R (Bool × Ev)) : Prop where
  ex : ∃ t, PT X e t ∧ SB (gm X) W t τ
structure XW (X : Cx) (W : WX) (e : Expr) (τ : Ev → R (Bool × Ev)) : Prop where
  ex : ∃ t, PW X e t ∧ SB (gm X) W t τ
structure XA (X : Cx) (W : WX) (es : List Expr) (τ : Ev → R (List T × Ev)) : Prop where
  ex : ∃ t, PA X es t ∧ SA (gm X) W t τ
structure XO (X : Cx) (W : WX) (e : Expr) (τ : Ev → R (List T × Ev)) : Prop where
  ex : ∃ t, PE X e t ∧ SO (gm X) W t τ
abbrev XR := Ev → R (T × Ev)
abbrev XRB := Ev → R (Bool × Ev)
abbrev XRL := Ev → R (List T × Ev)

section
variable {G : Gm} {W : WX}
/-- from the reading of one part to the reading of the whole: the state moves on -/
theorem SE.next {t : TE} {τ : XR} (h : SE G W t τ) {Z0 H0 Z H : Hp} {σ : L2.St} {ev0 ev : Ev} {α : Type} {Q : VK} {f : T × Ev → R (α × Ev)} {ok : α → Ev → Prop} (I : StOk G Z H σ ev) (s : Stp Z0 H0 σ ev0 Z H σ ev)
    (p : Post G W Z0 H0 σ ev0 ((τ ev).bind f) ok)
    (k : ∀ d ev' v Z' H', StOk G Z' H' σ ev' → Stp Z0 H0 σ ev0 Z' H' σ ev' → Stp Z H σ ev Z' H' σ ev' → Rep G Z' d v → Post G W Z0 H0 σ ev0 (f (d, ev')) ok → Q v H') : t σ H Q := by
  refine h Z H σ ev Q I ?_
  refine Post.later s (Post.bind p) fun d ev' q v Z' H' I' s' r => ?_
  exact k d ev' v Z' H' I' (s.trans s') s' r q
theorem SB.next {t : TT} {τ : XRB} (h : SB G W t τ) {Z0 H0 Z H : Hp} {σ : L2.St} {ev0 ev : Ev} {α : Type} {Q : Bool → Hp → Prop} {f : Bool × Ev → R (α × Ev)} {ok : α → Ev → Prop} (I : StOk G Z H σ ev) (s : Stp Z0 H0 σ ev0 Z H σ ev)
    (p : Post G W Z0 H0 σ ev0 ((τ ev).bind f) ok)
    (k : ∀ d ev' Z' H', StOk G Z' H' σ ev' → Stp Z0 H0 σ ev0 Z' H' σ ev' → Stp Z H σ ev Z' H' σ ev' → Post G W Z0 H0 σ ev0 (f (d, ev')) ok → Q d H') : t σ H Q := by
  refine h Z H σ ev Q I ?_
  refine Post.later s (Post.bind p) fun d ev' q Z' H' I' s' => ?_
  exact k d ev' Z' H' I' (s.trans s') s' q
theorem SA.next {t : TA} {τ : XRL} (h : SA G W t τ) {Z0 H0 Z H : Hp} {σ : L2.St} {ev0 ev : Ev} {α : Type} {Q : List V → Hp → Prop} {f : List T × Ev → R (α × Ev)} {ok : α → Ev → Prop} (I : StOk G Z H σ ev) (s : Stp Z0 H0 σ ev0 Z H σ ev)
    (p : Post G W Z0 H0 σ ev0 ((τ ev).bind f) ok)
    (k : ∀ d ev' v Z' H', StOk G Z' H' σ ev' → Stp Z0 H0 σ ev0 Z' H' σ ev' → Stp Z H σ ev Z' H' σ ev' → Reps G Z' d v → Post G W Z0 H0 σ ev0 (f (d, ev')) ok → Q v H') : t σ H Q := by
  refine h Z H σ ev Q I ?_
  refine Post.later s (Post.bind p) fun d ev' q v Z' H' I' s' r => ?_
  exact k d ev' v Z' H' I' (s.trans s') s' r q
theorem SO.next {t : TE} {τ : XRL} (h : SO G W t τ) {Z0 H0 Z H : Hp} {σ : L2.St} {ev0 ev : Ev} {α : Type} {Q : VK} {f : List T × Ev → R (α × Ev)} {ok : α → Ev → Prop} (I : StOk G Z H σ ev) (s : Stp Z0 H0 σ ev0 Z H σ ev)
    (p : Post G W Z0 H0 σ ev0 ((τ ev).bind f) ok)
    (k : ∀ d ev' a vs Z' H', StOk G Z' H' σ ev' → Stp Z0 H0 σ ev0 Z' H' σ ev' → Stp Z H σ ev Z' H' σ ev' → H a = none → Z' a = none → (∀ i, ¬ Own σ ev' i a) → H' a = some (.lst vs) → Reps G Z' d vs → Post G W Z0 H0 σ ev0 (f (d, ev')) ok → Q (.ref a) H') : t σ H Q := by
  refine h Z H σ ev Q I ?_
  refine Post.later s (Post.bind p) fun d ev' q a vs Z' H' I' s' h1 h2 h3 h4 r => ?_
  exact k d ev' a vs Z' H' I' (s.trans s') s' h1 h2 h3 h4 r q
end
/-! ### constants, names -/
def kT (t : T) : XR := fun ev => .ok (t, ev)
section
variable {X : Cx} {W : WX} {pos : Pos}
theorem SE.const {G : Gm} {v : V} {t : T} (r : ∀ Z, Rep G Z t v) : SE G W (tC v) (kT t) := fun Z H σ ev Q I p => p v Z H I Stp.refl (r Z)
theorem xe_int {i : Int} {j} : XE X W (.Constant (.int i) j pos) (kT (.int i)) := ⟨_, pe_int, SE.const fun _ => .int i⟩
theorem xe_bl {b : Bool} {j} : XE X W (.Constant (.bool b) j pos) (kT (.bl b)) := ⟨_, pe_bl, SE.const fun _ => .bl b⟩
theorem xe_non {j} : XE X W (.Constant .none j pos) (kT .non) := ⟨_, pe_non, SE.const fun _ => .non⟩
theorem xe_str {x : Str} {j} : XE X W (.Constant (.str x) j pos) (kT (.str x)) := ⟨_, pe_str, SE.const fun _ => .str x⟩
/-- a module's constant that is flat or an object of the written part -/
theorem xe_glob {x : Str} {v : V} {u : Value} {t : T} (hg : Gl X x) (hm : X.mg x = some u) (r : RelV v u) (q : ∀ Z, Rep (gm X) Z t v) (hd : (x == ("__debug__" : Str)) = false := by decide) : XE X W (.Name x pos) (kT t) :=
  ⟨_, pe_glob hg hm r hd, SE.const q⟩
/-- a name is read: an own list is given away -/
def rd (i : Nat) : XR := fun ev => match ev[i]? with
  | some (.val t) => .ok (t, ev)
  | some (.own ts) => .ok (.lst ts, ev.set i (.val (.lst ts)))
  | _ => .bad
theorem StOk.at {G : Gm} {Z H : Hp} {σ : L2.St} {ev : Ev} (I : StOk G Z H σ ev) {i : Nat} {s : Sl} (h : ev[i]? = some s) : ∃ v, σ[i]? = some v ∧ SlOk G Z H s v := by
  have hl : i < σ.length := by rw [← I.len]; exact (List.getElem?_eq_some_iff.mp h).1
  exact ⟨_, List.getElem?_eq_getElem hl, I.slots i s _ h (List.getElem?_eq_getElem hl)⟩
theorem StOk.ownAt {G : Gm} {Z H : Hp} {σ : L2.St} {ev : Ev} (I : StOk G Z H σ ev) {i : Nat} {ts : List T} (h : ev[i]? = some (.own ts)) : ∃ a vs, σ[i]? = some (some (.ref a)) ∧ Z a = none ∧ H a = some (.lst vs) ∧ Reps G Z ts vs ∧ Own σ ev i a := by
  obtain ⟨v, e, s⟩ := I.at h
  cases v with
  | none => exact (show False from s).elim
  | some v =>
    cases v <;> first | exact (show False from s).elim | skip
    obtain ⟨z, vs, hv, r⟩ := s
    exact ⟨_, vs, e, z, hv, r, _, _, h, e, rfl⟩
theorem StOk.boxAt {G : Gm} {Z H : Hp} {σ : L2.St} {ev : Ev} (I : StOk G Z H σ ev) {i : Nat} {ts : List T} (h : ev[i]? = some (.box ts)) : ∃ a vs, σ[i]? = some (some (.ref a)) ∧ Z a = none ∧ H a = some (.lst vs) ∧ Reps G Z ts vs ∧ Own σ ev i a := by
  obtain ⟨v, e, s⟩ := I.at h
  cases v with
  | none => exact (show False from s).elim
  | some v =>
    cases v <;> first | exact (show False from s).elim | skip
    obtain ⟨z, vs, hv, r⟩ := s
    exact ⟨_, vs, e, z, hv, r, _, _, h, e, rfl⟩
theorem own_set {σ : L2.St} {ev : Ev} {i j : Nat} {s : Sl} {a : Addr} (h : Own σ (ev.set i s) j a) : (j = i ∧ ∃ v, σ[i]? = some v ∧ oAt s v = some a) ∨ (j ≠ i ∧ Own σ ev j a) := by
  obtain ⟨s', v, e1, e2, e3⟩ := h
  by_cases hj : j = i
  · subst hj
    have hl : j < ev.length := by
      have := (List.getElem?_eq_some_iff.mp e1).1
      simpa using this
    rw [List.getElem?_set_self hl] at e1
    cases e1
    exact .inl ⟨rfl, v, e2, e3⟩
  · rw [List.getElem?_set_ne (Ne.symm hj)] at e1
    exact .inr ⟨hj, s', v, e1, e2, e3⟩
/-- the own list in slot i is given away -/
theorem StOk.give {G : Gm} {Z H : Hp} {σ : L2.St} {ev : Ev} (I : StOk G Z H σ ev) {i : Nat} {ts : List T} {a : Addr} {vs : List V} (h : ev[i]? = some (.own ts)) (hσ : σ[i]? = some (some (.ref a))) (z : Z a = none) (hv : H a = some (.lst vs)) (r : Reps G Z ts vs) :
    StOk G (upd Z a (.lst vs)) H σ (ev.set i (.val (.lst ts))) ∧ Stp Z H σ ev (upd Z a (.lst vs)) H σ (ev.set i (.val (.lst ts))) ∧ Rep G (upd Z a (.lst vs)) (.lst ts) (.ref a) := by
  have zz : Sub Z (upd Z a (.lst vs)) := fun b u e => by rw [upd_ne (ne_of_none e z)]; exact e
  have rp : Rep G (upd Z a (.lst vs)) (.lst ts) (.ref a) := .lst upd_same (r.mono zz)
  have w : Own σ ev i a := ⟨_, _, h, hσ, rfl⟩
  have back : ∀ j b, Own σ (ev.set i (.val (.lst ts))) j b → j ≠ i ∧ Own σ ev j b := fun j b q => by
    rcases own_set q with ⟨rfl, v, _, e3⟩ | q
    · cases e3
    · exact q
  refine ⟨⟨fun b u e => ?_, by rw [List.length_set]; exact I.len, fun j s v e1 e2 => ?_, fun j k b p q => I.dist j k b (back j b p).2 (back k b q).2⟩, ⟨zz, fun b o e _ => e, fun b o e => ?_, fun j b q => .inr ⟨j, (back j b q).2⟩, fun j us e => ⟨rfl, us, ?_⟩, fun b o e => ⟨o, e⟩, rfl⟩, rp⟩
  · by_cases hb : b = a
    · subst hb; rw [upd_same] at e; cases e; exact hv
    · rw [upd_ne hb] at e; exact I.sub b u e
  · by_cases hj : j = i
    · subst hj
      have hl : j < ev.length := (List.getElem?_eq_some_iff.mp h).1
      rw [List.getElem?_set_self hl] at e1
      cases e1
      rw [hσ] at e2; cases e2
      exact rp
    · rw [List.getElem?_set_ne (Ne.symm hj)] at e1
      exact (I.slots j s v e1 e2).grow zz fun b e => upd_ne fun hb => hj (I.dist j i a (hb ▸ ⟨s, v, e1, e2, e⟩) w)
  · by_cases hb : b = a
    · subst hb; exact .inr (.inr ⟨i, w⟩)
    · rw [upd_ne hb] at e; exact .inl e
  · have hj : j ≠ i := fun hj => by subst hj; rw [h] at e; cases e
    rw [List.getElem?_set_ne (Ne.symm hj)]; exact e
theorem SE.var {G : Gm} (i : Nat) : SE G W (tVar i) (rd i) := fun Z H σ ev Q I p => by
  unfold rd at p
  split at p
  · rename_i t e
    obtain ⟨v, e2, s⟩ := I.at e
    cases v with
    | none => exact (show False from s).elim
    | some v => exact ⟨v, e2, p v Z H I Stp.refl s⟩
  · rename_i ts e
    obtain ⟨a, vs, e2, z, hv, r, _⟩ := I.ownAt e
    obtain ⟨I', s', r'⟩ := I.give e e2 z hv r
    exact ⟨.ref a, e2, p _ _ _ I' s' r'⟩
  · exact (show False from p).elim
theorem xe_name (i : Nat) {x : Str} (hN : X.N[i]? = some x := by rfl) (hv : Vis X.env.scope x := by first | exact Or.inl rfl | exact Or.inr (Or.inl rfl) | exact Or.inr (Or.inr rfl)) (hd : (x == ("__debug__" : Str)) = false := by decide)
    (hcd : (x == ("__classdict__" : Str)) = false := by decide) : XE X W (.Name x pos) (rd i) := ⟨_, pe_var hN hv hd hcd, SE.var i⟩
end
/-! ### operations on trees -/
def R.ofO {α : Type} (o : Option α) (ev : Ev) : R (α × Ev) := match o with
  | some d => .ok (d, ev)
  | none => .bad
@[simp] theorem R.ofO_some {α : Type} (d : α) (ev : Ev) : R.ofO (some d) ev = .ok (d, ev) := rfl
@[simp] theorem R.ofO_none {α : Type} (ev : Ev) : R.ofO (none : Option α) ev = .bad := rfl
theorem post_some {G : Gm} {W : WX} {α : Type} {Z H : Hp} {σ : L2.St} {ev ev' : Ev} {o : Option α} {ok : α → Ev → Prop} (q : Post G W Z H σ ev (R.ofO o ev') ok) : ∃ d, o = some d ∧ ok d ev' := by
  cases o with
  | none => exact q.elim
  | some d => exact ⟨d, rfl, q⟩
def e1 (f : T → Option T) (τ : XR) : XR := fun ev => (τ ev).bind fun p => R.ofO (f p.1) p.2
def e2 (f : T → T → Option T) (τa τb : XR) : XR := fun ev => (τa ev).bind fun p => (τb p.2).bind fun q => R.ofO (f p.1 q.1) q.2
/-- what an operation by values does on trees -/
def Op1 (G : Gm) (r : V → Hp → VK → Prop) (f : T → Option T) : Prop := ∀ Z H σ ev x tx d Q, StOk G Z H σ ev → Rep G Z tx x → f tx = some d → (OkE G Z H σ ev Q d ev) → r x H Q
def Op2 (G : Gm) (r : R2) (f : T → T → Option T) : Prop := ∀ Z H σ ev x y tx ty d Q, StOk G Z H σ ev → Rep G Z tx x → Rep G Z ty y → f tx ty = some d → (OkE G Z H σ ev Q d ev) → r x y H Q
section
variable {X : Cx} {W : WX} {pos : Pos} {a b : Expr} {τa τb : XR}
theorem SE.op1 {G : Gm} {r : V → Hp → VK → Prop} {f : T → Option T} {ta : TE} (k : Op1 G r f) (ha : SE G W ta τa) : SE G W (tUn r ta) (e1 f τa) := fun Z H σ ev Q I p => by
  show ta σ H fun x H1 => r x H1 Q
  refine ha.next I Stp.refl p fun d ev' v Z' H' I' s _ rp q => ?_
  obtain ⟨y, e, q⟩ := post_some q
  exact k Z' H' σ ev' v d y Q I' rp e fun v2 Z2 H2 I2 s2 r2 => q v2 Z2 H2 I2 (s.trans s2) r2
theorem SE.op2 {G : Gm} {r : R2} {f : T → T → Option T} {ta tb : TE} (k : Op2 G r f) (ha : SE G W ta τa) (hb : SE G W tb τb) : SE G W (tOp r ta tb) (e2 f τa τb) := fun Z H σ ev Q I p => by
  refine ha.next I Stp.refl p fun d ev' v Z' H' I' s _ rp q => ?_
  refine hb.next I' s q fun d2 ev2 v2 Z2 H2 I2 s2 s12 rp2 q2 => ?_
  obtain ⟨y, e, q⟩ := post_some q2
  exact k Z2 H2 σ ev2 v v2 d d2 y Q I2 (rp.mono s12.zz) rp2 e fun v3 Z3 H3 I3 s3 r3 => q v3 Z3 H3 I3 (s2.trans s3) r3
theorem xe_op {op : Operator} {r : R2} {f : T → T → Option T} (ho : OpR X (binaryOp op) r) (k : Op2 (gm X) r f) (ha : XE X W a τa) (hb : XE X W b τb) : XE X W (.BinOp a op b pos) (e2 f τa τb) := by
  obtain ⟨ta, pa, sa⟩ := ha
  obtain ⟨tb, pb, sb⟩ := hb
  exact ⟨_, pe_op ho pa pb, SE.op2 k sa sb⟩
theorem xe_un {op : UnaryOp} {r : V → Hp → VK → Prop} {f : T → Option T} (ho : UnR X (unaryOp op) r) (k : Op1 (gm X) r f) (ha : XE X W a τa) : XE X W (.UnaryOp op a pos) (e1 f τa) := by
  obtain ⟨ta, pa, sa⟩ := ha
  exact ⟨tUn r ta, pe_un ho pa, SE.op1 k sa⟩
theorem xe_cmp {op : CmpOp} {r : R2} {f : T → T → Option T} (ho : OpR X (compareOp op) r) (k : Op2 (gm X) r f) (ha : XE X W a τa) (hb : XE X W b τb) (hm : behindInMarks op b = false) : XE X W (.Compare a [op] [b] pos) (e2 f τa τb) := by
  obtain ⟨ta, pa, sa⟩ := ha
  obtain ⟨tb, pb, sb⟩ := hb
  exact ⟨_, pe_cmpR ho pa pb hm, SE.op2 k sa sb⟩
end
end PH
set_option Elab.async false
set_option linter.all false
set_option maxRecDepth 100000
namespace PH
open PySem PySem.Spec PyProof.Rows L2
/-! ### trees as the library's data -/
mutual
def T.toD : T → Option PyData
  | .non => some .none
  | .bl b => some (.bool b)
  | .int i => some (.int i)
  | .str x => some (.str x)
  | .tup xs => (toDs xs).map .tuple
  | .lst xs => (toDs xs).map .list
  | .ro _ => none
  | .ins _ _ => none
  | .ty _ => none
  | .cls _ => none
def toDs : List T → Option (List PyData)
  | [] => some []
  | x :: xs => match x.toD, toDs xs with
    | some d, some ds => some (d :: ds)
    | _, _ => none
end
section
variable {G : Gm} {Z H : Hp}
mutual
theorem Rep.dp : ∀ {t : T} {v : V} {d : PyData}, Rep G Z t v → t.toD = some d → Dp G.K Z v d
  | _, _, _, .non, h => by cases h; exact .non
  | _, _, _, .bl b, h => by cases h; exact .bl b
  | _, _, _, .int i, h => by cases h; exact .int i
  | _, _, _, .str x, h => by cases h; exact .str x
  | .tup ts, _, _, .tup q r, h => by
    cases e : toDs ts with
    | none => simp [T.toD, e] at h
    | some ds => simp [T.toD, e] at h; subst h; exact .tup q (Reps.dp r e)
  | .lst ts, _, _, .lst q r, h => by
    cases e : toDs ts with
    | none => simp [T.toD, e] at h
    | some ds => simp [T.toD, e] at h; subst h; exact .lst (SqL.of q) (Reps.dp r e)
  | _, _, _, .ro _, h => by cases h
  | _, _, _, .ins _ _ _, h => by cases h
  | _, _, _, .ty _, h => by cases h
  | _, _, _, .cls _, h => by cases h
theorem Reps.dp : ∀ {ts : List T} {vs : List V} {ds : List PyData}, Reps G Z ts vs → toDs ts = some ds → DpAll G.K Z vs ds
  | _, _, _, .nil, h => by cases h; exact .nil
  | t :: ts, _, _, .cons r rs, h => by
    cases e : t.toD with
    | none => simp [toDs, e] at h
    | some d =>
      cases e2 : toDs ts with
      | none => simp [toDs, e, e2] at h
      | some ds => simp [toDs, e, e2] at h; subst h; exact .cons (Rep.dp r e) (Reps.dp rs e2)
end
mutual
theorem Dp.mono {K : PySem.W.Frag} (p : Sub Z H) : ∀ {v : V} {d : PyData}, Dp K Z v d → Dp K H v d
  | _, _, .non => .non
  | _, _, .bl b => .bl b
  | _, _, .int i => .int i
  | _, _, .str x => .str x
  | _, _, .lst q r => .lst (p.sqL q) (DpAll.mono p r)
  | _, _, .tup q r => .tup (p.sqT q) (DpAll.mono p r)
theorem DpAll.mono {K : PySem.W.Frag} (p : Sub Z H) : ∀ {vs : List V} {ds : List PyData}, DpAll K Z vs ds → DpAll K H vs ds
  | _, _, .nil => .nil
  | _, _, .cons r rs => .cons (Dp.mono p r) (DpAll.mono p rs)
end
theorem Rep.tupE {ts : List T} {v : V} (h : Rep G Z (.tup ts) v) : ∃ a vs, v = .ref a ∧ SqT G.K Z a vs ∧ Reps G Z ts vs := by cases h with | tup a b => exact ⟨_, _, rfl, a, b⟩
theorem Rep.lstE {ts : List T} {v : V} (h : Rep G Z (.lst ts) v) : ∃ a vs, v = .ref a ∧ Z a = some (.lst vs) ∧ Reps G Z ts vs := by cases h with | lst a b => exact ⟨_, _, rfl, a, b⟩
theorem Rep.intE {i : Int} {v : V} (h : Rep G Z (.int i) v) : v = .int i := by cases h; rfl
theorem Rep.blE {i : Bool} {v : V} (h : Rep G Z (.bl i) v) : v = .bl i := by cases h; rfl
theorem Rep.strE {i : Str} {v : V} (h : Rep G Z (.str i) v) : v = .str i := by cases h; rfl
theorem Rep.nonE {v : V} (h : Rep G Z .non v) : v = .non := by cases h; rfl
theorem Rep.roE {ns : List Int} {v : V} (h : Rep G Z (.ro ns) v) : ∃ a, v = .ref a ∧ SqL G.K Z a (ns.map V.int) := by cases h with | ro a => exact ⟨_, rfl, a⟩
/-- the items of a list or a tuple -/
def T.items : T → Option (List T)
  | .tup xs => some xs
  | .lst xs => some xs
  | .ro ns => some (ns.map .int)
  | _ => none
theorem Rep.seq {t : T} {v : V} {ts : List T} (h : Rep G Z t v) (e : t.items = some ts) : ∃ a vs, v = .ref a ∧ (SqL G.K Z a vs ∨ SqT G.K Z a vs) ∧ Reps G Z ts vs := by
  cases h with
  | tup q r => cases e; exact ⟨_, _, rfl, .inr q, r⟩
  | lst q r => cases e; exact ⟨_, _, rfl, .inl (SqL.of q), r⟩
  | ro q => cases e; exact ⟨_, _, rfl, .inl q, Reps.ofInts _⟩
  | _ => cases e
end
section
variable {X : Cx} {G : Gm}
/-- a flat answer -/
theorem OkE.flat {Z H : Hp} {σ : L2.St} {ev : Ev} {Q : VK} {t : T} {v : V} (I : StOk G Z H σ ev) (q : OkE G Z H σ ev Q t ev) (r : Rep G Z t v) : Q v H := q v Z H I Stp.refl r
/-- a new tuple -/
theorem OkE.newTup {Z H : Hp} {σ : L2.St} {ev : Ev} {Q : VK} {ts : List T} {vs : List V} (I : StOk G Z H σ ev) (q : OkE G Z H σ ev Q (.tup ts) ev) (r : Reps G Z ts vs) {p : Addr} (hp : H p = none) : Q (.ref p) (upd H p (.tup vs)) :=
  q _ _ _ (I.new hp) (Stp.new I hp) (.tup (SqT.of upd_same) (r.mono (sub_upd I.sub hp)))
theorem OkE.newLst {Z H : Hp} {σ : L2.St} {ev : Ev} {Q : VK} {ts : List T} {vs : List V} (I : StOk G Z H σ ev) (q : OkE G Z H σ ev Q (.lst ts) ev) (r : Reps G Z ts vs) {p : Addr} (hp : H p = none) : Q (.ref p) (upd H p (.lst vs)) :=
  q _ _ _ (I.new hp) (Stp.new I hp) (.lst upd_same (r.mono (sub_upd I.sub hp)))
theorem OkO.new {Z H Z0 H0 : Hp} {σ : L2.St} {ev0 ev : Ev} {Q : VK} {ts : List T} {vs : List V} (I : StOk G Z H σ ev) (s : Stp Z0 H0 σ ev0 Z H σ ev) (q : OkO G Z0 H0 σ ev0 Q ts ev) (r : Reps G Z ts vs) {p : Addr} (hp : H p = none) : Q (.ref p) (upd H p (.lst vs)) := by
  exact q p vs Z _ (I.alloc hp) (s.trans (Stp.alloc I hp)) (s.fresh hp) (I.sub.none hp) (fun i w => Own.alt I w hp rfl) upd_same r
end
end PH
set_option Elab.async false
set_option linter.all false
set_option maxRecDepth 100000
namespace PH
open PySem PySem.Spec PyProof.Rows L2
/-! ### what operators do on trees -/
def tAdd : T → T → Option T
  | .int i, .int j => some (.int (i + j))
  | .str i, .str j => if i.length + j.length ≤ sizeLine then some (.str (i ++ j)) else none
  | .tup xs, .tup ys => if xs.length + ys.length ≤ sizeLine then some (.tup (xs ++ ys)) else none
  | .lst xs, .lst ys => if xs.length + ys.length ≤ sizeLine then some (.lst (xs ++ ys)) else none
  | _, _ => none
def tSub : T → T → Option T
  | .int i, .int j => some (.int (i - j))
  | _, _ => none
def tMul : T → T → Option T
  | .int i, .int j => if i.natAbs.log2 + j.natAbs.log2 < 1000000 then some (.int (i * j)) else none
  | .lst xs, .int k => if -(2 ^ 63) ≤ k ∧ k < 2 ^ 63 ∧ xs.length * k.toNat ≤ sizeLine then some (.lst (List.replicate k.toNat xs).flatten) else none
  | _, _ => none
def tDiv : T → T → Option T
  | .int i, .int j => if j ≠ 0 ∧ j.natAbs.log2 < 9000 then some (.int (i.fdiv j)) else none
  | _, _ => none
def tMod : T → T → Option T
  | .int i, .int j => if j ≠ 0 then some (.int (i.fmod j)) else none
  | _, _ => none
def tPow : T → T → Option T
  | .int i, .int j => if 0 ≤ j ∧ j ≤ 1000000 ∧ i.natAbs < 2 ^ 64 then some (.int (i ^ j.toNat)) else none
  | _, _ => none
def tNeg : T → Option T
  | .int i => some (.int (-i))
  | _ => none
def tOrd (p : Int → Int → Bool) : T → T → Option T
  | .int i, .int j => some (.bl (p i j))
  | _, _ => none
abbrev tLt := tOrd fun i j => decide (i < j)
abbrev tLe := tOrd fun i j => decide (i ≤ j)
abbrev tGt := tOrd fun i j => decide (j < i)
abbrev tGe := tOrd fun i j => decide (j ≤ i)
def tEqB : T → T → Option Bool
  | .int i, .int j => some (decide (i = j))
  | .str i, .str j => some (decide (i = j))
  | .bl i, .bl j => some (decide (i = j))
  | x, y => match x.toD, y.toD with
    | some d, some e => if SeqAt.shaped d = true ∧ SeqAt.shaped e = true then some (PyData.eqv d e) else none
    | _, _ => none
def tEq (x y : T) : Option T := (tEqB x y).map .bl
def tNe (x y : T) : Option T := (tEqB x y).map fun b => .bl (!b)
def T.isNon : T → Bool
  | .non => true
  | _ => false
def tIsN (x : T) : T → Option T
  | .non => some (.bl x.isNon)
  | _ => none
def tNotN (x : T) : T → Option T
  | .non => some (.bl (!x.isNon))
  | _ => none
def tIsB : T → T → Option T
  | .bl a, .bl b => some (.bl (decide (a = b)))
  | _, _ => none
/-- one sign in a text -/
def tInS : T → T → Option T
  | .str x, .str z => match x.cps.toList with
    | [c] => some (.bl (decide (c ∈ z.cps.toList)))
    | _ => none
  | _, _ => none
def tNotInS (x z : T) : Option T := (tInS x z).bind fun t => match t with
  | .bl b => some (.bl (!b))
  | _ => none
section
variable {X : Cx} {G : Gm}
def CDivX (i j : Int) : Prop := j ≠ 0 ∧ j.natAbs.log2 < 9000
theorem op_fdivX : OpR X (binaryOp .FloorDiv) (rI CDivX fun i j => .int (i.fdiv j)) := opI fun i j _ _ _ _ _ hc q =>
  floordiv_int hc.1 q (.inl (PyProof.noPylong_of_log2 hc.2))
def rAddX (K : PySem.W.Frag) : R2 := fun x y H Q => (rI0 fun i j => .int (i + j)) x y H Q ∨ (∃ i j, x = .str i ∧ y = .str j ∧ i.length + j.length ≤ sizeLine ∧ Q (.str (i ++ j)) H) ∨ rCatA K x y H Q ∨ rCat x y H Q
theorem op_addX : OpR X (binaryOp .Add) (rAddX X.K) := OpR.or op_add (OpR.or op_add_str (OpR.or op_catA op_cat))
theorem t_add : Op2 G (rAddX G.K) tAdd := by
  intro Z H σ ev x y tx ty d Q I rx ry e q
  unfold tAdd at e
  split at e
  · cases e; cases rx.intE; cases ry.intE
    exact .inl ⟨_, _, rfl, rfl, OkE.flat I q (.int _)⟩
  · split at e
    · cases e; cases rx.strE; cases ry.strE
      exact .inr (.inl ⟨_, _, rfl, rfl, ‹_›, OkE.flat I q (.str _)⟩)
    · cases e
  · split at e
    · rename_i xs ys hz
      cases e
      obtain ⟨a, vs, rfl, sa, ra⟩ := rx.tupE
      obtain ⟨b, ws, rfl, sb, rb⟩ := ry.tupE
      refine .inr (.inr (.inl ⟨a, b, vs, ws, rfl, rfl, I.sub.sqT sa, I.sub.sqT sb, by rw [← ra.length, ← rb.length]; exact hz, fun hn => ?_, fun _ hn => ?_, fun _ _ p hp => ?_⟩))
      · subst hn
        cases ra
        exact q _ _ _ I Stp.refl (.tup sb rb)
      · subst hn
        cases rb
        rw [List.append_nil] at q
        exact q _ _ _ I Stp.refl (.tup sa ra)
      · exact OkE.newTup I q (ra.append rb) hp
    · cases e
  · split at e
    · rename_i xs ys hz
      cases e
      obtain ⟨a, vs, rfl, sa, ra⟩ := rx.lstE
      obtain ⟨b, ws, rfl, sb, rb⟩ := ry.lstE
      exact .inr (.inr (.inr ⟨a, b, vs, ws, rfl, rfl, I.sub _ _ sa, I.sub _ _ sb, by rw [← ra.length, ← rb.length]; exact hz, fun p hp => OkE.newLst I q (ra.append rb) hp⟩))
    · cases e
  · cases e
theorem t_sub : Op2 G (rI0 fun i j => .int (i - j)) tSub := by
  intro Z H σ ev x y tx ty d Q I rx ry e q
  unfold tSub at e
  split at e
  · cases e; cases rx.intE; cases ry.intE
    exact ⟨_, _, rfl, rfl, OkE.flat I q (.int _)⟩
  · cases e
def rMulX : R2 := fun x y H Q => (rI CMulW fun i j => .int (i * j)) x y H Q ∨ rRep x y H Q
theorem op_mulX : OpR X (binaryOp .Mult) rMulX := OpR.or op_mulW op_rep
theorem t_mul : Op2 G rMulX tMul := by
  intro Z H σ ev x y tx ty d Q I rx ry e q
  unfold tMul at e
  split at e
  · split at e
    · cases e; cases rx.intE; cases ry.intE
      exact .inl ⟨_, _, rfl, rfl, ‹_›, OkE.flat I q (.int _)⟩
    · cases e
  · split at e
    · rename_i hz
      cases e
      cases ry.intE
      obtain ⟨a, vs, rfl, sa, ra⟩ := rx.lstE
      exact .inr ⟨a, _, vs, rfl, rfl, I.sub _ _ sa, hz.1, hz.2.1, by rw [← ra.length]; exact hz.2.2, fun p hp => OkE.newLst I q (ra.rep _) hp⟩
    · cases e
  · cases e
theorem t_div : Op2 G (rI CDivX fun i j => .int (i.fdiv j)) tDiv := by
  intro Z H σ ev x y tx ty d Q I rx ry e q
  unfold tDiv at e
  split at e
  · split at e
    · cases e; cases rx.intE; cases ry.intE
      exact ⟨_, _, rfl, rfl, ‹_›, OkE.flat I q (.int _)⟩
    · cases e
  · cases e
theorem t_mod : Op2 G (rI (fun _ j => j ≠ 0) fun i j => .int (i.fmod j)) tMod := by
  intro Z H σ ev x y tx ty d Q I rx ry e q
  unfold tMod at e
  split at e
  · split at e
    · cases e; cases rx.intE; cases ry.intE
      exact ⟨_, _, rfl, rfl, ‹_›, OkE.flat I q (.int _)⟩
    · cases e
  · cases e
theorem t_pow : Op2 G (rI CPow fun i j => .int (i ^ j.toNat)) tPow := by
  intro Z H σ ev x y tx ty d Q I rx ry e q
  unfold tPow at e
  split at e
  · split at e
    · cases e; cases rx.intE; cases ry.intE
      exact ⟨_, _, rfl, rfl, ‹_›, OkE.flat I q (.int _)⟩
    · cases e
  · cases e
theorem t_neg : Op1 G (rU fun i => .int (-i)) tNeg := by
  intro Z H σ ev x tx d Q I rx e q
  unfold tNeg at e
  split at e
  · cases e; cases rx.intE
    exact ⟨_, rfl, OkE.flat I q (.int _)⟩
  · cases e
theorem t_ord {p : Int → Int → Bool} : Op2 G (rI0 fun i j => .bl (p i j)) (tOrd p) := by
  intro Z H σ ev x y tx ty d Q I rx ry e q
  unfold tOrd at e
  split at e
  · cases e; cases rx.intE; cases ry.intE
    exact ⟨_, _, rfl, rfl, OkE.flat I q (.bl _)⟩
  · cases e
def rEqX (K : PySem.W.Frag) : R2 := fun x y H Q => rEq x y H Q ∨ rEqD K x y H Q
def rNeX (K : PySem.W.Frag) : R2 := fun x y H Q => rNe x y H Q ∨ rNeD K x y H Q
theorem op_eqX (hu : X.A.units + 64 < cLine) : OpR X (compareOp .Eq) (rEqX X.K) := OpR.or op_eq (op_eqD hu)
theorem op_neX (hu : X.A.units + 64 < cLine) : OpR X (compareOp .NotEq) (rNeX X.K) := OpR.or op_ne (op_neD hu)
theorem vint_eq {i j : Int} : decide ((V.int i) = V.int j) = decide (i = j) := by
  by_cases h : i = j
  · subst h; simp
  · simp [h]
theorem vstr_eq {i j : Str} : decide ((V.str i) = V.str j) = decide (i = j) := by
  by_cases h : i = j
  · subst h; simp
  · simp [h]
theorem vbl_eq {i j : Bool} : decide ((V.bl i) = V.bl j) = decide (i = j) := by
  by_cases h : i = j
  · subst h; simp
  · simp [h]
theorem eqB_cases {Z H : Hp} {x y : V} {tx ty : T} {b : Bool} (s : Sub Z H) (rx : Rep G Z tx x) (ry : Rep G Z ty y) (e : tEqB tx ty = some b) :
    (scal x y = true ∧ decide (x = y) = b) ∨ ∃ d e', Dp G.K H x d ∧ Dp G.K H y e' ∧ SeqAt.shaped d = true ∧ SeqAt.shaped e' = true ∧ PyData.eqv d e' = b := by
  unfold tEqB at e
  split at e
  · cases e; cases rx.intE; cases ry.intE; exact .inl ⟨rfl, vint_eq⟩
  · cases e; cases rx.strE; cases ry.strE; exact .inl ⟨rfl, vstr_eq⟩
  · cases e; cases rx.blE; cases ry.blE; exact .inl ⟨rfl, vbl_eq⟩
  · split at e
    · rename_i d e' hd he
      split at e
      · rename_i hs
        cases e
        exact .inr ⟨d, e', Dp.mono s (rx.dp hd), Dp.mono s (ry.dp he), hs.1, hs.2, rfl⟩
      · cases e
    · cases e
theorem t_eq : Op2 G (rEqX G.K) tEq := by
  intro Z H σ ev x y tx ty d Q I rx ry e q
  unfold tEq at e
  cases h : tEqB tx ty with
  | none => rw [h] at e; cases e
  | some b =>
    rw [h] at e; cases e
    rcases eqB_cases I.sub rx ry h with ⟨h1, h2⟩ | ⟨d, e', h1, h2, h3, h4, h5⟩
    · exact .inl ⟨h1, by rw [h2]; exact OkE.flat I q (.bl _)⟩
    · exact .inr ⟨d, e', h1, h2, h3, h4, by rw [h5]; exact OkE.flat I q (.bl _)⟩
theorem t_ne : Op2 G (rNeX G.K) tNe := by
  intro Z H σ ev x y tx ty d Q I rx ry e q
  unfold tNe at e
  cases h : tEqB tx ty with
  | none => rw [h] at e; cases e
  | some b =>
    rw [h] at e; cases e
    rcases eqB_cases I.sub rx ry h with ⟨h1, h2⟩ | ⟨d, e', h1, h2, h3, h4, h5⟩
    · exact .inl ⟨h1, by rw [h2]; exact OkE.flat I q (.bl _)⟩
    · exact .inr ⟨d, e', h1, h2, h3, h4, by rw [h5]; exact OkE.flat I q (.bl _)⟩
theorem Rep.isNon {Z : Hp} {t : T} {x : V} (r : Rep G Z t x) : decide (x = .non) = t.isNon := by
  cases r <;> rfl
theorem t_isN : Op2 G (fun x y H Q => y = .non ∧ Q (.bl (decide (x = .non))) H) tIsN := by
  intro Z H σ ev x y tx ty d Q I rx ry e q
  unfold tIsN at e
  split at e
  · cases e; cases ry.nonE
    exact ⟨rfl, by rw [rx.isNon]; exact OkE.flat I q (.bl _)⟩
  · cases e
theorem t_notN : Op2 G (fun x y H Q => y = .non ∧ Q (.bl (!decide (x = .non))) H) tNotN := by
  intro Z H σ ev x y tx ty d Q I rx ry e q
  unfold tNotN at e
  split at e
  · cases e; cases ry.nonE
    exact ⟨rfl, by rw [rx.isNon]; exact OkE.flat I q (.bl _)⟩
  · cases e
theorem t_isB : Op2 G rIsB tIsB := by
  intro Z H σ ev x y tx ty d Q I rx ry e q
  unfold tIsB at e
  split at e
  · cases e; cases rx.blE; cases ry.blE
    exact ⟨_, _, rfl, rfl, OkE.flat I q (.bl _)⟩
  · cases e
theorem str_one {x : Str} {c : Nat} (h : x.cps.toList = [c]) : x = ⟨#[c]⟩ := by
  cases x with
  | mk cs => congr 1; apply Array.ext'; exact h
theorem t_inS : Op2 G (fun x y H Q => ∃ (c : Nat) (z : Str), x = .str ⟨#[c]⟩ ∧ y = .str z ∧ Q (.bl (decide (c ∈ z.cps.toList))) H) tInS := by
  intro Z H σ ev x y tx ty d Q I rx ry e q
  unfold tInS at e
  split at e
  · split at e
    · rename_i c hc
      cases e; cases rx.strE; cases ry.strE
      exact ⟨_, _, by rw [str_one hc], rfl, OkE.flat I q (.bl _)⟩
    · cases e
  · cases e
theorem t_notInS : Op2 G (fun x y H Q => ∃ (c : Nat) (z : Str), x = .str ⟨#[c]⟩ ∧ y = .str z ∧ Q (.bl (!decide (c ∈ z.cps.toList))) H) tNotInS := by
  intro Z H σ ev x y tx ty d Q I rx ry e q
  unfold tNotInS tInS at e
  split at e
  · split at e
    · rename_i c hc
      cases e; cases rx.strE; cases ry.strE
      exact ⟨_, _, by rw [str_one hc], rfl, OkE.flat I q (.bl _)⟩
    · cases e
  · cases e
end
/-! ### the rules -/
section
variable {X : Cx} {W : WX} {pos : Pos} {a b : Expr} {τa τb : XR}
theorem xe_add (ha : XE X W a τa) (hb : XE X W b τb) : XE X W (.BinOp a .Add b pos) (e2 tAdd τa τb) := xe_op op_addX t_add ha hb
theorem xe_sub (ha : XE X W a τa) (hb : XE X W b τb) : XE X W (.BinOp a .Sub b pos) (e2 tSub τa τb) := xe_op op_sub t_sub ha hb
theorem xe_mul (ha : XE X W a τa) (hb : XE X W b τb) : XE X W (.BinOp a .Mult b pos) (e2 tMul τa τb) := xe_op op_mulX t_mul ha hb
theorem xe_div (ha : XE X W a τa) (hb : XE X W b τb) : XE X W (.BinOp a .FloorDiv b pos) (e2 tDiv τa τb) := xe_op op_fdivX t_div ha hb
theorem xe_mod (ha : XE X W a τa) (hb : XE X W b τb) : XE X W (.BinOp a .Mod b pos) (e2 tMod τa τb) := xe_op op_modN t_mod ha hb
theorem xe_pow (ha : XE X W a τa) (hb : XE X W b τb) : XE X W (.BinOp a .Pow b pos) (e2 tPow τa τb) := xe_op op_pow t_pow ha hb
theorem xe_neg (ha : XE X W a τa) : XE X W (.UnaryOp .USub a pos) (e1 tNeg τa) := xe_un un_neg t_neg ha
theorem xe_lt (ha : XE X W a τa) (hb : XE X W b τb) : XE X W (.Compare a [.Lt] [b] pos) (e2 tLt τa τb) := xe_cmp op_lt t_ord ha hb (nomark _)
theorem xe_le (ha : XE X W a τa) (hb : XE X W b τb) : XE X W (.Compare a [.LtE] [b] pos) (e2 tLe τa τb) := xe_cmp op_le t_ord ha hb (nomark _)
theorem xe_gt (ha : XE X W a τa) (hb : XE X W b τb) : XE X W (.Compare a [.Gt] [b] pos) (e2 tGt τa τb) := xe_cmp op_gt t_ord ha hb (nomark _)
theorem xe_ge (ha : XE X W a τa) (hb : XE X W b τb) : XE X W (.Compare a [.GtE] [b] pos) (e2 tGe τa τb) := xe_cmp op_ge t_ord ha hb (nomark _)
theorem xe_eq (hu : X.A.units + 64 < cLine) (ha : XE X W a τa) (hb : XE X W b τb) : XE X W (.Compare a [.Eq] [b] pos) (e2 tEq τa τb) := xe_cmp (op_eqX hu) t_eq ha hb (nomark _)
theorem xe_ne (hu : X.A.units + 64 < cLine) (ha : XE X W a τa) (hb : XE X W b τb) : XE X W (.Compare a [.NotEq] [b] pos) (e2 tNe τa τb) := xe_cmp (op_neX hu) t_ne ha hb (nomark _)
theorem xe_isN (ha : XE X W a τa) (hb : XE X W b τb) : XE X W (.Compare a [.Is] [b] pos) (e2 tIsN τa τb) := xe_cmp op_isN t_isN ha hb (nomark _)
theorem xe_notN (ha : XE X W a τa) (hb : XE X W b τb) : XE X W (.Compare a [.IsNot] [b] pos) (e2 tNotN τa τb) := xe_cmp op_notN t_notN ha hb (nomark _)
theorem xe_isB (ha : XE X W a τa) (hb : XE X W b τb) : XE X W (.Compare a [.Is] [b] pos) (e2 tIsB τa τb) := xe_cmp op_isBl t_isB ha hb (nomark _)
theorem xe_inS (ha : XE X W a τa) (hb : XE X W b τb) (hm : behindInMarks .In b = false := by with_unfolding_all rfl) : XE X W (.Compare a [.In] [b] pos) (e2 tInS τa τb) := xe_cmp op_in_sign t_inS ha hb hm
theorem xe_notInS (ha : XE X W a τa) (hb : XE X W b τb) (hm : behindInMarks .NotIn b = false := by with_unfolding_all rfl) : XE X W (.Compare a [.NotIn] [b] pos) (e2 tNotInS τa τb) := xe_cmp op_notIn_sign t_notInS ha hb hm
end
end PH
set_option Elab.async false
set_option linter.all false
set_option maxRecDepth 100000
namespace PH
open PySem PySem.Spec PyProof.Rows L2
/-! ### tests -/
def tBool : T → Option Bool
  | .bl b => some b
  | _ => none
def tTru : T → Option Bool
  | .non => some false
  | .bl b => some b
  | .int i => some (i != 0)
  | .str x => if x.length ≤ sizeLine then some ((x.length : Int) != 0) else none
  | .tup xs => some (!xs.isEmpty)
  | .lst xs => some (!xs.isEmpty)
  | .ro ns => some (!ns.isEmpty)
  | .ins _ _ => none
  | .ty _ => none
  | .cls _ => none
def b1 (f : T → Option Bool) (τ : XR) : XRB := fun ev => (τ ev).bind fun p => R.ofO (f p.1) p.2
def andB (τa τb : XRB) : XRB := fun ev => (τa ev).bind fun p => if p.1 = true then τb p.2 else .ok (false, p.2)
def orB (τa τb : XRB) : XRB := fun ev => (τa ev).bind fun p => if p.1 = true then .ok (true, p.2) else τb p.2
def notB (τa : XRB) : XRB := fun ev => (τa ev).bind fun p => .ok (!p.1, p.2)
def ofB (τa : XRB) : XR := fun ev => (τa ev).bind fun p => .ok (.bl p.1, p.2)
/-- a and b as a value, a a bool -/
def andV (τa τb : XR) : XR := fun ev => (τa ev).bind fun p => match p.1 with
  | .bl true => τb p.2
  | .bl false => .ok (.bl false, p.2)
  | _ => .bad
def orV (τa τb : XR) : XR := fun ev => (τa ev).bind fun p => match p.1 with
  | .bl true => .ok (.bl true, p.2)
  | .bl false => τb p.2
  | _ => .bad
def notV (τa : XR) : XR := fun ev => (τa ev).bind fun p => match p.1 with
  | .bl b => .ok (.bl (!b), p.2)
  | _ => .bad
def ifE (c : XRB) (τa τb : XR) : XR := fun ev => (c ev).bind fun p => if p.1 = true then τa p.2 else τb p.2
section
variable {G : Gm} {W : WX}
theorem Rep.tru {Z H : Hp} (s : Sub Z H) {t : T} {x : V} {b : Bool} (r : Rep G Z t x) (e : tTru t = some b) : TruV G.K x H b := by
  cases r with
  | non => cases e; rfl
  | bl b => cases e; rfl
  | int i => cases e; rfl
  | str x =>
    have e : (if x.length ≤ sizeLine then some ((x.length : Int) != 0) else none) = some b := e
    split at e
    · cases e; exact ⟨‹_›, rfl⟩
    · cases e
  | tup q rs =>
    cases e
    exact .inr (.inl ⟨_, s.sqT q, by cases rs <;> rfl⟩)
  | lst q rs =>
    cases e
    exact .inl ⟨_, SqL.of (s _ _ q), by cases rs <;> rfl⟩
  | ro q =>
    cases e
    rename_i ns
    exact .inl ⟨_, s.sqL q, by cases ns <;> rfl⟩
  | ins _ _ _ => cases e
  | ty _ => cases e
  | cls _ => cases e
end
section
variable {X : Cx} {W : WX} {pos : Pos} {a b c : Expr} {rest : List Expr} {τa τb : XR} {βa βb : XRB}
theorem xt_cmp {op : CmpOp} {r : R2} {f : T → T → Option T} (ho : OpR X (compareOp op) r) (k : Op2 (gm X) r f) (ha : XE X W a τa) (hb : XE X W b τb) (hm : behindInMarks op b = false) : XT X W (.Compare a [op] [b] pos) (b1 tBool (e2 f τa τb)) := by
  obtain ⟨ta, pa, sa⟩ := ha
  obtain ⟨tb, pb, sb⟩ := hb
  refine ⟨_, pt_cmpR ho pa pb hm, fun Z H σ ev Q I p => ?_⟩
  refine (SE.op2 k sa sb).next I Stp.refl p fun d ev' v Z' H' I' s _ rp q => ?_
  obtain ⟨b, e, q⟩ := post_some q
  have e : tBool d = some b := e
  cases d <;> first | (cases e; done) | skip
  cases e; cases rp.blE
  exact ⟨_, rfl, q _ _ I' s⟩
/-- an expression's truth -/
theorem xt_truth (ha : XE X W a τa) (he : ∀ whole, isTrue a X.env whole = (do let v ← whole; standAt a.pos; holding [v] (truthy v)) := by intro _; rfl) : XT X W a (b1 tTru τa) := by
  obtain ⟨ta, pa, sa⟩ := ha
  refine ⟨_, pt_truth pa he, fun Z H σ ev Q I p => ?_⟩
  refine sa.next I Stp.refl p fun d ev' v Z' H' I' s _ rp q => ?_
  obtain ⟨b, e, q⟩ := post_some q
  exact ⟨b, rp.tru I'.sub e, q _ _ I' s⟩
theorem xt_w (h : XW X W a βa) : XT X W a βa := by
  obtain ⟨ta, pa, sa⟩ := h
  exact ⟨ta, pa.pt, sa⟩
theorem xw_and1 (ha : XT X W a βa) : XW X W (.BoolOp .And [a] pos) βa := by
  obtain ⟨ta, pa, sa⟩ := ha
  exact ⟨ta, pw_and1 pa, sa⟩
theorem xw_or1 (ha : XT X W a βa) : XW X W (.BoolOp .Or [a] pos) βa := by
  obtain ⟨ta, pa, sa⟩ := ha
  exact ⟨ta, pw_or1 pa, sa⟩
theorem xw_and (ha : XT X W a βa) (hb : XW X W (.BoolOp .And (b :: rest) pos) βb) : XW X W (.BoolOp .And (a :: b :: rest) pos) (andB βa βb) := by
  obtain ⟨ta, pa, sa⟩ := ha
  obtain ⟨tb, pb, sb⟩ := hb
  refine ⟨_, pw_and pa pb, fun Z H σ ev Q I p => ?_⟩
  refine sa.next I Stp.refl p fun d ev' Z' H' I' s s' q => ?_
  cases d with
  | true => exact sb _ _ _ _ _ I' (Post.later s q fun b e k Z2 H2 I2 s2 => k Z2 H2 I2 (s.trans s2))
  | false => exact q _ _ I' s
theorem xw_or (ha : XT X W a βa) (hb : XW X W (.BoolOp .Or (b :: rest) pos) βb) : XW X W (.BoolOp .Or (a :: b :: rest) pos) (orB βa βb) := by
  obtain ⟨ta, pa, sa⟩ := ha
  obtain ⟨tb, pb, sb⟩ := hb
  refine ⟨_, pw_or pa pb, fun Z H σ ev Q I p => ?_⟩
  refine sa.next I Stp.refl p fun d ev' Z' H' I' s s' q => ?_
  cases d with
  | false => exact sb _ _ _ _ _ I' (Post.later s q fun b e k Z2 H2 I2 s2 => k Z2 H2 I2 (s.trans s2))
  | true => exact q _ _ I' s
theorem xt_not (ha : XT X W a βa) : XT X W (.UnaryOp .Not a pos) (notB βa) := by
  obtain ⟨ta, pa, sa⟩ := ha
  refine ⟨_, pt_not pa, fun Z H σ ev Q I p => ?_⟩
  refine sa.next I Stp.refl p fun d ev' Z' H' I' s s' q => ?_
  exact q _ _ I' s
theorem xe_one {op} (h : XE X W a τa) : XE X W (.BoolOp op [a] pos) τa := by
  obtain ⟨ta, pa, sa⟩ := h
  exact ⟨ta, pe_one pa, sa⟩
theorem xe_and (ha : XE X W a τa) (hb : XE X W (.BoolOp .And (b :: rest) pos) τb) : XE X W (.BoolOp .And (a :: b :: rest) pos) (andV τa τb) := by
  obtain ⟨ta, pa, sa⟩ := ha
  obtain ⟨tb, pb, sb⟩ := hb
  refine ⟨_, pe_and pa pb, fun Z H σ ev Q I p => ?_⟩
  refine sa.next I Stp.refl p fun d ev' v Z' H' I' s s' rp q => ?_
  cases d with
  | bl d =>
    cases rp.blE
    refine ⟨_, rfl, ?_⟩
    cases d with
    | true => exact sb _ _ _ _ _ I' (Post.later s q fun b e k v2 Z2 H2 I2 s2 => k v2 Z2 H2 I2 (s.trans s2))
    | false => exact q _ _ _ I' s (.bl _)
  | _ => exact (show False from q).elim
theorem xe_or (ha : XE X W a τa) (hb : XE X W (.BoolOp .Or (b :: rest) pos) τb) : XE X W (.BoolOp .Or (a :: b :: rest) pos) (orV τa τb) := by
  obtain ⟨ta, pa, sa⟩ := ha
  obtain ⟨tb, pb, sb⟩ := hb
  refine ⟨_, pe_or pa pb, fun Z H σ ev Q I p => ?_⟩
  refine sa.next I Stp.refl p fun d ev' v Z' H' I' s s' rp q => ?_
  cases d with
  | bl d =>
    cases rp.blE
    refine ⟨_, rfl, ?_⟩
    cases d with
    | false => exact sb _ _ _ _ _ I' (Post.later s q fun b e k v2 Z2 H2 I2 s2 => k v2 Z2 H2 I2 (s.trans s2))
    | true => exact q _ _ _ I' s (.bl _)
  | _ => exact (show False from q).elim
theorem xe_not (ha : XE X W a τa) : XE X W (.UnaryOp .Not a pos) (notV τa) := by
  obtain ⟨ta, pa, sa⟩ := ha
  refine ⟨_, pe_not pa, fun Z H σ ev Q I p => ?_⟩
  refine sa.next I Stp.refl p fun d ev' v Z' H' I' s s' rp q => ?_
  cases d with
  | bl d =>
    cases rp.blE
    exact ⟨_, rfl, q _ _ _ I' s (.bl _)⟩
  | _ => exact (show False from q).elim
theorem xe_if (hc : XT X W c βa) (ha : XE X W a τa) (hb : XE X W b τb) : XE X W (.IfExp c a b pos) (ifE βa τa τb) := by
  obtain ⟨tc, pc, sc⟩ := hc
  obtain ⟨ta, pa, sa⟩ := ha
  obtain ⟨tb, pb, sb⟩ := hb
  refine ⟨_, pe_ifExp pc pa pb, fun Z H σ ev Q I p => ?_⟩
  refine sc.next I Stp.refl p fun d ev' Z' H' I' s s' q => ?_
  cases d with
  | true => exact sa _ _ _ _ _ I' (Post.later s q fun b e k v2 Z2 H2 I2 s2 => k v2 Z2 H2 I2 (s.trans s2))
  | false => exact sb _ _ _ _ _ I' (Post.later s q fun b e k v2 Z2 H2 I2 s2 => k v2 Z2 H2 I2 (s.trans s2))
end
/-! ### displays, arguments -/
def nilA : XRL := fun ev => .ok ([], ev)
def consA (τa : XR) (τr : XRL) : XRL := fun ev => (τa ev).bind fun p => (τr p.2).bind fun q => .ok (p.1 :: q.1, q.2)
def tupE (τ : XRL) : XR := fun ev => (τ ev).bind fun p => if p.1.length ≤ sizeLine then .ok (.tup p.1, p.2) else .bad
/-- a list that was just made, given away at once -/
def gives (τ : XRL) : XR := fun ev => (τ ev).bind fun p => .ok (.lst p.1, p.2)
def lstO (τ : XRL) : XRL := fun ev => (τ ev).bind fun p => if p.1.length ≤ sizeLine then .ok (p.1, p.2) else .bad
section
variable {X : Cx} {W : WX} {pos : Pos} {e : Expr} {es : List Expr} {τa : XR} {τ : XRL}
theorem xa_nil : XA X W [] nilA := ⟨tNil, pa_nil, fun Z H σ ev Q I p => p [] Z H I Stp.refl .nil⟩
theorem xa_cons (ha : XE X W e τa) (hr : XA X W es τ) (hs : starEach (e :: es) X.env = (false, eval e X.env) :: starEach es X.env := by rfl) : XA X W (e :: es) (consA τa τ) := by
  obtain ⟨ta, pa, sa⟩ := ha
  obtain ⟨tr, pr, sr⟩ := hr
  refine ⟨_, pa_cons pa pr hs, fun Z H σ ev Q I p => ?_⟩
  refine sa.next I Stp.refl p fun d ev' v Z' H' I' s s' rp q => ?_
  refine sr.next I' s q fun d2 ev2 v2 Z2 H2 I2 s2 s12 rp2 q2 => ?_
  exact q2 _ _ _ I2 s2 (.cons (rp.mono s12.zz) rp2)
theorem xe_tup {k} (h : XA X W es τ) : XE X W (.Tuple es k pos) (tupE τ) := by
  obtain ⟨t, p, s⟩ := h
  refine ⟨_, pe_tup p, fun Z H σ ev Q I p => ?_⟩
  refine s.next I Stp.refl p fun d ev' v Z' H' I' s s' rp q => ?_
  by_cases hz : d.length ≤ sizeLine
  · rw [if_pos hz] at q
    refine ⟨by rw [← rp.length]; exact hz, fun p hp => ?_⟩
    exact OkE.newTup (ev := ev') I' (fun v2 Z2 H2 I2 s2 r2 => q v2 Z2 H2 I2 (s.trans s2) r2) rp hp
  · rw [if_neg hz] at q; exact q.elim
theorem xo_lst (h : XA X W es τ) : XO X W (.List es pos) (lstO τ) := by
  obtain ⟨t, p, s⟩ := h
  refine ⟨_, pe_lst p, fun Z H σ ev Q I p => ?_⟩
  refine s.next I Stp.refl p fun d ev' v Z' H' I' s s' rp q => ?_
  by_cases hz : d.length ≤ sizeLine
  · rw [if_pos hz] at q
    exact ⟨by rw [← rp.length]; exact hz, fun p hp => OkO.new I' s q rp hp⟩
  · rw [if_neg hz] at q; exact q.elim
/-- a fresh list as a value that nobody changes any more -/
theorem xe_o (h : XO X W e τ) : XE X W e (gives τ) := by
  obtain ⟨t, p, so⟩ := h
  refine ⟨t, p, fun Z H σ ev Q I p => ?_⟩
  refine so.next I Stp.refl p fun d ev' a vs Z' H' I' s s' h1 h2 h3 h4 r q => ?_
  refine q _ (upd Z' a (.lst vs)) H' (I'.freeze h4 h3) (s.fr I.sub h1) (.lst upd_same (r.mono fun b u e => ?_))
  rw [upd_ne (ne_of_none e h2)]; exact e
theorem xe_lst (h : XA X W es τ) : XE X W (.List es pos) (gives (lstO τ)) := xe_o (xo_lst h)
end
/-! ### subscripts -/
def tIx : T → T → Option T
  | .str z, .int i => if z.length ≤ sizeLine then (atI z.cps.toList i).map fun c => .str ⟨#[c]⟩ else none
  | .tup xs, .int i => atI xs i
  | .lst xs, .int i => atI xs i
  | .ro ns, .int i => (atI ns i).map .int
  | _, _ => none
section
variable {G : Gm} {Z H : Hp}
theorem Reps.atI {ts : List T} {vs : List V} (r : Reps G Z ts vs) {i : Int} {t : T} (e : atI ts i = some t) : ∃ v, L2.atI vs i = some v ∧ Rep G Z t v := by
  unfold L2.atI at e ⊢
  rw [r.length] at e
  cases h : ixN vs.length i with
  | none => rw [h] at e; cases e
  | some j =>
    rw [h] at e
    obtain ⟨v, e1, r1⟩ := r.get (i := j) (t := t) e
    exact ⟨v, e1, r1⟩
theorem t_ix : Op2 G (rIx G.K) tIx := by
  intro Z H σ ev x y tx ty d Q I rx ry e q
  unfold tIx at e
  split at e
  · split at e
    · rename_i z i hz
      cases rx.strE; cases ry.intE
      cases h : L2.atI z.cps.toList i with
      | none => rw [h] at e; cases e
      | some c => rw [h] at e; cases e; exact .inr (.inr ⟨_, _, c, rfl, rfl, hz, h, OkE.flat I q (.str _)⟩)
    · cases e
  · obtain ⟨a, vs, rfl, sa, ra⟩ := rx.tupE
    cases ry.intE
    obtain ⟨v, e1, r1⟩ := ra.atI e
    exact .inr (.inl ⟨a, vs, _, v, rfl, rfl, I.sub.sqT sa, e1, OkE.flat I q r1⟩)
  · obtain ⟨a, vs, rfl, sa, ra⟩ := rx.lstE
    cases ry.intE
    obtain ⟨v, e1, r1⟩ := ra.atI e
    exact .inl ⟨a, vs, _, v, rfl, rfl, SqL.of (I.sub _ _ sa), e1, OkE.flat I q r1⟩
  · rename_i ns i
    obtain ⟨a, rfl, sa⟩ := rx.roE
    cases ry.intE
    cases h : L2.atI ns i with
    | none => rw [h] at e; cases e
    | some c =>
      rw [h] at e; cases e
      obtain ⟨v, e1, r1⟩ := (Reps.ofInts (G := G) (Z := Z) ns).atI (i := i) (t := .int c) (by
        unfold L2.atI at h ⊢
        rw [List.length_map]
        cases h2 : ixN ns.length i with
        | none => rw [h2] at h; cases h
        | some j => rw [h2] at h; simp at h ⊢; exact h)
      exact .inl ⟨a, _, _, v, rfl, rfl, I.sub.sqL sa, e1, OkE.flat I q r1⟩
  · cases e
end
/-- an item of what stands in slot i (an own list stays own) -/
def slT (o : Option Sl) : Option T := match o with
  | some (.val t) => some t
  | some (.own ts) => some (.lst ts)
  | some (.box ts) => some (.lst ts)
  | _ => none
def slIx (i : Nat) (τ : XR) : XR := fun ev => if (slT ev[i]?).isSome then (τ ev).bind fun p => R.ofO ((slT p.2[i]?).bind fun t => tIx t p.1) p.2 else .bad
theorem StOk.slT {G : Gm} {Z H : Hp} {σ : L2.St} {ev : Ev} (I : StOk G Z H σ ev) {i : Nat} {t : T} (h : slT ev[i]? = some t) :
    ∃ v, σ[i]? = some (some v) ∧ (Rep G Z t v ∨ ∃ a vs ts, v = .ref a ∧ t = .lst ts ∧ H a = some (.lst vs) ∧ Reps G Z ts vs) := by
  unfold PH.slT at h
  split at h
  · rename_i t' e
    cases h
    obtain ⟨v, e2, ok⟩ := I.at e
    cases v with
    | none => exact (show False from ok).elim
    | some v => exact ⟨v, e2, .inl ok⟩
  · rename_i ts e
    cases h
    obtain ⟨a, vs, e2, z, hh, r, _⟩ := I.ownAt e
    exact ⟨_, e2, .inr ⟨a, vs, ts, rfl, rfl, hh, r⟩⟩
  · rename_i ts e
    cases h
    obtain ⟨a, vs, e2, z, hh, r, _⟩ := I.boxAt e
    exact ⟨_, e2, .inr ⟨a, vs, ts, rfl, rfl, hh, r⟩⟩
  · cases h
section
variable {X : Cx} {W : WX} {pos : Pos} {a b : Expr} {τa τb : XR}
theorem xe_ix (ha : XE X W a τa) (hb : XE X W b τb) (hs : PlainIx b := by intro _ _; rfl) : XE X W (.Subscript a b pos) (e2 tIx τa τb) := by
  obtain ⟨ta, pa, sa⟩ := ha
  obtain ⟨tb, pb, sb⟩ := hb
  exact ⟨_, pe_ix ix_seq pa pb hs, SE.op2 t_ix sa sb⟩
theorem tIx_lst {ts : List T} {t d : T} (h : tIx (.lst ts) t = some d) : ∃ i, t = .int i ∧ atI ts i = some d := by
  cases t <;> first | (cases h; done) | exact ⟨_, rfl, h⟩
theorem xe_ixN (i : Nat) {x : Str} {p1 : Pos} (hb : XE X W b τb) (hN : X.N[i]? = some x := by rfl) (hv : Vis X.env.scope x := by first | exact Or.inl rfl | exact Or.inr (Or.inl rfl) | exact Or.inr (Or.inr rfl)) (hs : PlainIx b := by intro _ _; rfl) (hd : (x == ("__debug__" : Str)) = false := by decide)
    (hcd : (x == ("__classdict__" : Str)) = false := by decide) : XE X W (.Subscript (.Name x p1) b pos) (slIx i τb) := by
  obtain ⟨tb, pb, sb⟩ := hb
  refine ⟨_, pe_ix ix_seq (pe_var hN hv hd hcd) pb hs, fun Z H σ ev Q I p => ?_⟩
  unfold slIx at p
  split at p
  · rename_i hf
    cases h0 : slT ev[i]? with
    | none => rw [h0] at hf; cases hf
    | some t0 =>
      obtain ⟨v, hv, _⟩ := I.slT h0
      refine ⟨v, hv, ?_⟩
      refine sb.next I Stp.refl p fun d ev' u Z' H' I' s s' rp q => ?_
      obtain ⟨d', e, q⟩ := post_some q
      have q' : OkE (gm X) Z' H' σ ev' Q d' ev' := fun v2 Z2 H2 I2 s2 r2 => q v2 Z2 H2 I2 (s.trans s2) r2
      cases h1 : slT ev'[i]? with
      | none => rw [show slT (d, ev').2[i]? = none from h1] at e; cases e
      | some t =>
        rw [show slT (d, ev').2[i]? = some t from h1] at e
        have e : tIx t d = some d' := e
        obtain ⟨v', hv', r | ⟨a, vs, ts, rfl, rfl, hh, r⟩⟩ := I'.slT h1
        · rw [hv] at hv'; cases hv'
          exact t_ix Z' H' σ ev' v u t d d' Q I' r rp e q'
        · rw [hv] at hv'; cases hv'
          obtain ⟨k, rfl, e⟩ := tIx_lst e
          cases rp.intE
          obtain ⟨v2, f1, r1⟩ := r.atI e
          exact .inl ⟨a, vs, _, v2, rfl, rfl, SqL.of hh, f1, OkE.flat I' q' r1⟩
  · exact p.elim
end
end PH
set_option Elab.async false
set_option linter.all false
set_option maxRecDepth 100000
namespace PH
open PySem PySem.Spec PyProof.Rows L2
/-! ### slices -/
def cutT {α : Type} (xs : List α) (lo hi : Option Int) : List α := (xs.drop (HT.sIx xs.length 0 lo)).take (HT.sIx xs.length xs.length hi - HT.sIx xs.length 0 lo)
def tSl (lo hi : Option Int) : T → Option T
  | .str z => if z.length ≤ sizeLine then some (.str (cutS z lo hi)) else none
  | .tup xs => some (.tup (cutT xs lo hi))
  | .lst xs => some (.lst (cutT xs lo hi))
  | .ro ns => some (.lst ((cutT ns lo hi).map .int))
  | _ => none
abbrev XRO := Ev → R (Option Int × Ev)
abbrev OkP (G : Gm) (Z H : Hp) (σ : L2.St) (ev : Ev) (Q : Option Int → Hp → Prop) : Option Int → Ev → Prop := fun b ev' => ∀ Z' H', StOk G Z' H' σ ev' → Stp Z H σ ev Z' H' σ ev' → Q b H'
def SP' (G : Gm) (W : WX) (t : TO) (τ : XRO) : Prop := ∀ Z H σ ev Q, StOk G Z H σ ev → Post G W Z H σ ev (τ ev) (OkP G Z H σ ev Q) → t σ H Q
structure XP (X : Cx) (W : WX) (e : Option Expr) (τ : XRO) : Prop where
  ex : ∃ t, PO X e t ∧ SP' (gm X) W t τ
def noP : XRO := fun ev => .ok (none, ev)
def asP (τ : XR) : XRO := fun ev => (τ ev).bind fun p => match p.1 with
  | .int i => .ok (some i, p.2)
  | _ => .bad
def slc (τ : XR) (l h : XRO) : XR := fun ev => (τ ev).bind fun p => (l p.2).bind fun q => (h q.2).bind fun r => R.ofO (tSl q.1 r.1 p.1) r.2
/-- .. of what stands in slot i -/
def slcN (i : Nat) (l h : XRO) : XR := fun ev => if (slT ev[i]?).isSome then (l ev).bind fun q => (h q.2).bind fun r => R.ofO ((slT r.2[i]?).bind (tSl q.1 r.1)) r.2 else .bad
def tLs : T → Option (List T)
  | .lst xs => some xs
  | _ => none
/-- .. of a list, fresh -/
def fresh1 (τ : XR) : XRL := fun ev => (τ ev).bind fun p => R.ofO (tLs p.1) p.2
section
variable {G : Gm} {W : WX} {Z H : Hp} {σ : L2.St} {ev : Ev}
theorem SP'.next {t : TO} {τ : XRO} (h : SP' G W t τ) {Z0 H0 Z H : Hp} {σ : L2.St} {ev0 ev : Ev} {α : Type} {Q : Option Int → Hp → Prop} {f : Option Int × Ev → R (α × Ev)} {ok : α → Ev → Prop} (I : StOk G Z H σ ev) (s : Stp Z0 H0 σ ev0 Z H σ ev)
    (p : Post G W Z0 H0 σ ev0 ((τ ev).bind f) ok)
    (k : ∀ d ev' Z' H', StOk G Z' H' σ ev' → Stp Z0 H0 σ ev0 Z' H' σ ev' → Stp Z H σ ev Z' H' σ ev' → Post G W Z0 H0 σ ev0 (f (d, ev')) ok → Q d H') : t σ H Q := by
  refine h Z H σ ev Q I ?_
  refine Post.later s (Post.bind p) fun d ev' q Z' H' I' s' => ?_
  exact k d ev' Z' H' I' (s.trans s') s' q
theorem Reps.cut {ts : List T} {vs : List V} (r : Reps G Z ts vs) (lo hi : Option Int) : Reps G Z (cutT ts lo hi) (cutV vs lo hi) := by
  unfold cutT cutV
  rw [r.length]
  exact (r.drop _).take _
theorem cut_whole {α : Type} {xs : List α} {lo hi : Option Int} (h : HT.sIx xs.length 0 lo = 0 ∧ HT.sIx xs.length xs.length hi = xs.length) : cutT xs lo hi = xs := by
  unfold cutT
  rw [h.1, h.2, List.drop_zero, Nat.sub_zero, List.take_length]
theorem cut_map {α β : Type} (f : α → β) (xs : List α) (lo hi : Option Int) : cutT (xs.map f) lo hi = (cutT xs lo hi).map f := by
  unfold cutT
  rw [List.length_map, ← List.map_drop, ← List.map_take]
def rSlAll (K : PySem.W.Frag) : V → Option Int → Option Int → Hp → VK → Prop := fun x lo hi H Q => rSlS x lo hi H Q ∨ rSlA K x lo hi H Q ∨ rSlL K x lo hi H Q
theorem sl_all {X : Cx} : SlR X (rSlAll X.K) := SlR.or sl_str (SlR.or sl_tupA sl_list)
/-- a slice by values: the answer, and that a list's is fresh -/
theorem t_sl {Q : VK} {x : V} {t d : T} {lo hi : Option Int} (I : StOk G Z H σ ev) (r : Rep G Z t x ∨ ∃ a vs ts, x = .ref a ∧ t = .lst ts ∧ H a = some (.lst vs) ∧ Reps G Z ts vs) (e : tSl lo hi t = some d)
    (q1 : ∀ v, Rep G Z d v → (∀ xs, d ≠ .lst xs) → Q v H) (q2 : ∀ p xs vs, H p = none → (d = .lst xs ∨ d = .tup xs) → Reps G Z xs vs → (∀ ys, d = .lst ys → Q (.ref p) (upd H p (.lst vs))) ∧ (∀ ys, d = .tup ys → Q (.ref p) (upd H p (.tup vs)))) : rSlAll G.K x lo hi H Q := by
  rcases r with r | ⟨a, vs, ts, rfl, rfl, hh, r⟩
  · cases r with
    | str z =>
      have e : (if z.length ≤ sizeLine then some (T.str (cutS z lo hi)) else none) = some d := e
      split at e
      · cases e; exact .inl ⟨_, rfl, ‹_›, q1 _ (.str _) (fun _ h => nomatch h)⟩
      · cases e
    | tup s rs =>
      rename_i a ts vs
      cases e
      refine .inr (.inl ⟨a, vs, rfl, I.sub.sqT s, fun hw => ?_, fun hw p hp => ?_⟩)
      · refine q1 _ ?_ fun _ h => nomatch h
        have hw' : HT.sIx ts.length 0 lo = 0 ∧ HT.sIx ts.length ts.length hi = ts.length := by rw [rs.length]; exact hw
        rw [cut_whole hw']; exact .tup s rs
      · exact (q2 p _ _ hp (.inr rfl) (rs.cut lo hi)).2 _ rfl
    | lst s rs =>
      rename_i a ts vs
      cases e
      exact .inr (.inr ⟨a, vs, rfl, SqL.of (I.sub _ _ s), fun p hp => (q2 p _ _ hp (.inl rfl) (rs.cut lo hi)).1 _ rfl⟩)
    | ro s =>
      rename_i a ns
      cases e
      refine .inr (.inr ⟨a, _, rfl, I.sub.sqL s, fun p hp => (q2 p _ _ hp (.inl rfl) ?_).1 _ rfl⟩)
      rw [← cut_map]
      exact (Reps.ofInts ns).cut lo hi
    | _ => cases e
  · cases e
    exact .inr (.inr ⟨a, vs, rfl, SqL.of hh, fun p hp => (q2 p _ _ hp (.inl rfl) (r.cut lo hi)).1 _ rfl⟩)
theorem t_slE {Q : VK} {x : V} {t d : T} {lo hi : Option Int} (I : StOk G Z H σ ev) (r : Rep G Z t x ∨ ∃ a vs ts, x = .ref a ∧ t = .lst ts ∧ H a = some (.lst vs) ∧ Reps G Z ts vs) (e : tSl lo hi t = some d)
    (q : OkE G Z H σ ev Q d ev) : rSlAll G.K x lo hi H Q :=
  t_sl I r e (fun v rv _ => OkE.flat I q rv) fun p xs vs hp h rs => ⟨fun ys e' => by
    subst e'
    rcases h with h | h <;> cases h
    exact OkE.newLst I q rs hp, fun ys e' => by
    subst e'
    rcases h with h | h <;> cases h
    exact OkE.newTup I q rs hp⟩
theorem t_slO {Z0 H0 : Hp} {ev0 : Ev} {Q : VK} {x : V} {t : T} {us : List T} {lo hi : Option Int} (I : StOk G Z H σ ev) (s : Stp Z0 H0 σ ev0 Z H σ ev) (r : Rep G Z t x ∨ ∃ a vs ts, x = .ref a ∧ t = .lst ts ∧ H a = some (.lst vs) ∧ Reps G Z ts vs) (e : tSl lo hi t = some (.lst us))
    (q : OkO G Z0 H0 σ ev0 Q us ev) : rSlAll G.K x lo hi H Q :=
  t_sl I r e (fun v rv h => absurd rfl (h us)) fun p xs vs hp h rs => ⟨fun ys e' => by
    rcases h with h | h <;> cases h
    exact OkO.new I s q rs hp, fun ys e' => nomatch e'⟩
end
section
variable {X : Cx} {W : WX} {pos p2 : Pos} {e : Expr} {lo hi : Option Expr} {τ : XR} {l h : XRO}
theorem xp_none : XP X W none noP := ⟨tNoPart, po_none, fun Z H σ ev Q I p => p Z H I Stp.refl⟩
theorem xp_some (ha : XE X W e τ) : XP X W (some e) (asP τ) := by
  obtain ⟨ta, pa, sa⟩ := ha
  refine ⟨_, po_some pa, fun Z H σ ev Q I p => ?_⟩
  refine sa.next I Stp.refl p fun d ev' v Z' H' I' s s' rp q => ?_
  cases d with
  | int i => cases rp.intE; exact ⟨i, rfl, q _ _ I' s⟩
  | _ => exact (show False from q).elim
theorem slice_core {tl th : TO} (sl : SP' (gm X) W tl l) (sh : SP' (gm X) W th h) {Z0 H0 Z H : Hp} {σ : L2.St} {ev0 ev : Ev} {Q : VK} {x : V} {α : Type} {g : Option Int → Option Int → Ev → Option α} {ok : α → Ev → Prop} (I : StOk (gm X) Z H σ ev) (s : Stp Z0 H0 σ ev0 Z H σ ev)
    (p : Post (gm X) W Z0 H0 σ ev0 ((l ev).bind fun q => (h q.2).bind fun r => R.ofO (g q.1 r.1 r.2) r.2) ok)
    (k : ∀ a b d ev' Z' H', StOk (gm X) Z' H' σ ev' → Stp Z0 H0 σ ev0 Z' H' σ ev' → Stp Z H σ ev Z' H' σ ev' → g a b ev' = some d → ok d ev' → rSlAll X.K x a b H' Q) : tl σ H fun a H1 => th σ H1 fun b H2 => rSlAll X.K x a b H2 Q := by
  refine sl.next I s p fun a ev1 Z1 H1 I1 s1 s01 q => ?_
  refine sh.next I1 s1 q fun b ev2 Z2 H2 I2 s2 s12 q2 => ?_
  obtain ⟨d, e, q3⟩ := post_some q2
  exact k a b d ev2 Z2 H2 I2 s2 (s01.trans s12) e q3
theorem xe_sl (ha : XE X W e τ) (hl : XP X W lo l) (hh : XP X W hi h) : XE X W (.Subscript e (.Slice lo hi none p2) pos) (slc τ l h) := by
  obtain ⟨ta, pa, sa⟩ := ha
  obtain ⟨tl, pl, sl⟩ := hl
  obtain ⟨th, ph, sh⟩ := hh
  refine ⟨_, pe_slice sl_all pa pl ph, fun Z H σ ev Q I p => ?_⟩
  refine sa.next I Stp.refl p fun d ev' v Z' H' I' s s' rp q => ?_
  refine slice_core (g := fun a b _ => tSl a b d) sl sh I' s q fun a b d2 ev2 Z2 H2 I2 s2 s12 e2 q2 => ?_
  exact t_slE I2 (.inl (rp.mono s12.zz)) e2 fun v3 Z3 H3 I3 s3 r3 => q2 v3 Z3 H3 I3 (s2.trans s3) r3
theorem tLs_some {t : T} {us : List T} (h : tLs t = some us) : t = .lst us := by
  cases t <;> first | (cases h; done) | (cases h; rfl)
theorem bind_assoc {α β γ : Type} (x : R α) (f : α → R β) (g : β → R γ) : (x.bind f).bind g = x.bind fun a => (f a).bind g := by cases x <;> rfl
theorem ofO_bind {α β : Type} (o : Option α) (ev : Ev) (f : α → Option β) : (R.ofO o ev).bind (fun p => R.ofO (f p.1) p.2) = R.ofO (o.bind f) ev := by cases o <;> rfl
theorem xo_sl (ha : XE X W e τ) (hl : XP X W lo l) (hh : XP X W hi h) : XO X W (.Subscript e (.Slice lo hi none p2) pos) (fresh1 (slc τ l h)) := by
  obtain ⟨ta, pa, sa⟩ := ha
  obtain ⟨tl, pl, sl⟩ := hl
  obtain ⟨th, ph, sh⟩ := hh
  refine ⟨_, pe_slice sl_all pa pl ph, fun Z H σ ev Q I p => ?_⟩
  unfold fresh1 slc at p
  rw [bind_assoc] at p
  refine sa.next I Stp.refl p fun d ev' v Z' H' I' s s' rp q => ?_
  rw [bind_assoc] at q
  have q : Post (gm X) W Z H σ ev ((l ev').bind fun q => (h q.2).bind fun r => R.ofO ((tSl q.1 r.1 d).bind tLs) r.2) (OkO (gm X) Z H σ ev Q) := by
    have e : (fun a => R.bind (R.bind (h a.2) fun r => R.ofO (tSl a.1 r.1 d) r.2) fun p => R.ofO (tLs p.1) p.2) = fun q : Option Int × Ev => (h q.2).bind fun r => R.ofO ((tSl q.1 r.1 d).bind tLs) r.2 := by
      funext a; rw [bind_assoc]; congr 1; funext r; rw [ofO_bind]
    rw [← e]; exact q
  refine slice_core (g := fun a b _ => (tSl a b d).bind tLs) sl sh I' s q fun a b d2 ev2 Z2 H2 I2 s2 s12 e2 q2 => ?_
  cases e3 : tSl a b d with
  | none => rw [e3] at e2; cases e2
  | some t =>
    rw [e3] at e2
    have e2 : tLs t = some d2 := e2
    rw [tLs_some e2] at e3
    exact t_slO I2 s2 (.inl (rp.mono s12.zz)) e3 q2
theorem xe_slN (i : Nat) {x : Str} {p1 : Pos} (hl : XP X W lo l) (hh : XP X W hi h) (hN : X.N[i]? = some x := by rfl) (hv : Vis X.env.scope x := by first | exact Or.inl rfl | exact Or.inr (Or.inl rfl) | exact Or.inr (Or.inr rfl)) (hd : (x == ("__debug__" : Str)) = false := by decide)
    (hcd : (x == ("__classdict__" : Str)) = false := by decide) : XE X W (.Subscript (.Name x p1) (.Slice lo hi none p2) pos) (slcN i l h) := by
  obtain ⟨tl, pl, sl⟩ := hl
  obtain ⟨th, ph, sh⟩ := hh
  refine ⟨_, pe_slice sl_all (pe_var hN hv hd hcd) pl ph, fun Z H σ ev Q I p => ?_⟩
  unfold slcN at p
  split at p
  · rename_i hf
    cases h0 : slT ev[i]? with
    | none => rw [h0] at hf; cases hf
    | some t0 =>
      obtain ⟨v, hv, _⟩ := I.slT h0
      refine ⟨v, hv, ?_⟩
      refine slice_core (g := fun a b ev' => (slT ev'[i]?).bind (tSl a b)) sl sh I Stp.refl p fun a b d2 ev2 Z2 H2 I2 s2 s12 e2 q2 => ?_
      cases h1 : slT ev2[i]? with
      | none => rw [h1] at e2; cases e2
      | some t =>
        rw [h1] at e2
        obtain ⟨v', hv', r⟩ := I2.slT h1
        rw [hv] at hv'; cases hv'
        exact t_slE I2 r e2 fun v3 Z3 H3 I3 s3 r3 => q2 v3 Z3 H3 I3 (s2.trans s3) r3
  · exact p.elim
theorem xo_slN (i : Nat) {x : Str} {p1 : Pos} (hl : XP X W lo l) (hh : XP X W hi h) (hN : X.N[i]? = some x := by rfl) (hv : Vis X.env.scope x := by first | exact Or.inl rfl | exact Or.inr (Or.inl rfl) | exact Or.inr (Or.inr rfl)) (hd : (x == ("__debug__" : Str)) = false := by decide)
    (hcd : (x == ("__classdict__" : Str)) = false := by decide) : XO X W (.Subscript (.Name x p1) (.Slice lo hi none p2) pos) (fresh1 (slcN i l h)) := by
  obtain ⟨tl, pl, sl⟩ := hl
  obtain ⟨th, ph, sh⟩ := hh
  refine ⟨_, pe_slice sl_all (pe_var hN hv hd hcd) pl ph, fun Z H σ ev Q I p => ?_⟩
  unfold fresh1 slcN at p
  split at p
  · rename_i hf
    rw [bind_assoc] at p
    have p : Post (gm X) W Z H σ ev ((l ev).bind fun q => (h q.2).bind fun r => R.ofO (((slT r.2[i]?).bind (tSl q.1 r.1)).bind tLs) r.2) (OkO (gm X) Z H σ ev Q) := by
      have e : (fun a => R.bind (R.bind (h a.2) fun r => R.ofO ((slT r.2[i]?).bind (tSl a.1 r.1)) r.2) fun p => R.ofO (tLs p.1) p.2) = fun q : Option Int × Ev => (h q.2).bind fun r => R.ofO (((slT r.2[i]?).bind (tSl q.1 r.1)).bind tLs) r.2 := by
        funext a; rw [bind_assoc]; congr 1; funext r; rw [ofO_bind]
      rw [← e]; exact p
    cases h0 : slT ev[i]? with
    | none => rw [h0] at hf; cases hf
    | some t0 =>
      obtain ⟨v, hv, _⟩ := I.slT h0
      refine ⟨v, hv, ?_⟩
      refine slice_core (g := fun a b ev' => ((slT ev'[i]?).bind (tSl a b)).bind tLs) sl sh I Stp.refl p fun a b d2 ev2 Z2 H2 I2 s2 s12 e2 q2 => ?_
      cases h1 : slT ev2[i]? with
      | none => rw [h1] at e2; cases e2
      | some t =>
        rw [h1] at e2
        obtain ⟨v', hv', r⟩ := I2.slT h1
        rw [hv] at hv'; cases hv'
        cases e3 : tSl a b t with
        | none => rw [show (some t).bind (tSl a b) = none from e3] at e2; cases e2
        | some t' =>
          rw [show (some t).bind (tSl a b) = some t' from e3] at e2
          have e2 : tLs t' = some d2 := e2
          rw [tLs_some e2] at e3
          exact t_slO I2 s2 r e3 q2
  · exact p.elim
end
end PH
set_option Elab.async false
set_option linter.all false
set_option maxRecDepth 100000
namespace PH
open PySem PySem.Spec PyProof.Rows L2
/-! ### calls of built-in functions and types -/
def CallT (G : Gm) (r : List V → Hp → VK → Prop) (f : List T → Option T) : Prop := ∀ Z H σ ev xs ts d Q, StOk G Z H σ ev → Reps G Z ts xs → f ts = some d → (OkE G Z H σ ev Q d ev) → r xs H Q
def callA (f : List T → Option T) (τ : XRL) : XR := fun ev => (τ ev).bind fun p => R.ofO (f p.1) p.2
/-- .. that gives a fresh list -/
def CallO (G : Gm) (r : List V → Hp → VK → Prop) (f : List T → Option (List T)) : Prop := ∀ Z H Z0 H0 σ ev0 ev xs ts d Q, StOk G Z H σ ev → Stp Z0 H0 σ ev0 Z H σ ev → Reps G Z ts xs → f ts = some d → (OkO G Z0 H0 σ ev0 Q d ev) → r xs H Q
def callAO (f : List T → Option (List T)) (τ : XRL) : XRL := fun ev => (τ ev).bind fun p => R.ofO (f p.1) p.2
section
variable {X : Cx} {W : WX} {x : Str} {p pos : Pos} {e : Expr} {es : List Expr} {τ : XRL} {id ty : String} {r : List V → Hp → VK → Prop} {f : List T → Option T} {g : List T → Option (List T)}
theorem xe_callB (hc : CallR X (.builtin id) r) (k : CallT (gm X) r f) (hg : Gl X x) (hm : X.mg x = none) (hv : bootBuiltins x = some (.builtin id)) (ha : XA X W (e :: es) τ) (hn : x ≠ "__name__" := by decide) (hdb : (x == ("__debug__" : Str)) = false := by decide)
    (he : starEach (e :: es) X.env = (false, eval e X.env) :: starEach es X.env := by rfl) (hpl : (backTo pos (starEach es X.env)).any (·.1) = false := by rfl) : XE X W (.Call (.Name x p) (e :: es) [] pos) (callA f τ) := by
  obtain ⟨t, pa, sa⟩ := ha
  refine ⟨_, pe_callB hc hg hm hv pa hn hdb he hpl, fun Z H σ ev Q I p => ?_⟩
  refine sa.next I Stp.refl p fun d ev' v Z' H' I' s s' rp q => ?_
  obtain ⟨y, e, q⟩ := post_some q
  exact k Z' H' σ ev' v d y Q I' rp e fun v2 Z2 H2 I2 s2 r2 => q v2 Z2 H2 I2 (s.trans s2) r2
theorem xe_callTy (hc : CallR X (.type ty) r) (k : CallT (gm X) r f) (hg : Gl X x) (hm : X.mg x = none) (hv : bootBuiltins x = some (.type ty)) (ha : XA X W (e :: es) τ) (hn : x ≠ "__name__" := by decide) (hdb : (x == ("__debug__" : Str)) = false := by decide)
    (he : starEach (e :: es) X.env = (false, eval e X.env) :: starEach es X.env := by rfl) (hpl : (backTo pos (starEach es X.env)).any (·.1) = false := by rfl) : XE X W (.Call (.Name x p) (e :: es) [] pos) (callA f τ) := by
  obtain ⟨t, pa, sa⟩ := ha
  refine ⟨_, pe_callTy hc hg hm hv pa hn hdb he hpl, fun Z H σ ev Q I p => ?_⟩
  refine sa.next I Stp.refl p fun d ev' v Z' H' I' s s' rp q => ?_
  obtain ⟨y, e, q⟩ := post_some q
  exact k Z' H' σ ev' v d y Q I' rp e fun v2 Z2 H2 I2 s2 r2 => q v2 Z2 H2 I2 (s.trans s2) r2
theorem xo_callTy (hc : CallR X (.type ty) r) (k : CallO (gm X) r g) (hg : Gl X x) (hm : X.mg x = none) (hv : bootBuiltins x = some (.type ty)) (ha : XA X W (e :: es) τ) (hn : x ≠ "__name__" := by decide) (hdb : (x == ("__debug__" : Str)) = false := by decide)
    (he : starEach (e :: es) X.env = (false, eval e X.env) :: starEach es X.env := by rfl) (hpl : (backTo pos (starEach es X.env)).any (·.1) = false := by rfl) : XO X W (.Call (.Name x p) (e :: es) [] pos) (callAO g τ) := by
  obtain ⟨t, pa, sa⟩ := ha
  refine ⟨_, pe_callTy hc hg hm hv pa hn hdb he hpl, fun Z H σ ev Q I p => ?_⟩
  refine sa.next I Stp.refl p fun d ev' v Z' H' I' s s' rp q => ?_
  obtain ⟨y, e, q⟩ := post_some q
  exact k Z' H' Z H σ ev ev' v d y Q I' s rp e q
/-- a built-in type as a value -/
theorem xe_ty (n : Ty) (hg : Gl X x) (hm : X.mg x = none) (hv : bootBuiltins x = some (.type n.name) := by decide +kernel) (hn : x ≠ "__name__" := by decide) (hd : (x == ("__debug__" : Str)) = false := by decide) : XE X W (.Name x pos) (kT (.ty n)) :=
  ⟨_, pe_bltn hg hm hv (show RelV (.ty n.name) (.type n.name) from rfl) hn hd, SE.const fun _ => .ty n⟩
end
def tAbs : List T → Option T
  | [.int i] => some (.int (if i < 0 then -i else i))
  | _ => none
def tInt : List T → Option T
  | [.int i] => some (.int i)
  | [.bl b] => some (.int (if b then 1 else 0))
  | [.str x] => if x.length ≤ 640 then (PySem.intText? x).map .int else none
  | _ => none
def tStr : List T → Option T
  | [.int i] => if i.natAbs.log2 < 1920 then some (.str (toString i)) else none
  | _ => none
def tLen : List T → Option T
  | [.str x] => if x.length ≤ sizeLine then some (.int x.length) else none
  | [t] => t.items.map fun xs => .int xs.length
  | _ => none
def tMax2 : List T → Option T
  | [.int i, .int j] => some (.int (if j > i then j else i))
  | _ => none
def tMin2 : List T → Option T
  | [.int i, .int j] => some (.int (if j < i then j else i))
  | _ => none
def asInts : List T → Option (List Int)
  | [] => some []
  | .int i :: xs => (asInts xs).map (i :: ·)
  | _ :: _ => none
def asBls : List T → Option (List Bool)
  | [] => some []
  | .bl i :: xs => (asBls xs).map (i :: ·)
  | _ :: _ => none
def asStrs : List T → Option (List Str)
  | [] => some []
  | .str i :: xs => (asStrs xs).map (i :: ·)
  | _ :: _ => none
theorem asInts_eq : ∀ {ts : List T} {ns : List Int}, asInts ts = some ns → ts = ns.map T.int
  | [], _, h => by cases h; rfl
  | .int i :: xs, ns, h => by
    cases e : asInts xs with
    | none => simp [asInts, e] at h
    | some ms => simp [asInts, e] at h; subst h; rw [List.map_cons, asInts_eq e]
theorem asBls_eq : ∀ {ts : List T} {ns : List Bool}, asBls ts = some ns → ts = ns.map T.bl
  | [], _, h => by cases h; rfl
  | .bl i :: xs, ns, h => by
    cases e : asBls xs with
    | none => simp [asBls, e] at h
    | some ms => simp [asBls, e] at h; subst h; rw [List.map_cons, asBls_eq e]
theorem asStrs_eq : ∀ {ts : List T} {ns : List Str}, asStrs ts = some ns → ts = ns.map T.str
  | [], _, h => by cases h; rfl
  | .str i :: xs, ns, h => by
    cases e : asStrs xs with
    | none => simp [asStrs, e] at h
    | some ms => simp [asStrs, e] at h; subst h; rw [List.map_cons, asStrs_eq e]
@[simp] theorem asInts_map : ∀ ns : List Int, asInts (ns.map T.int) = some ns
  | [] => rfl
  | n :: ns => by simp [asInts, asInts_map ns]
@[simp] theorem asBls_map : ∀ ns : List Bool, asBls (ns.map T.bl) = some ns
  | [] => rfl
  | n :: ns => by simp [asBls, asBls_map ns]
@[simp] theorem asStrs_map : ∀ ns : List Str, asStrs (ns.map T.str) = some ns
  | [] => rfl
  | n :: ns => by simp [asStrs, asStrs_map ns]
def tSum : List T → Option T
  | [.lst xs] => (asInts xs).map fun ns => .int ns.sum
  | _ => none
def tAll : List T → Option T
  | [.lst xs] => (asBls xs).map fun bs => .bl (bs.all id)
  | _ => none
def tAny : List T → Option T
  | [.lst xs] => (asBls xs).map fun bs => .bl (bs.any id)
  | _ => none
/-- the greatest of a list or tuple of ints -/
def mxL : List Int → Option Int
  | [] => none
  | x :: xs => match mxL xs with
    | none => some x
    | some y => some (if x < y then y else x)
theorem mxL_spec : ∀ {ns : List Int} {m : Int}, mxL ns = some m → m ∈ ns ∧ ∀ y ∈ ns, y ≤ m
  | [], _, h => by cases h
  | x :: xs, m, h => by
    cases e : mxL xs with
    | none =>
      simp [mxL, e] at h
      subst h
      have : xs = [] := by
        cases xs with
        | nil => rfl
        | cons y ys => simp [mxL] at e; split at e <;> cases e
      subst this
      simp
    | some y =>
      obtain ⟨h1, h2⟩ := mxL_spec e
      simp [mxL, e] at h
      by_cases hx : x < y
      · rw [if_pos hx] at h; subst h
        exact ⟨List.mem_cons_of_mem _ h1, fun z hz => by rcases List.mem_cons.mp hz with rfl | hz; omega; exact h2 z hz⟩
      · rw [if_neg hx] at h; subst h
        exact ⟨List.mem_cons_self, fun z hz => by rcases List.mem_cons.mp hz with rfl | hz; omega; have := h2 z hz; omega⟩
theorem mxL_some : ∀ {ns : List Int}, ns ≠ [] → ∃ m, mxL ns = some m
  | [], h => absurd rfl h
  | x :: xs, _ => by unfold mxL; split <;> exact ⟨_, rfl⟩
theorem mxL_uniq {ns : List Int} {m k : Int} (h : mxL ns = some m) (h1 : k ∈ ns) (h2 : ∀ y ∈ ns, y ≤ k) : k = m := by
  obtain ⟨a, b⟩ := mxL_spec h
  have := h2 m a
  have := b k h1
  omega
def mnL (ns : List Int) : Option Int := (mxL (ns.map fun n => -n)).map fun n => -n
theorem mnL_spec {ns : List Int} {m : Int} (h : mnL ns = some m) : m ∈ ns ∧ ∀ y ∈ ns, m ≤ y := by
  unfold mnL at h
  cases e : mxL (ns.map fun n => -n) with
  | none => rw [e] at h; cases h
  | some k =>
    rw [e] at h; cases h
    obtain ⟨a, b⟩ := mxL_spec e
    obtain ⟨z, hz, rfl⟩ := List.mem_map.mp a
    refine ⟨by simpa using hz, fun y hy => ?_⟩
    have := b (-y) (List.mem_map.mpr ⟨y, hy, rfl⟩)
    show - -z ≤ y
    omega
theorem mnL_uniq {ns : List Int} {m k : Int} (h : mnL ns = some m) (h1 : k ∈ ns) (h2 : ∀ y ∈ ns, k ≤ y) : k = m := by
  obtain ⟨a, b⟩ := mnL_spec h
  have := h2 m a
  have := b k h1
  omega
def tMaxL : List T → Option T
  | [.lst xs] => (asInts xs).bind fun ns => (mxL ns).map .int
  | _ => none
def tMinL : List T → Option T
  | [.lst xs] => (asInts xs).bind fun ns => (mnL ns).map .int
  | _ => none
def tMaxT : List T → Option T
  | [.tup xs] => (asInts xs).bind fun ns => (mxL ns).map .int
  | _ => none
def tListO : List T → Option (List T)
  | [t] => t.items
  | _ => none
def tTup : List T → Option T
  | [t] => t.items.map .tup
  | _ => none
section
variable {G : Gm}
theorem reps1 {Z : Hp} {t : T} {xs : List V} (r : Reps G Z [t] xs) : ∃ v, xs = [v] ∧ Rep G Z t v := by
  cases r with | cons a b => cases b; exact ⟨_, rfl, a⟩
theorem reps2 {Z : Hp} {t u : T} {xs : List V} (r : Reps G Z [t, u] xs) : ∃ v w, xs = [v, w] ∧ Rep G Z t v ∧ Rep G Z u w := by
  cases r with | cons a b => cases b with | cons b c => cases c; exact ⟨_, _, rfl, a, b⟩
theorem c_abs : CallT G (fun xs H Q => ∃ i, xs = [.int i] ∧ Q (.int (if i < 0 then -i else i)) H) tAbs := by
  intro Z H σ ev xs ts d Q I r e q
  unfold tAbs at e
  split at e
  · cases e
    obtain ⟨v, rfl, rv⟩ := reps1 r
    cases rv.intE
    exact ⟨_, rfl, OkE.flat I q (.int _)⟩
  · cases e
def rInt : List V → Hp → VK → Prop := fun xs H Q => ((∃ i, xs = [.int i] ∧ Q (.int i) H) ∨ ∃ k, xs = [.bl k] ∧ Q (.int (if k then 1 else 0)) H) ∨ ∃ a n, xs = [.str a] ∧ PySem.intText? a = some n ∧ a.length ≤ 640 ∧ Q (.int n) H
theorem cr_int {X : Cx} : CallR X (.type "int") rInt := CallR.or call_int1 call_int_str
theorem c_int : CallT G rInt tInt := by
  intro Z H σ ev xs ts d Q I r e q
  unfold tInt at e
  split at e
  · cases e
    obtain ⟨v, rfl, rv⟩ := reps1 r
    cases rv.intE
    exact .inl (.inl ⟨_, rfl, OkE.flat I q (.int _)⟩)
  · cases e
    obtain ⟨v, rfl, rv⟩ := reps1 r
    cases rv.blE
    exact .inl (.inr ⟨_, rfl, OkE.flat I q (.int _)⟩)
  · split at e
    · rename_i x hz
      obtain ⟨v, rfl, rv⟩ := reps1 r
      cases rv.strE
      cases h : PySem.intText? x with
      | none => rw [h] at e; cases e
      | some n => rw [h] at e; cases e; exact .inr ⟨_, _, rfl, h, hz, OkE.flat I q (.int _)⟩
    · cases e
  · cases e
theorem c_str : CallT G (fun xs H Q => ∃ i : Int, xs = [.int i] ∧ i.natAbs.log2 < 1920 ∧ Q (.str (toString i)) H) tStr := by
  intro Z H σ ev xs ts d Q I r e q
  unfold tStr at e
  split at e
  · split at e
    · cases e
      obtain ⟨v, rfl, rv⟩ := reps1 r
      cases rv.intE
      exact ⟨_, rfl, ‹_›, OkE.flat I q (.str _)⟩
    · cases e
  · cases e
def rLen (K : PySem.W.Frag) : List V → Hp → VK → Prop := fun xs H Q => ∃ x n, xs = [x] ∧ LenV K x H n ∧ Q (.int n) H
theorem c_len : CallT G (rLen G.K) tLen := by
  intro Z H σ ev xs ts d Q I r e q
  unfold tLen at e
  split at e
  · split at e
    · cases e
      obtain ⟨v, rfl, rv⟩ := reps1 r
      cases rv.strE
      exact ⟨_, _, rfl, ⟨‹_›, rfl⟩, OkE.flat I q (.int _)⟩
    · cases e
  · rename_i t _
    obtain ⟨v, rfl, rv⟩ := reps1 r
    cases h : t.items with
    | none => rw [h] at e; cases e
    | some us =>
      rw [h] at e; cases e
      obtain ⟨a, vs, rfl, sq, rs⟩ := rv.seq h
      refine ⟨_, us.length, rfl, ?_, OkE.flat I q (.int _)⟩
      rcases sq with sq | sq
      · exact .inl ⟨vs, I.sub.sqL sq, rs.length⟩
      · exact .inr ⟨vs, I.sub.sqT sq, rs.length⟩
  · cases e
theorem c_max2 : CallT G (fun xs H Q => ∃ i j, xs = [.int i, .int j] ∧ Q (.int (if j > i then j else i)) H) tMax2 := by
  intro Z H σ ev xs ts d Q I r e q
  unfold tMax2 at e
  split at e
  · cases e
    obtain ⟨v, w, rfl, rv, rw⟩ := reps2 r
    cases rv.intE; cases rw.intE
    exact ⟨_, _, rfl, OkE.flat I q (.int _)⟩
  · cases e
theorem c_min2 : CallT G (fun xs H Q => ∃ i j, xs = [.int i, .int j] ∧ Q (.int (if j < i then j else i)) H) tMin2 := by
  intro Z H σ ev xs ts d Q I r e q
  unfold tMin2 at e
  split at e
  · cases e
    obtain ⟨v, w, rfl, rv, rw⟩ := reps2 r
    cases rv.intE; cases rw.intE
    exact ⟨_, _, rfl, OkE.flat I q (.int _)⟩
  · cases e
theorem c_sum : CallT G (rSum G.K) tSum := by
  intro Z H σ ev xs ts d Q I r e q
  unfold tSum at e
  split at e
  · rename_i us
    obtain ⟨v, rfl, rv⟩ := reps1 r
    obtain ⟨a, vs, rfl, sl, rs⟩ := rv.lstE
    cases h : asInts us with
    | none => rw [h] at e; cases e
    | some ns =>
      rw [h] at e; cases e
      rw [asInts_eq h] at rs
      rw [rs.ints] at sl
      exact ⟨a, ns, rfl, SqL.of (I.sub _ _ sl), OkE.flat I q (.int _)⟩
  · cases e
theorem c_all : CallT G (rAll G.K) tAll := by
  intro Z H σ ev xs ts d Q I r e q
  unfold tAll at e
  split at e
  · rename_i us
    obtain ⟨v, rfl, rv⟩ := reps1 r
    obtain ⟨a, vs, rfl, sl, rs⟩ := rv.lstE
    cases h : asBls us with
    | none => rw [h] at e; cases e
    | some ns =>
      rw [h] at e; cases e
      rw [asBls_eq h] at rs
      rw [rs.bls] at sl
      exact ⟨a, ns, rfl, SqL.of (I.sub _ _ sl), OkE.flat I q (.bl _)⟩
  · cases e
theorem c_any : CallT G (rAny G.K) tAny := by
  intro Z H σ ev xs ts d Q I r e q
  unfold tAny at e
  split at e
  · rename_i us
    obtain ⟨v, rfl, rv⟩ := reps1 r
    obtain ⟨a, vs, rfl, sl, rs⟩ := rv.lstE
    cases h : asBls us with
    | none => rw [h] at e; cases e
    | some ns =>
      rw [h] at e; cases e
      rw [asBls_eq h] at rs
      rw [rs.bls] at sl
      exact ⟨a, ns, rfl, SqL.of (I.sub _ _ sl), OkE.flat I q (.bl _)⟩
  · cases e
theorem pos_of {ns : List Int} {m : Int} (h : m ∈ ns) : 0 < ns.length := List.length_pos_of_mem h
theorem c_maxL : CallT G (rMax G.K) tMaxL := by
  intro Z H σ ev xs ts d Q I r e q
  unfold tMaxL at e
  split at e
  · rename_i us
    obtain ⟨v, rfl, rv⟩ := reps1 r
    obtain ⟨a, vs, rfl, sl, rs⟩ := rv.lstE
    cases h : asInts us with
    | none => rw [h] at e; cases e
    | some ns =>
      rw [h] at e
      cases h2 : mxL ns with
      | none => simp [h2] at e
      | some m =>
        simp [h2] at e; subst e
        rw [asInts_eq h] at rs
        rw [rs.ints] at sl
        exact ⟨a, ns, rfl, SqL.of (I.sub _ _ sl), pos_of (mxL_spec h2).1, fun k h3 h4 => by rw [mxL_uniq h2 h3 h4]; exact OkE.flat I q (.int _)⟩
  · cases e
theorem c_minL : CallT G (rMin G.K) tMinL := by
  intro Z H σ ev xs ts d Q I r e q
  unfold tMinL at e
  split at e
  · rename_i us
    obtain ⟨v, rfl, rv⟩ := reps1 r
    obtain ⟨a, vs, rfl, sl, rs⟩ := rv.lstE
    cases h : asInts us with
    | none => rw [h] at e; cases e
    | some ns =>
      rw [h] at e
      cases h2 : mnL ns with
      | none => simp [h2] at e
      | some m =>
        simp [h2] at e; subst e
        rw [asInts_eq h] at rs
        rw [rs.ints] at sl
        exact ⟨a, ns, rfl, SqL.of (I.sub _ _ sl), pos_of (mnL_spec h2).1, fun k h3 h4 => by rw [mnL_uniq h2 h3 h4]; exact OkE.flat I q (.int _)⟩
  · cases e
/-- the greatest of a tuple of ints -/
def rMaxT (K : PySem.W.Frag) : List V → Hp → VK → Prop := fun vs H Q => ∃ (a : Addr) (ns : List Int), vs = [V.ref a] ∧ SqT K H a (ns.map V.int) ∧ 0 < ns.length ∧ ∀ m, m ∈ ns → (∀ y, y ∈ ns → y ≤ m) → Q (.int m) H
theorem cr_maxT {X : Cx} (hc : X.calm = true) : CallR X (.builtin "max") (rMaxT X.K) := by
  intro pins s σ H vs us Q I r h
  obtain ⟨a, ns, rfl, hs, hne, q⟩ := h
  obtain ⟨its, rv, hl, _⟩ := I.tuple hs
  rw [Vals.ref1 r]
  have hi := rv.ints
  obtain ⟨xs, e⟩ := hi.allInts.items
  have hn : numsOf (intItems xs).toList = ns := by rw [← e]; exact hi.numsOf
  rw [nums_intItems] at hn
  subst hn
  rw [e] at hl
  have hsz : 0 < xs.size := by simpa using hne
  have hT : s.heap.IsTuple a (intItems xs) := hl
  have hlt : a < s.heap.objs.size := by obtain ⟨_, e, _⟩ := hT; exact Heap.lt_size e
  refine call_max_walk (wpAny_pyIter_tuple hT ?_)
  refine ⟨_, _, _, _, _, _, _, rfl, Walks.tuple (A := X.A.in1) (I.ok.hd hc) _ a (Nat.ne_of_lt hlt) (intItems xs), ⟨⟨_, Heap.get?_push_size _ rfl, rfl, rfl⟩, hT.push _⟩, fun b hb => ?_, by simpa [intItems] using hsz, CmpOf.ints_gt (numAt xs) (fun _ _ => intItems_at), fun v h' tk hP hk => ?_⟩
  · show b < (s.heap.push _).objs.size
    rw [Heap.size_push]
    rcases List.mem_cons.mp hb with rfl | hb
    · exact Nat.lt_succ_self _
    · rcases List.mem_cons.mp hb with rfl | hb
      · exact Nat.lt_succ_of_lt hlt
      · cases hb
  · have hv : (intItems xs)[argBest (fun i j => decide (numAt xs i > numAt xs j)) (xs.size - 1)]? = some v := by simpa [intItems] using hP
    obtain ⟨t, rfl⟩ := intItems_at hv
    obtain ⟨h1, h2⟩ := argBest_gt (numAt xs) (xs.size - 1)
    have k : ∀ b o, s.heap.get? b = some o → h'.get? b = some o := fun b o e => by
      refine hk b o (fun hm => ?_) (Heap.get?_push_of_some _ e)
      rcases List.mem_cons.mp hm with e1 | hm
      · exact absurd (e1 ▸ Heap.lt_size e) (Nat.lt_irrefl _)
      · cases hm
    refine ⟨.int _, H, I.kept k, ⟨_, rfl⟩, q _ ?_ fun y hy => ?_⟩
    · rw [numAt_eq]; exact PySem.getD_mem (by rw [List.length_map, Array.length_toList]; omega)
    · obtain ⟨j, hj, rfl⟩ := mem_getD hy
      rw [List.length_map, Array.length_toList] at hj
      rw [← numAt_eq]; exact h2 j (by omega)
theorem c_maxT : CallT G (rMaxT G.K) tMaxT := by
  intro Z H σ ev xs ts d Q I r e q
  unfold tMaxT at e
  split at e
  · rename_i us
    obtain ⟨v, rfl, rv⟩ := reps1 r
    obtain ⟨a, vs, rfl, sl, rs⟩ := rv.tupE
    cases h : asInts us with
    | none => rw [h] at e; cases e
    | some ns =>
      rw [h] at e
      cases h2 : mxL ns with
      | none => simp [h2] at e
      | some m =>
        simp [h2] at e; subst e
        rw [asInts_eq h] at rs
        rw [rs.ints] at sl
        exact ⟨a, ns, rfl, I.sub.sqT sl, pos_of (mxL_spec h2).1, fun k h3 h4 => by rw [mxL_uniq h2 h3 h4]; exact OkE.flat I q (.int _)⟩
  · cases e
def rListOf (K : PySem.W.Frag) : List V → Hp → VK → Prop := fun xs H Q => ∃ p ys, xs = [.ref p] ∧ (SqL K H p ys ∨ SqT K H p ys) ∧ ∀ l, H l = none → Q (.ref l) (upd H l (.lst ys))
theorem c_list : CallO G (rListOf G.K) tListO := by
  intro Z H Z0 H0 σ ev0 ev xs ts d Q I s r e q
  unfold tListO at e
  split at e
  · obtain ⟨v, rfl, rv⟩ := reps1 r
    obtain ⟨a, vs, rfl, sq, rs⟩ := rv.seq e
    refine ⟨a, vs, rfl, ?_, fun l hl => OkO.new I s q rs hl⟩
    rcases sq with sq | sq
    · exact .inl (I.sub.sqL sq)
    · exact .inr (I.sub.sqT sq)
  · cases e
def rTupOf (K : PySem.W.Frag) : List V → Hp → VK → Prop := fun xs H Q => ∃ p ys, xs = [.ref p] ∧ ((SqL K H p ys ∧ ∀ l, H l = none → Q (.ref l) (upd H l (.tup ys))) ∨ (SqT K H p ys ∧ Q (.ref p) H))
theorem c_tup : CallT G (rTupOf G.K) tTup := by
  intro Z H σ ev xs ts d Q I r e q
  unfold tTup at e
  split at e
  · rename_i t
    obtain ⟨v, rfl, rv⟩ := reps1 r
    cases h : t.items with
    | none => rw [h] at e; cases e
    | some us =>
      rw [h] at e; cases e
      obtain ⟨a, vs, rfl, sq, rs⟩ := rv.seq h
      rcases sq with sq | sq
      · exact ⟨a, vs, rfl, .inl ⟨I.sub.sqL sq, fun l hl => OkE.newTup I q rs hl⟩⟩
      · exact ⟨a, vs, rfl, .inr ⟨I.sub.sqT sq, q _ _ _ I Stp.refl (.tup sq rs)⟩⟩
  · cases e
end
/-! ### isinstance -/
def T.tag : T → Option Ty
  | .non => some .non
  | .bl _ => some .bl
  | .int _ => some .int
  | .str _ => some .str
  | .tup _ => some .tup
  | .lst _ => some .lst
  | .ro _ => some .lst
  | _ => none
def Ty.isi (a b : Ty) : Bool := decide (a = b) || (decide (a = .bl) && decide (b = .int))
theorem Ty.kit : ∀ a b : Ty, kitB a.name b.name = some (a.isi b) := by
  intro a b
  cases a <;> cases b <;> decide +kernel
def tIsi : List T → Option T
  | [x, .ty n] => x.tag.map fun a => .bl (a.isi n)
  | _ => none
section
variable {G : Gm} {Z H : Hp}
theorem Rep.tyX {t : T} {v : V} {n : Ty} (s : Sub Z H) (r : Rep G Z t v) (e : t.tag = some n) : TyX G.K H v (.type n.name) := by
  cases r with
  | non => cases e; exact .base .non
  | bl b => cases e; exact .base (.bl b)
  | int i => cases e; exact .base (.int i)
  | str x => cases e; exact .base (.str x)
  | tup q rs =>
    cases e
    rcases s.sqT q with (h | ⟨o, h⟩) | ⟨o, its, k, h1, h2, _⟩
    · exact .base (.tup h)
    · exact .fTuple h
    · exact .kTuple h1 h2
  | lst q rs => cases e; exact .base (.lst (s _ _ q))
  | ro q =>
    cases e
    rcases s.sqL q with (h | ⟨o, h⟩) | ⟨o, its, k, h1, h2, _⟩
    · exact .base (.lst h)
    · exact .base (.frz h)
    · exact .kList h1 h2
  | ins _ _ _ => cases e
  | ty _ => cases e
  | cls _ => cases e
theorem c_isi : CallT G (rIsi G.K) tIsi := by
  intro Z H σ ev xs ts d Q I r e q
  unfold tIsi at e
  split at e
  · rename_i x n
    obtain ⟨v, w, rfl, rv, rw⟩ := reps2 r
    cases h : x.tag with
    | none => rw [h] at e; cases e
    | some a =>
      rw [h] at e; cases e
      cases rw
      exact ⟨v, .ty n.name, .type a.name, .type n.name, _, rfl, .ty _, rv.tyX I.sub h, kit_ty (Ty.kit a n), OkE.flat I q (.bl _)⟩
  · cases e
end
def tIsi2 (m n : Ty) : T → Option T := fun x => x.tag.map fun a => .bl (a.isi m || a.isi n)
section
variable {X : Cx} {W : WX} {p pos : Pos} {e e' : Expr} {es : List Expr} {τ : XRL} {τe : XR}
theorem xe_abs (hg : Gl X "abs") (hm : X.mg "abs" = none) (ha : XA X W (e :: es) τ) (he : starEach (e :: es) X.env = (false, eval e X.env) :: starEach es X.env := by rfl) (hpl : (backTo pos (starEach es X.env)).any (·.1) = false := by rfl) : XE X W (.Call (.Name "abs" p) (e :: es) [] pos) (callA tAbs τ) :=
  xe_callB call_abs c_abs hg hm boot_abs ha (by decide) (by decide) he hpl
theorem xe_intC (hg : Gl X "int") (hm : X.mg "int" = none) (ha : XA X W (e :: es) τ) (he : starEach (e :: es) X.env = (false, eval e X.env) :: starEach es X.env := by rfl) (hpl : (backTo pos (starEach es X.env)).any (·.1) = false := by rfl) : XE X W (.Call (.Name "int" p) (e :: es) [] pos) (callA tInt τ) :=
  xe_callTy cr_int c_int hg hm boot_int ha (by decide) (by decide) he hpl
theorem xe_strC (hg : Gl X "str") (hm : X.mg "str" = none) (ha : XA X W (e :: es) τ) (he : starEach (e :: es) X.env = (false, eval e X.env) :: starEach es X.env := by rfl) (hpl : (backTo pos (starEach es X.env)).any (·.1) = false := by rfl) : XE X W (.Call (.Name "str" p) (e :: es) [] pos) (callA tStr τ) :=
  xe_callTy call_str_int c_str hg hm boot_str ha (by decide) (by decide) he hpl
theorem xe_len (hg : Gl X "len") (hm : X.mg "len" = none) (ha : XA X W (e :: es) τ) (he : starEach (e :: es) X.env = (false, eval e X.env) :: starEach es X.env := by rfl) (hpl : (backTo pos (starEach es X.env)).any (·.1) = false := by rfl) : XE X W (.Call (.Name "len" p) (e :: es) [] pos) (callA tLen τ) :=
  xe_callB call_len c_len hg hm boot_len ha (by decide) (by decide) he hpl
theorem xe_max2 (hc : X.calm = true) (hg : Gl X "max") (hm : X.mg "max" = none) (ha : XA X W (e :: es) τ) (he : starEach (e :: es) X.env = (false, eval e X.env) :: starEach es X.env := by rfl) (hpl : (backTo pos (starEach es X.env)).any (·.1) = false := by rfl) : XE X W (.Call (.Name "max" p) (e :: es) [] pos) (callA tMax2 τ) :=
  xe_callB (call_max2 hc) c_max2 hg hm boot_max ha (by decide) (by decide) he hpl
theorem xe_min2 (hc : X.calm = true) (hg : Gl X "min") (hm : X.mg "min" = none) (ha : XA X W (e :: es) τ) (he : starEach (e :: es) X.env = (false, eval e X.env) :: starEach es X.env := by rfl) (hpl : (backTo pos (starEach es X.env)).any (·.1) = false := by rfl) : XE X W (.Call (.Name "min" p) (e :: es) [] pos) (callA tMin2 τ) :=
  xe_callB (call_min2 hc) c_min2 hg hm boot_min ha (by decide) (by decide) he hpl
theorem xe_maxL (hc : X.calm = true) (hg : Gl X "max") (hm : X.mg "max" = none) (ha : XA X W (e :: es) τ) (he : starEach (e :: es) X.env = (false, eval e X.env) :: starEach es X.env := by rfl) (hpl : (backTo pos (starEach es X.env)).any (·.1) = false := by rfl) : XE X W (.Call (.Name "max" p) (e :: es) [] pos) (callA tMaxL τ) :=
  xe_callB (cr_max hc) c_maxL hg hm boot_max ha (by decide) (by decide) he hpl
theorem xe_maxT (hc : X.calm = true) (hg : Gl X "max") (hm : X.mg "max" = none) (ha : XA X W (e :: es) τ) (he : starEach (e :: es) X.env = (false, eval e X.env) :: starEach es X.env := by rfl) (hpl : (backTo pos (starEach es X.env)).any (·.1) = false := by rfl) : XE X W (.Call (.Name "max" p) (e :: es) [] pos) (callA tMaxT τ) :=
  xe_callB (cr_maxT hc) c_maxT hg hm boot_max ha (by decide) (by decide) he hpl
theorem xe_sum (hc : X.calm = true) (hg : Gl X "sum") (hm : X.mg "sum" = none) (ha : XA X W (e :: es) τ) (he : starEach (e :: es) X.env = (false, eval e X.env) :: starEach es X.env := by rfl) (hpl : (backTo pos (starEach es X.env)).any (·.1) = false := by rfl) : XE X W (.Call (.Name "sum" p) (e :: es) [] pos) (callA tSum τ) :=
  xe_callB (cr_sum hc) c_sum hg hm boot_sum ha (by decide) (by decide) he hpl
theorem xe_all (hc : X.calm = true) (hg : Gl X "all") (hm : X.mg "all" = none) (ha : XA X W (e :: es) τ) (he : starEach (e :: es) X.env = (false, eval e X.env) :: starEach es X.env := by rfl) (hpl : (backTo pos (starEach es X.env)).any (·.1) = false := by rfl) : XE X W (.Call (.Name "all" p) (e :: es) [] pos) (callA tAll τ) :=
  xe_callB (cr_all hc) c_all hg hm boot_all ha (by decide) (by decide) he hpl
theorem xe_any (hc : X.calm = true) (hg : Gl X "any") (hm : X.mg "any" = none) (ha : XA X W (e :: es) τ) (he : starEach (e :: es) X.env = (false, eval e X.env) :: starEach es X.env := by rfl) (hpl : (backTo pos (starEach es X.env)).any (·.1) = false := by rfl) : XE X W (.Call (.Name "any" p) (e :: es) [] pos) (callA tAny τ) :=
  xe_callB (cr_any hc) c_any hg hm boot_any ha (by decide) (by decide) he hpl
theorem xo_list (hg : Gl X "list") (hm : X.mg "list" = none) (ha : XA X W (e :: es) τ) (he : starEach (e :: es) X.env = (false, eval e X.env) :: starEach es X.env := by rfl) (hpl : (backTo pos (starEach es X.env)).any (·.1) = false := by rfl) : XO X W (.Call (.Name "list" p) (e :: es) [] pos) (callAO tListO τ) :=
  xo_callTy call_list_of c_list hg hm boot_list ha (by decide) (by decide) he hpl
theorem xe_tuple (hg : Gl X "tuple") (hm : X.mg "tuple" = none) (ha : XA X W (e :: es) τ) (he : starEach (e :: es) X.env = (false, eval e X.env) :: starEach es X.env := by rfl) (hpl : (backTo pos (starEach es X.env)).any (·.1) = false := by rfl) : XE X W (.Call (.Name "tuple" p) (e :: es) [] pos) (callA tTup τ) :=
  xe_callTy call_tuple_of c_tup hg hm boot_tuple ha (by decide) (by decide) he hpl
theorem xe_isi (hg : Gl X "isinstance") (hm : X.mg "isinstance" = none) (ha : XA X W (e :: es) τ) (he : starEach (e :: es) X.env = (false, eval e X.env) :: starEach es X.env := by rfl) (hpl : (backTo pos (starEach es X.env)).any (·.1) = false := by rfl) : XE X W (.Call (.Name "isinstance" p) (e :: es) [] pos) (callA tIsi τ) :=
  xe_callB call_isi c_isi hg hm boot_isinstance ha (by decide) (by decide) he hpl
/-- isinstance(e, (A, B)) -/
theorem xe_isi2 (m n : Ty) {x y : Str} {p1 p2 p3 : Pos} {k} (hg : Gl X "isinstance") (hm : X.mg "isinstance" = none) (ha : XE X W e τe) (gx : Gl X x) (mx : X.mg x = none) (gy : Gl X y) (my : X.mg y = none)
    (bx : bootBuiltins x = some (.type m.name) := by decide +kernel) (by_ : bootBuiltins y = some (.type n.name) := by decide +kernel) (nx : x ≠ "__name__" := by decide) (dx : (x == ("__debug__" : Str)) = false := by decide) (ny : y ≠ "__name__" := by decide) (dy : (y == ("__debug__" : Str)) = false := by decide)
    (he : starEach [e, .Tuple [.Name x p1, .Name y p2] k p3] X.env = (false, eval e X.env) :: starEach [.Tuple [.Name x p1, .Name y p2] k p3] X.env := by rfl) (hpl : (backTo pos (starEach [.Tuple [.Name x p1, .Name y p2] k p3] X.env)).any (·.1) = false := by rfl) :
    XE X W (.Call (.Name "isinstance" p) [e, .Tuple [.Name x p1, .Name y p2] k p3] [] pos) (e1 (tIsi2 m n) τe) := by
  obtain ⟨te, pe, se⟩ := ha
  have bnx : PE X (.Name x p1) (tC (.ty m.name)) := pe_bltn gx mx bx (show RelV (.ty m.name) (.type m.name) from rfl) nx dx
  have bny : PE X (.Name y p2) (tC (.ty n.name)) := pe_bltn gy my by_ (show RelV (.ty n.name) (.type n.name) from rfl) ny dy
  refine ⟨_, pe_callB call_isiT hg hm boot_isinstance (pa_cons pe (pa_cons (pe_tup (pa_cons bnx (pa_cons bny pa_nil))) pa_nil) he) (by decide) (by decide) he hpl, fun Z H σ ev Q I p => ?_⟩
  refine se.next I Stp.refl p fun d ev' v Z' H' I' s s' rp q => ?_
  obtain ⟨y', e, q⟩ := post_some q
  have e : tIsi2 m n d = some y' := e
  unfold tIsi2 at e
  cases h : d.tag with
  | none => rw [h] at e; cases e
  | some a =>
    rw [h] at e; cases e
    refine ⟨by show 2 ≤ sizeLine; decide, fun tp hp => ?_⟩
    have I2 := I'.new (o := .tup [V.ty m.name, V.ty n.name]) hp
    have s2 := Stp.new I' (o := .tup [V.ty m.name, V.ty n.name]) hp
    refine ⟨v, tp, [.ty m.name, .ty n.name], .type a.name, [.type m.name, .type n.name], _, rfl, upd_same, .cons (.ty _) (.cons (.ty _) .nil), rp.tyX (I'.sub.trans fun b o e => by rw [upd_ne (ne_of_none e hp)]; exact e) h, ?_, q _ _ _ I2 (s.trans s2) (.bl _)⟩
    refine kitAny_cons (kit_ty (Ty.kit a m)) (fun hb => ?_) (fun hb => by rw [hb]; rfl)
    refine kitAny_cons (kit_ty (Ty.kit a n)) (fun hc => ?_) (fun hc => by rw [hc]; simp)
    rw [hb, hc]; exact kitAny_nil
/-- len of what stands in slot i (an own list stays own) -/
def slLen (i : Nat) : XR := fun ev => R.ofO ((slT ev[i]?).bind fun t => tLen [t]) ev
theorem xe_lenN (i : Nat) {x : Str} {p1 : Pos} (hg : Gl X "len") (hm : X.mg "len" = none) (hN : X.N[i]? = some x := by rfl) (hv : Vis X.env.scope x := by first | exact Or.inl rfl | exact Or.inr (Or.inl rfl) | exact Or.inr (Or.inr rfl)) (hd : (x == ("__debug__" : Str)) = false := by decide)
    (hcd : (x == ("__classdict__" : Str)) = false := by decide) : XE X W (.Call (.Name "len" p) [.Name x p1] [] pos) (slLen i) := by
  refine ⟨_, pe_callB call_len hg hm boot_len (pa_cons (pe_var hN hv hd hcd) pa_nil), fun Z H σ ev Q I p => ?_⟩
  obtain ⟨d, e, q⟩ := post_some p
  cases h : slT ev[i]? with
  | none => rw [h] at e; cases e
  | some t =>
    rw [h] at e
    have e : tLen [t] = some d := e
    obtain ⟨v, hv, r | ⟨a, vs, ts, rfl, rfl, hh, r⟩⟩ := I.slT h
    · exact ⟨v, hv, c_len Z H σ ev [v] [t] d Q I (.cons r .nil) e q⟩
    · cases e
      exact ⟨.ref a, hv, .ref a, ts.length, rfl, .inl ⟨vs, SqL.of hh, r.length⟩, OkE.flat I q (.int _)⟩
end
end PH
set_option Elab.async false
set_option linter.all false
set_option maxRecDepth 100000
namespace PH
open PySem PySem.Spec PyProof.Rows L2
/-! ### statements -/
inductive Fl where
  | nx | ret (t : T) | reto (ts : List T) | brk | cnt
abbrev XRS := Ev → R (Fl × Ev)
abbrev OkS (G : Gm) (Z H : Hp) (σ : L2.St) (ev : Ev) (D : Ends) : Fl → Ev → Prop := fun f ev' => match f with
  | .nx => ∀ σ' Z' H', StOk G Z' H' σ' ev' → Stp Z H σ ev Z' H' σ' ev' → D.nx σ' H'
  | .brk => ∀ σ' Z' H', StOk G Z' H' σ' ev' → Stp Z H σ ev Z' H' σ' ev' → D.bk σ' H'
  | .cnt => ∀ σ' Z' H', StOk G Z' H' σ' ev' → Stp Z H σ ev Z' H' σ' ev' → D.ct σ' H'
  | .ret d => ∀ v σ' Z' H', StOk G Z' H' σ' ev' → Stp Z H σ ev Z' H' σ' ev' → Rep G Z' d v → D.rt v H'
  | .reto ts => ∀ a vs σ' Z' H', StOk G Z' H' σ' ev' → Stp Z H σ ev Z' H' σ' ev' → Fr' H σ ev a → Z' a = none → (∀ i, ¬ Own σ' ev' i a) → H' a = some (.lst vs) → Reps G Z' ts vs → D.rt (.ref a) H'
def SS (G : Gm) (W : WX) (t : TS) (τ : XRS) : Prop := ∀ Z H σ ev D, StOk G Z H σ ev → Post G W Z H σ ev (τ ev) (OkS G Z H σ ev D) → t D σ H
structure XS (X : Cx) (W : WX) (st : Stmt) (τ : XRS) : Prop where
  ex : ∃ t, PS X st t ∧ SS (gm X) W t τ
structure XSs (X : Cx) (W : WX) (st : List Stmt) (τ : XRS) : Prop where
  ex : ∃ t, PSs X st t ∧ SS (gm X) W t τ
def nextS : XRS := fun ev => .ok (.nx, ev)
def seqS (a b : XRS) : XRS := fun ev => (a ev).bind fun p => match p.1 with
  | .nx => b p.2
  | f => .ok (f, p.2)
def retS (τ : XR) : XRS := fun ev => (τ ev).bind fun p => .ok (.ret p.1, p.2)
def ifS (c : XRB) (a b : XRS) : XRS := fun ev => (c ev).bind fun p => if p.1 = true then a p.2 else b p.2
def dropS (τ : XR) : XRS := fun ev => (τ ev).bind fun p => .ok (.nx, p.2)
def isBox (s : Option Sl) : Bool := match s with
  | some (.box _) => true
  | _ => false
/-- a slot is set (a box never) -/
def putS (i : Nat) (s : Sl) (ev : Ev) : R (Fl × Ev) := if isBox ev[i]? = true then .bad else .ok (.nx, ev.set i s)
def setS (i : Nat) (τ : XR) : XRS := fun ev => (τ ev).bind fun p => putS i (.val p.1) p.2
def setO (i : Nat) (τ : XRL) : XRS := fun ev => (τ ev).bind fun p => putS i (.own p.1) p.2
section
variable {G : Gm} {W : WX} {Z H Z0 H0 : Hp} {σ σ0 : L2.St} {ev ev0 : Ev}
theorem OkS.later {D : Ends} (s : Stp Z0 H0 σ0 ev0 Z H σ ev) {f : Fl} {e : Ev} (h : OkS G Z0 H0 σ0 ev0 D f e) : OkS G Z H σ ev D f e := by
  cases f with
  | reto ts => exact fun a vs σ' Z' H' I s' h1 => h a vs σ' Z' H' I (s.trans s') (h1.early s)
  | nx => exact fun σ' Z' H' I s' => h σ' Z' H' I (s.trans s')
  | brk => exact fun σ' Z' H' I s' => h σ' Z' H' I (s.trans s')
  | cnt => exact fun σ' Z' H' I s' => h σ' Z' H' I (s.trans s')
  | ret d => exact fun v σ' Z' H' I s' => h v σ' Z' H' I (s.trans s')
theorem Post.laterS {D : Ends} {x : R (Fl × Ev)} (s : Stp Z0 H0 σ0 ev0 Z H σ ev) (h : Post G W Z0 H0 σ0 ev0 x (OkS G Z0 H0 σ0 ev0 D)) : Post G W Z H σ ev x (OkS G Z H σ ev D) :=
  Post.later s h fun _ _ q => OkS.later s q
/-- the same with any other start -/
theorem SS.run {t : TS} {τ : XRS} (h : SS G W t τ) {D : Ends} (I : StOk G Z H σ ev) (s : Stp Z0 H0 σ0 ev0 Z H σ ev) (p : Post G W Z0 H0 σ0 ev0 (τ ev) (OkS G Z0 H0 σ0 ev0 D)) : t D σ H :=
  h Z H σ ev D I (Post.laterS s p)
theorem SE.nextS {t : TE} {τ : XR} (h : SE G W t τ) {α : Type} {Q : VK} {f : T × Ev → R (α × Ev)} {ok : α → Ev → Prop} (I : StOk G Z H σ ev) (s : Stp Z0 H0 σ0 ev0 Z H σ ev)
    (p : Post G W Z0 H0 σ0 ev0 ((τ ev).bind f) ok)
    (k : ∀ d ev' v Z' H', StOk G Z' H' σ ev' → Stp Z0 H0 σ0 ev0 Z' H' σ ev' → Rep G Z' d v → Post G W Z0 H0 σ0 ev0 (f (d, ev')) ok → Q v H') : t σ H Q :=
  h Z H σ ev Q I (Post.later s (Post.bind p) fun d ev' q v Z' H' I' s' r => k d ev' v Z' H' I' (s.trans s') r q)
theorem SB.nextS {t : TT} {τ : XRB} (h : SB G W t τ) {α : Type} {Q : Bool → Hp → Prop} {f : Bool × Ev → R (α × Ev)} {ok : α → Ev → Prop} (I : StOk G Z H σ ev) (s : Stp Z0 H0 σ0 ev0 Z H σ ev)
    (p : Post G W Z0 H0 σ0 ev0 ((τ ev).bind f) ok)
    (k : ∀ d ev' Z' H', StOk G Z' H' σ ev' → Stp Z0 H0 σ0 ev0 Z' H' σ ev' → Post G W Z0 H0 σ0 ev0 (f (d, ev')) ok → Q d H') : t σ H Q :=
  h Z H σ ev Q I (Post.later s (Post.bind p) fun d ev' q Z' H' I' s' => k d ev' Z' H' I' (s.trans s') q)
/-- what a slot is set to: a value, or a fresh list -/
def NewSl (G : Gm) (Z H : Hp) (σ : L2.St) (ev : Ev) : Sl → V → Prop
  | .val t, v => Rep G Z t v
  | .own ts, v => ∃ a vs, v = .ref a ∧ Z a = none ∧ H a = some (.lst vs) ∧ Reps G Z ts vs ∧ ∀ i, ¬ Own σ ev i a
  | _, _ => False
theorem own_put {i j : Nat} {s : Sl} {v : V} {a : Addr} (hl : ev.length = σ.length) (h : Own (σ.set i (some v)) (ev.set i s) j a) : (j = i ∧ oAt s (some v) = some a) ∨ (j ≠ i ∧ Own σ ev j a) := by
  obtain ⟨s', v', e1, e2, e3⟩ := h
  by_cases hj : j = i
  · subst hj
    have l1 : j < ev.length := by have := (List.getElem?_eq_some_iff.mp e1).1; simpa using this
    rw [List.getElem?_set_self l1] at e1
    rw [List.getElem?_set_self (by omega)] at e2
    cases e1; cases e2
    exact .inl ⟨rfl, e3⟩
  · rw [List.getElem?_set_ne (Ne.symm hj)] at e1 e2
    exact .inr ⟨hj, s', v', e1, e2, e3⟩
theorem StOk.put (I : StOk G Z H σ ev) {i : Nat} {s : Sl} {v : V} (n : NewSl G Z H σ ev s v) (fr : ∀ a, oAt s (some v) = some a → H0 a = none ∨ ∃ j, Own σ0 ev0 j a) (hb : isBox ev[i]? = false) (st : Stp Z0 H0 σ0 ev0 Z H σ ev) :
    StOk G Z H (σ.set i (some v)) (ev.set i s) ∧ Stp Z0 H0 σ0 ev0 Z H (σ.set i (some v)) (ev.set i s) := by
  have ownN : ∀ a, oAt s (some v) = some a → ∀ k, ¬ Own σ ev k a := fun a e k w => by
    cases s with
    | no => cases e
    | val t => cases e
    | own ts => obtain ⟨b, vs, rfl, _, _, _, q⟩ := n; cases e; exact q k w
    | box ts => exact n.elim
  refine ⟨⟨I.sub, by simp [I.len], fun j s' v' e1 e2 => ?_, fun j k a p q => ?_⟩, ⟨st.zz, st.hh, st.zf, fun j a p => ?_, fun j ts e => ?_, st.th, by rw [List.length_set]; exact st.ln⟩⟩
  · by_cases hj : j = i
    · subst hj
      have l1 : j < ev.length := by have := (List.getElem?_eq_some_iff.mp e1).1; simpa using this
      rw [List.getElem?_set_self l1] at e1
      rw [List.getElem?_set_self (by rw [← I.len]; exact l1)] at e2
      cases e1; cases e2
      cases s with
      | no => exact n.elim
      | val t => exact n
      | own ts => obtain ⟨b, vs, rfl, z, hh, r, _⟩ := n; exact ⟨z, vs, hh, r⟩
      | box ts => exact n.elim
    · rw [List.getElem?_set_ne (Ne.symm hj)] at e1 e2
      exact I.slots j s' v' e1 e2
  · rcases own_put I.len p with ⟨j1, e1⟩ | ⟨h1, p1⟩
    · rcases own_put I.len q with ⟨k1, e2⟩ | ⟨h2, q1⟩
      · rw [j1, k1]
      · exact absurd q1 (ownN a e1 k)
    · rcases own_put I.len q with ⟨k1, e2⟩ | ⟨h2, q1⟩
      · exact absurd p1 (ownN a e2 j)
      · exact I.dist j k a p1 q1
  · rcases own_put I.len p with ⟨j1, e1⟩ | ⟨h1, p1⟩
    · exact fr a e1
    · exact st.ow j a p1
  · obtain ⟨e2, ts', e3⟩ := st.bx j ts e
    have hj : j ≠ i := fun h => by subst h; rw [e3] at hb; cases hb
    exact ⟨by rw [List.getElem?_set_ne (Ne.symm hj)]; exact e2, ts', by rw [List.getElem?_set_ne (Ne.symm hj)]; exact e3⟩
theorem post_put {D : Ends} {i : Nat} {s : Sl} (q : Post G W Z0 H0 σ0 ev0 (putS i s ev) (OkS G Z0 H0 σ0 ev0 D)) : isBox ev[i]? = false ∧ OkS G Z0 H0 σ0 ev0 D .nx (ev.set i s) := by
  unfold putS at q
  split at q
  · exact q.elim
  · rename_i h; exact ⟨by simpa using h, q⟩
end
section
variable {X : Cx} {W : WX} {st : Stmt} {rest : List Stmt} {α β : XRS} {pos : Pos} {e c : Expr} {τ : XR} {τo : XRL} {γ : XRB}
theorem xss_nil : XSs X W [] nextS := ⟨_, pss_nil, fun Z H σ ev D I p => p _ _ _ I Stp.refl⟩
theorem xss_one (h : XS X W st α) : XSs X W [st] α := by
  obtain ⟨t, p, s⟩ := h
  exact ⟨t, pss_one p, s⟩
theorem xss_cons (h1 : XS X W st α) (h2 : XSs X W rest β) : XSs X W (st :: rest) (seqS α β) := by
  obtain ⟨t, p, s⟩ := h1
  obtain ⟨u, p2, s2⟩ := h2
  refine ⟨_, pss_cons p p2, fun Z H σ ev D I q => ?_⟩
  refine s Z H σ ev { D with nx := u D } I (Post.imp (Post.bind q) fun f ev' k => ?_)
  cases f with
  | nx => exact fun σ' Z' H' I' s' => s2.run I' s' k
  | brk => exact k
  | cnt => exact k
  | ret d => exact k
  | reto d => exact k
theorem xs_pass : XS X W (.Pass pos) nextS := ⟨_, ps_pass, fun Z H σ ev D I p => p _ _ _ I Stp.refl⟩
theorem xs_break : XS X W (.Break pos) (fun ev => .ok (.brk, ev)) := ⟨_, ps_break, fun Z H σ ev D I p => p _ _ _ I Stp.refl⟩
theorem xs_cont : XS X W (.Continue pos) (fun ev => .ok (.cnt, ev)) := ⟨_, ps_continue, fun Z H σ ev D I p => p _ _ _ I Stp.refl⟩
theorem xs_ret (h : XE X W e τ) : XS X W (.Return (some e) pos) (retS τ) := by
  obtain ⟨t, p, s⟩ := h
  refine ⟨_, ps_ret p, fun Z H σ ev D I q => ?_⟩
  exact s.nextS I Stp.refl q fun d ev' v Z' H' I' s' r k => k v _ _ _ I' s' r
theorem xs_retN : XS X W (.Return none pos) (fun ev => .ok (.ret .non, ev)) := ⟨_, ps_retN, fun Z H σ ev D I p => p _ _ _ _ I Stp.refl .non⟩
theorem xs_if {a b : List Stmt} (hc : XT X W c γ) (ha : XSs X W a α) (hb : XSs X W b β) : XS X W (.If c a b pos) (ifS γ α β) := by
  obtain ⟨tc, pc, sc⟩ := hc
  obtain ⟨ta, pa, sa⟩ := ha
  obtain ⟨tb, pb, sb⟩ := hb
  refine ⟨_, ps_if pc pa pb, fun Z H σ ev D I q => ?_⟩
  refine sc.nextS I Stp.refl q fun d ev' Z' H' I' s' k => ?_
  cases d with
  | true => exact sa.run I' s' k
  | false => exact sb.run I' s' k
/-- an expression whose value is dropped -/
theorem xs_expr (h : XE X W e τ) (hs : swapsWith e none pos.line X.env = pure false := by rfl) : XS X W (.Expr e pos) (dropS τ) := by
  obtain ⟨t, p, s⟩ := h
  refine ⟨_, ps_expr p hs, fun Z H σ ev D I q => ?_⟩
  exact s.nextS I Stp.refl q fun d ev' v Z' H' I' s' r k => k _ _ _ I' s'
theorem xs_never : XS X W st (fun _ => .bad) := ⟨_, ps_never, fun Z H σ ev D I q => q.elim⟩
theorem xss_never {sts : List Stmt} : XSs X W sts (fun _ => .bad) := ⟨_, pss_never, fun Z H σ ev D I q => q.elim⟩
/-- name = e -/
theorem xs_set (i : Nat) {x : Str} {pos' : Pos} (hN : X.N.Nodup) (h : XE X W e τ) (hi : X.N[i]? = some x := by rfl) (hx : Loc X.env.scope x := by first | exact Or.inl rfl | exact Or.inr rfl) (hs : swapsWith e (some (.Name x pos')) pos.line X.env = pure false := by rfl)
    (hf : X.fn x = true ∨ X.env.scope.names.lookup x = some .local := by first | exact .inl rfl | exact .inr rfl | assumption) : XS X W (.Assign [.Name x pos'] e pos) (setS i τ) := by
  obtain ⟨t, p, s⟩ := h
  refine ⟨_, ps_set hN hi hx p hs hf, fun Z H σ ev D I q => ?_⟩
  refine s.nextS I Stp.refl q fun d ev' v Z' H' I' s' r k => ?_
  obtain ⟨hb, k⟩ := post_put k
  obtain ⟨I2, s2⟩ := I'.put (s := .val d) (v := v) r (fun a e => nomatch e) hb s'
  exact k _ _ _ I2 s2
/-- name = a fresh list, the name's own -/
theorem xs_setO (i : Nat) {x : Str} {pos' : Pos} (hN : X.N.Nodup) (h : XO X W e τo) (hi : X.N[i]? = some x := by rfl) (hx : Loc X.env.scope x := by first | exact Or.inl rfl | exact Or.inr rfl) (hs : swapsWith e (some (.Name x pos')) pos.line X.env = pure false := by rfl)
    (hf : X.fn x = true ∨ X.env.scope.names.lookup x = some .local := by first | exact .inl rfl | exact .inr rfl | assumption) : XS X W (.Assign [.Name x pos'] e pos) (setO i τo) := by
  obtain ⟨t, p, s⟩ := h
  refine ⟨_, ps_set hN hi hx p hs hf, fun Z H σ ev D I q => ?_⟩
  refine s Z H σ ev _ I (Post.imp (Post.bind q) fun ts ev' k a vs Z' H' I' s' h1 h2 h3 h4 r => ?_)
  obtain ⟨hb, k⟩ := post_put k
  obtain ⟨I2, s2⟩ := I'.put (s := .own ts) (v := .ref a) ⟨a, vs, rfl, h2, h4, r, h3⟩ (fun b e => by cases e; exact .inl h1) hb s'
  exact k _ _ _ I2 s2
end
/-- a fresh list is handed out -/
def retO (τ : XRL) : XRS := fun ev => (τ ev).bind fun p => .ok (.reto p.1, p.2)
/-- an own list is handed out -/
def retN (i : Nat) : XRS := fun ev => match ev[i]? with
  | some (.own ts) => .ok (.reto ts, ev.set i .no)
  | _ => .bad
/-- slot i takes over the own list of slot j -/
def moveS (i j : Nat) : XRS := fun ev => match ev[j]? with
  | some (.own ts) => putS i (.own ts) (ev.set j .no)
  | _ => .bad
section
variable {G : Gm} {Z H Z0 H0 : Hp} {σ σ0 : L2.St} {ev ev0 : Ev}
theorem StOk.drop (I : StOk G Z H σ ev) {i : Nat} {ts : List T} (h : ev[i]? = some (.own ts)) : StOk G Z H σ (ev.set i .no) ∧ (∀ j a, Own σ (ev.set i .no) j a → j ≠ i ∧ Own σ ev j a) := by
  have back : ∀ j b, Own σ (ev.set i .no) j b → j ≠ i ∧ Own σ ev j b := fun j b q => by
    rcases own_set q with ⟨rfl, v, _, e3⟩ | q
    · cases v <;> cases e3
    · exact q
  refine ⟨⟨I.sub, by rw [List.length_set]; exact I.len, fun j s v e1 e2 => ?_, fun j k b p q => I.dist j k b (back j b p).2 (back k b q).2⟩, back⟩
  by_cases hj : j = i
  · subst hj
    have hl : j < ev.length := (List.getElem?_eq_some_iff.mp h).1
    rw [List.getElem?_set_self hl] at e1
    cases e1; trivial
  · rw [List.getElem?_set_ne (Ne.symm hj)] at e1
    exact I.slots j s v e1 e2
theorem Stp.drop (s : Stp Z0 H0 σ0 ev0 Z H σ ev) {i : Nat} {ts : List T} (h : ev[i]? = some (.own ts)) (b : ∀ j a, Own σ (ev.set i .no) j a → j ≠ i ∧ Own σ ev j a) : Stp Z0 H0 σ0 ev0 Z H σ (ev.set i .no) := by
  refine ⟨s.zz, s.hh, s.zf, fun j a p => s.ow j a (b j a p).2, fun j us e => ?_, s.th, s.ln⟩
  obtain ⟨e1, us', e2⟩ := s.bx j us e
  have hj : j ≠ i := fun hj => by subst hj; rw [h] at e2; cases e2
  exact ⟨e1, us', by rw [List.getElem?_set_ne (Ne.symm hj)]; exact e2⟩
end
section
variable {X : Cx} {W : WX} {pos : Pos} {e : Expr} {τo : XRL}
theorem xs_retO (h : XO X W e τo) : XS X W (.Return (some e) pos) (retO τo) := by
  obtain ⟨t, p, s⟩ := h
  refine ⟨_, ps_ret p, fun Z H σ ev D I q => ?_⟩
  exact s Z H σ ev _ I (Post.imp (Post.bind q) fun ts ev' k a vs Z' H' I' s' h1 h2 h3 h4 r => k a vs _ _ _ I' s' (.inl h1) h2 h3 h4 r)
theorem xs_retOwn (i : Nat) {x : Str} {p1 : Pos} (hN : X.N[i]? = some x := by rfl) (hv : Vis X.env.scope x := by first | exact Or.inl rfl | exact Or.inr (Or.inl rfl) | exact Or.inr (Or.inr rfl)) (hd : (x == ("__debug__" : Str)) = false := by decide)
    (hcd : (x == ("__classdict__" : Str)) = false := by decide) : XS X W (.Return (some (.Name x p1)) pos) (retN i) := by
  refine ⟨_, ps_ret (pe_var hN hv hd hcd), fun Z H σ ev D I q => ?_⟩
  unfold retN at q
  split at q
  · rename_i ts e
    obtain ⟨a, vs, e2, z, hh, r, w⟩ := I.ownAt e
    obtain ⟨I2, b⟩ := I.drop e
    exact ⟨_, e2, q a vs σ Z H I2 (Stp.refl.drop e b) (.inr ⟨i, w⟩) z (fun j w' => (b j a w').1 (I.dist j i a (b j a w').2 w)) hh r⟩
  · exact q.elim
theorem xs_move (i j : Nat) {x y : Str} {p1 pos' : Pos} (hN : X.N.Nodup) (hi : X.N[i]? = some x := by rfl) (hx : Loc X.env.scope x := by first | exact Or.inl rfl | exact Or.inr rfl) (hj : X.N[j]? = some y := by rfl) (hv : Vis X.env.scope y := by first | exact Or.inl rfl | exact Or.inr (Or.inl rfl) | exact Or.inr (Or.inr rfl))
    (hs : swapsWith (.Name y p1) (some (.Name x pos')) pos.line X.env = pure false := by rfl) (hf : X.fn x = true ∨ X.env.scope.names.lookup x = some .local := by first | exact .inl rfl | exact .inr rfl | assumption) (hd : (y == ("__debug__" : Str)) = false := by decide)
    (hcd : (y == ("__classdict__" : Str)) = false := by decide) : XS X W (.Assign [.Name x pos'] (.Name y p1) pos) (moveS i j) := by
  refine ⟨_, ps_set hN hi hx (pe_var hj hv hd hcd) hs hf, fun Z H σ ev D I q => ?_⟩
  unfold moveS at q
  split at q
  · rename_i ts e
    obtain ⟨a, vs, e2, z, hh, r, w⟩ := I.ownAt e
    obtain ⟨I2, b⟩ := I.drop e
    obtain ⟨hb, k⟩ := post_put q
    have s2 := (Stp.refl (Z := Z) (H := H) (σ := σ) (ev := ev)).drop e b
    obtain ⟨I3, s3⟩ := I2.put (s := .own ts) (v := .ref a) ⟨a, vs, rfl, z, hh, r, fun j' w' => (b j' a w').1 (I.dist j' j a (b j' a w').2 w)⟩ (fun b' e' => by cases e'; exact .inr ⟨j, w⟩) hb s2
    exact ⟨_, e2, k _ _ _ I3 s3⟩
  · exact q.elim
end
/-! ### a, b = x, y -/
inductive Rv where
  | v (t : T) | o (ts : List T)
def Rv.sl : Rv → Sl
  | .v t => .val t
  | .o ts => .own ts
abbrev XRM := Ev → R (List Rv × Ev)
/-- values and fresh lists, each of the latter by itself -/
inductive RvsOk (G : Gm) (Z H : Hp) (σ : L2.St) (ev : Ev) (H0 : Hp) : List Addr → List Rv → List V → Prop
  | nil {us : List Addr} : RvsOk G Z H σ ev H0 us [] []
  | v {us : List Addr} {t : T} {x : V} {rs : List Rv} {xs : List V} : Rep G Z t x → RvsOk G Z H σ ev H0 us rs xs → RvsOk G Z H σ ev H0 us (.v t :: rs) (x :: xs)
  | o {us : List Addr} {ts : List T} {a : Addr} {vs : List V} {rs : List Rv} {xs : List V} : H0 a = none → Z a = none → H a = some (.lst vs) → Reps G Z ts vs → (∀ i, ¬ Own σ ev i a) → a ∉ us → RvsOk G Z H σ ev H0 (a :: us) rs xs → RvsOk G Z H σ ev H0 us (.o ts :: rs) (.ref a :: xs)
abbrev OkM (G : Gm) (Z H : Hp) (σ : L2.St) (ev : Ev) (Q : List V → Hp → Prop) : List Rv → Ev → Prop := fun ts ev' => ∀ vs Z' H' (us : List Addr), (∀ a ∈ us, H a ≠ none) → StOk G Z' H' σ ev' → Stp Z H σ ev Z' H' σ ev' → RvsOk G Z' H' σ ev' H us ts vs → Q vs H'
def SM (G : Gm) (W : WX) (t : TA) (τ : XRM) : Prop := ∀ Z H σ ev Q, StOk G Z H σ ev → Post G W Z H σ ev (τ ev) (OkM G Z H σ ev Q) → t σ H Q
structure XM (X : Cx) (W : WX) (es : List Expr) (τ : XRM) : Prop where
  ex : ∃ t, PA X es t ∧ SM (gm X) W t τ
def nilM : XRM := fun ev => .ok ([], ev)
def consMv (τa : XR) (τr : XRM) : XRM := fun ev => (τa ev).bind fun p => (τr p.2).bind fun q => .ok (.v p.1 :: q.1, q.2)
def consMo (τa : XRL) (τr : XRM) : XRM := fun ev => (τa ev).bind fun p => (τr p.2).bind fun q => .ok (.o p.1 :: q.1, q.2)
section
variable {G : Gm} {W : WX} {Z H Z0 H0 Z1 H1 : Hp} {σ : L2.St} {ev ev0 ev1 : Ev}
/-- the start may be an earlier one -/
theorem RvsOk.early {us : List Addr} {rs : List Rv} {xs : List V} (h : RvsOk G Z H σ ev H1 us rs xs) (k : ∀ a, H1 a = none → H0 a = none) : RvsOk G Z H σ ev H0 us rs xs := by
  induction h with
  | nil => exact .nil
  | v r _ ih => exact .v r ih
  | o h1 h2 h3 r h4 h5 _ ih => exact .o (k _ h1) h2 h3 r h4 h5 ih
/-- what is used besides -/
theorem RvsOk.used {us vs : List Addr} {rs : List Rv} {xs : List V} (h : RvsOk G Z H σ ev H1 us rs xs) (k : ∀ a, a ∈ vs → a ∈ us) : RvsOk G Z H σ ev H1 vs rs xs := by
  induction h generalizing vs with
  | nil => exact .nil
  | v r _ ih => exact .v r (ih k)
  | o h1 h2 h3 r h4 h5 _ ih => exact .o h1 h2 h3 r h4 (fun m => h5 (k _ m)) (ih fun a m => by
      rcases List.mem_cons.mp m with rfl | m
      · exact List.mem_cons_self
      · exact List.mem_cons_of_mem _ (k a m))
theorem RvsOk.user {us vs : List Addr} {rs : List Rv} {xs : List V} (h : RvsOk G Z H σ ev H1 us rs xs) (k : ∀ a, a ∈ vs → a ∈ us ∨ H1 a ≠ none) : RvsOk G Z H σ ev H1 vs rs xs := by
  induction h generalizing vs with
  | nil => exact .nil
  | v r _ ih => exact .v r (ih k)
  | o h1 h2 h3 r h4 h5 _ ih => exact .o h1 h2 h3 r h4 (fun m => (k _ m).elim h5 fun z => z h1) (ih fun a m => by
      rcases List.mem_cons.mp m with rfl | m
      · exact .inl List.mem_cons_self
      · exact (k a m).imp (List.mem_cons_of_mem _) id)
end
section
variable {X : Cx} {W : WX} {e : Expr} {es : List Expr} {τa : XR} {τo : XRL} {τ : XRM}
theorem xm_nil : XM X W [] nilM := ⟨tNil, pa_nil, fun Z H σ ev Q I p => p [] Z H [] (fun _ h => nomatch h) I Stp.refl .nil⟩
theorem xm_v (ha : XE X W e τa) (hr : XM X W es τ) (hs : starEach (e :: es) X.env = (false, eval e X.env) :: starEach es X.env := by rfl) : XM X W (e :: es) (consMv τa τ) := by
  obtain ⟨ta, pa, sa⟩ := ha
  obtain ⟨tr, pr, sr⟩ := hr
  refine ⟨_, pa_cons pa pr hs, fun Z H σ ev Q I p => ?_⟩
  refine sa.next I Stp.refl p fun d ev' v Z' H' I' s s' rp q => ?_
  refine sr Z' H' σ ev' _ I' (Post.later s (Post.bind q) fun rs ev2 k xs Z2 H2 us hu I2 s2 r2 => ?_)
  refine k _ Z2 H2 [] (fun _ h => nomatch h) I2 (s.trans s2) (.v (rp.mono s2.zz) ?_)
  exact (r2.early fun a h => s.fresh h).used fun a m => nomatch m
theorem xm_o (ha : XO X W e τo) (hr : XM X W es τ) (hs : starEach (e :: es) X.env = (false, eval e X.env) :: starEach es X.env := by rfl) : XM X W (e :: es) (consMo τo τ) := by
  obtain ⟨ta, pa, sa⟩ := ha
  obtain ⟨tr, pr, sr⟩ := hr
  refine ⟨_, pa_cons pa pr hs, fun Z H σ ev Q I p => ?_⟩
  refine sa Z H σ ev _ I (Post.imp (Post.bind p) fun ts ev' q a vs Z' H' I' s h1 h2 h3 h4 r => ?_)
  refine sr Z' H' σ ev' _ I' (Post.later s (Post.bind q) fun rs ev2 k xs Z2 H2 us hu I2 s2 r2 => ?_)
  have z2 : Z2 a = none := by
    cases e2 : Z2 a with
    | none => rfl
    | some o =>
      rcases s2.zf a o e2 with z | z | ⟨i, w⟩
      · rw [h2] at z; cases z
      · rw [h4] at z; cases z
      · exact absurd w (h3 i)
  have n2 : ∀ i, ¬ Own σ ev2 i a := fun i w => by
    rcases s2.ow i a w with z | ⟨j, w⟩
    · rw [h4] at z; cases z
    · exact h3 j w
  refine k _ Z2 H2 [] (fun _ h => nomatch h) I2 (s.trans s2) (.o h1 z2 (s2.hh a _ h4 h3) (r.mono s2.zz) n2 (fun m => nomatch m) ?_)
  refine RvsOk.early (r2.user (vs := [a]) fun b m => ?_) fun b h => s.fresh h
  have e : b = a := by simpa using m
  subst e
  exact .inr (by rw [h4]; simp)
end
def parS (ix : List Nat) (τ : XRM) : XRS := fun ev => (τ ev).bind fun p => if p.1.length = ix.length ∧ (ix.all fun i => !isBox p.2[i]?) = true then .ok (.nx, (ix.zip p.1).foldl (fun e q => e.set q.1 q.2.sl) p.2) else .bad
end PH
set_option Elab.async false
set_option linter.all false
set_option maxRecDepth 100000
namespace PH
open PySem PySem.Spec PyProof.Rows L2
section
variable {G : Gm} {W : WX} {Z H Z0 H0 Z1 H1 : Hp} {σ σ0 : L2.St} {ev ev0 ev1 : Ev}
def setsE (ix : List Nat) (rs : List Rv) (ev : Ev) : Ev := (ix.zip rs).foldl (fun e q => e.set q.1 q.2.sl) ev
def setsV (ix : List Nat) (xs : List V) (σ : L2.St) : L2.St := (ix.zip xs).foldl (fun e q => e.set q.1 (some q.2)) σ
theorem RvsOk.put {us : List Addr} {rs : List Rv} {xs : List V} {i : Nat} {s : Sl} {v : V} (hl : ev.length = σ.length) (h : RvsOk G Z H σ ev H0 us rs xs) (k : ∀ a, oAt s (some v) = some a → a ∈ us) : RvsOk G Z H (σ.set i (some v)) (ev.set i s) H0 us rs xs := by
  induction h with
  | nil => exact .nil
  | v r _ ih => exact .v r (ih k)
  | @o us ts a vs rs xs h1 h2 h3 r h4 h5 _ ih =>
    refine .o h1 h2 h3 r (fun j w => ?_) h5 (ih fun b e => List.mem_cons_of_mem _ (k b e))
    rcases own_put hl w with ⟨_, e⟩ | ⟨_, w⟩
    · exact h5 (k _ e)
    · exact h4 j w
theorem box_set {i j : Nat} {s : Sl} (hs : ∀ ts, s ≠ .box ts) (h : isBox ev[j]? = false) : isBox (ev.set i s)[j]? = false := by
  by_cases e : j = i
  · subst e
    by_cases l : j < ev.length
    · rw [List.getElem?_set_self l]
      cases s <;> first | rfl | exact absurd rfl (hs _)
    · rw [List.getElem?_eq_none (by simpa using l)]; rfl
  · rw [List.getElem?_set_ne (Ne.symm e)]; exact h
theorem Rv.noBox (r : Rv) : ∀ ts, r.sl ≠ .box ts := fun ts h => by cases r <;> cases h
theorem putMany : ∀ {ix : List Nat} {rs : List Rv} {xs : List V} {us : List Addr} {σ : L2.St} {ev : Ev}, RvsOk G Z H σ ev H0 us rs xs → StOk G Z H σ ev → Stp Z0 H0 σ0 ev0 Z H σ ev → (ix.all fun i => !isBox ev[i]?) = true →
    StOk G Z H (setsV ix xs σ) (setsE ix rs ev) ∧ Stp Z0 H0 σ0 ev0 Z H (setsV ix xs σ) (setsE ix rs ev)
  | [], _, _, _, _, _, _, I, s, _ => ⟨I, s⟩
  | _ :: _, [], [], _, _, _, .nil, I, s, _ => ⟨I, s⟩
  | i :: ix, r :: rs, x :: xs, us, σ, ev, h, I, s, hb => by
    have hb0 : isBox ev[i]? = false := by have := (List.all_eq_true.mp hb) i List.mem_cons_self; simpa using this
    have hb1 : ∀ j ∈ ix, isBox ev[j]? = false := fun j hj => by have := (List.all_eq_true.mp hb) j (List.mem_cons_of_mem _ hj); simpa using this
    have hb2 : (ix.all fun j => !isBox (ev.set i r.sl)[j]?) = true := List.all_eq_true.mpr fun j hj => by rw [box_set r.noBox (hb1 j hj)]; rfl
    cases h with
    | @v _ t _ _ _ rp hr =>
      obtain ⟨I2, s2⟩ := I.put (s := .val _) (v := x) rp (fun a e => nomatch e) hb0 s
      have hr2 : RvsOk G Z H (σ.set i (some x)) (ev.set i (.val t)) H0 us rs xs := hr.put (s := .val t) (v := x) I.len fun a e => nomatch e
      exact putMany (ix := ix) hr2 I2 s2 hb2
    | @o _ ts a vs _ _ h1 h2 h3 rp h4 h5 hr =>
      obtain ⟨I2, s2⟩ := I.put (s := .own _) (v := .ref _) ⟨_, _, rfl, h2, h3, rp, h4⟩ (fun b e => by cases e; exact .inl h1) hb0 s
      have hr2 : RvsOk G Z H (σ.set i (some (.ref a))) (ev.set i (.own ts)) H0 (a :: us) rs xs := hr.put (s := .own ts) (v := .ref a) I.len fun b e => by cases e; exact List.mem_cons_self
      exact putMany (ix := ix) hr2 I2 s2 hb2
theorem RvsOk.length {us : List Addr} {rs : List Rv} {xs : List V} (h : RvsOk G Z H σ ev H0 us rs xs) : rs.length = xs.length := by
  induction h with
  | nil => rfl
  | v _ _ ih => simp [ih]
  | o _ _ _ _ _ _ _ ih => simp [ih]
end
section
variable {X : Cx} {W : WX} {τ : XRM}
theorem post_par {D : Ends} {G : Gm} {Z0 H0 : Hp} {σ0 : L2.St} {ev0 ev : Ev} {ix : List Nat} {rs : List Rv} (q : Post G W Z0 H0 σ0 ev0 (if rs.length = ix.length ∧ (ix.all fun i => !isBox ev[i]?) = true then R.ok (Fl.nx, (ix.zip rs).foldl (fun e q => e.set q.1 q.2.sl) ev) else .bad) (OkS G Z0 H0 σ0 ev0 D)) :
    rs.length = ix.length ∧ (ix.all fun i => !isBox ev[i]?) = true ∧ OkS G Z0 H0 σ0 ev0 D .nx (setsE ix rs ev) := by
  split at q
  · rename_i h; exact ⟨h.1, h.2, q⟩
  · exact q.elim
theorem xs_par (i j : Nat) {x y : Str} {a b : Expr} {px py pt pos : Pos} {kt k2 pt2} (hc : X.calm = true) (hN : X.N.Nodup) (ha : XM X W [a, b] τ) (hi : X.N[i]? = some x := by rfl) (hj : X.N[j]? = some y := by rfl) (hij : i ≠ j := by decide)
    (hx : X.env.scope.names.lookup x = some .local := by rfl) (hy : X.env.scope.names.lookup y = some .local := by rfl)
    (hw : swappedStores [.Tuple [.Name x px, .Name y py] kt pt] (.Tuple [a, b] k2 pt2) X.env = pure (some [x, y]) := by rfl)
    (hs : swapsWithSole [.Tuple [.Name x px, .Name y py] kt pt] (.Tuple [a, b] k2 pt2) pos.line X.env = pure false := by rfl) :
    XS X W (.Assign [.Tuple [.Name x px, .Name y py] kt pt] (.Tuple [a, b] k2 pt2) pos) (parS [i, j] τ) := by
  obtain ⟨t, p, s⟩ := ha
  refine ⟨_, ps_par hc hN hi hj hij hx hy p hw hs, fun Z H σ ev D I q => ?_⟩
  refine s Z H σ ev _ I (Post.imp (Post.bind q) fun rs ev' k xs Z' H' us hu I' s' r => ?_)
  obtain ⟨h1, h2, k⟩ := post_par k
  have h1 : rs.length = 2 := h1
  obtain ⟨I2, s2⟩ := putMany (ix := [i, j]) r I' s' h2
  have l := r.length
  rw [h1] at l
  match xs, l with
  | [v, w], _ => exact ⟨v, w, rfl, k _ _ _ I2 s2⟩
theorem xs_par3 (i j l : Nat) {x y z : Str} {a b c : Expr} {px py pz pt pos : Pos} {kt k2 pt2} (hc : X.calm = true) (hN : X.N.Nodup) (ha : XM X W [a, b, c] τ) (hi : X.N[i]? = some x := by rfl) (hj : X.N[j]? = some y := by rfl) (hl : X.N[l]? = some z := by rfl) (hij : i ≠ j := by decide) (hil : i ≠ l := by decide) (hjl : j ≠ l := by decide)
    (hx : X.env.scope.names.lookup x = some .local := by rfl) (hy : X.env.scope.names.lookup y = some .local := by rfl) (hz : X.env.scope.names.lookup z = some .local := by rfl)
    (hw : swappedStores [.Tuple [.Name x px, .Name y py, .Name z pz] kt pt] (.Tuple [a, b, c] k2 pt2) X.env = pure (some [x, y, z]) := by rfl)
    (hs : swapsWithSole [.Tuple [.Name x px, .Name y py, .Name z pz] kt pt] (.Tuple [a, b, c] k2 pt2) pos.line X.env = pure false := by rfl) :
    XS X W (.Assign [.Tuple [.Name x px, .Name y py, .Name z pz] kt pt] (.Tuple [a, b, c] k2 pt2) pos) (parS [i, j, l] τ) := by
  obtain ⟨t, p, s⟩ := ha
  refine ⟨_, ps_par3 hc hN hi hj hl hij hil hjl hx hy hz p hw hs, fun Z H σ ev D I q => ?_⟩
  refine s Z H σ ev _ I (Post.imp (Post.bind q) fun rs ev' k xs Z' H' us hu I' s' r => ?_)
  obtain ⟨h1, h2, k⟩ := post_par k
  have h1 : rs.length = 3 := h1
  obtain ⟨I2, s2⟩ := putMany (ix := [i, j, l]) r I' s' h2
  have l := r.length
  rw [h1] at l
  match xs, l with
  | [v, w, u], _ => exact ⟨v, w, u, rfl, k _ _ _ I2 s2⟩
end
/-! ### targets: names and tuples of names -/
abbrev Tg := T → Ev → Option Ev
abbrev Tgs := List T → Ev → Option Ev
def gN (i : Nat) : Tg := fun t ev => if isBox ev[i]? = true then none else some (ev.set i (.val t))
def gNil : Tgs := fun ts ev => match ts with
  | [] => some ev
  | _ :: _ => none
def gCons (g : Tg) (h : Tgs) : Tgs := fun ts ev => match ts with
  | [] => none
  | t :: ts => (g t ev).bind (h ts)
def gTu (n : Nat) (h : Tgs) : Tg := fun t ev => match t with
  | .tup ts => if ts.length = n then h ts ev else none
  | _ => none
/-- what a target does: it stores, the heap stays -/
def Touch (gs : List Nat) (σ σ' : L2.St) : Prop := σ'.length = σ.length ∧ ∀ j, j ∉ gs → σ'[j]? = σ[j]?
def SG (G : Gm) (t : TG) (g : Tg) (gs : List Nat) : Prop := ∀ Z H σ ev Z0 H0 σ0 ev0 v d ev' Q, StOk G Z H σ ev → Stp Z0 H0 σ0 ev0 Z H σ ev → Rep G Z d v → g d ev = some ev' → (∀ σ', StOk G Z H σ' ev' → Stp Z0 H0 σ0 ev0 Z H σ' ev' → Touch gs σ σ' → Q σ' H) → t v σ H Q
def SGs (G : Gm) (t : TGs) (g : Tgs) (gs : List Nat) : Prop := ∀ Z H σ ev Z0 H0 σ0 ev0 v d ev' Q, StOk G Z H σ ev → Stp Z0 H0 σ0 ev0 Z H σ ev → Reps G Z d v → g d ev = some ev' → (∀ σ', StOk G Z H σ' ev' → Stp Z0 H0 σ0 ev0 Z H σ' ev' → Touch gs σ σ' → Q σ' H) → t v σ H Q
theorem Touch.refl (gs : List Nat) (σ : L2.St) : Touch gs σ σ := ⟨rfl, fun _ _ => rfl⟩
theorem Touch.trans {gs hs : List Nat} {σ σ1 σ2 : L2.St} (a : Touch gs σ σ1) (b : Touch hs σ1 σ2) : Touch (gs ++ hs) σ σ2 :=
  ⟨b.1.trans a.1, fun j h => (b.2 j fun m => h (List.mem_append_right _ m)).trans (a.2 j fun m => h (List.mem_append_left _ m))⟩
structure XG (X : Cx) (e : Expr) (g : Tg) (gs : List Nat) : Prop where
  ex : ∃ t, PG X e t ∧ SG (gm X) t g gs
structure XGs (X : Cx) (es : List Expr) (g : Tgs) (gs : List Nat) : Prop where
  ex : ∃ t, PGs X es t ∧ SGs (gm X) t g gs
section
variable {X : Cx} {W : WX} {pos : Pos} {e : Expr} {es : List Expr} {g : Tg} {h : Tgs} {τ : XR} {gs hs : List Nat}
theorem xg_name (i : Nat) {x : Str} (hN : X.N.Nodup) (hi : X.N[i]? = some x := by rfl) (hx : Loc X.env.scope x := by first | exact Or.inl rfl | exact Or.inr rfl) (hf : X.fn x = true ∨ X.env.scope.names.lookup x = some .local := by first | exact .inl rfl | exact .inr rfl | assumption) : XG X (.Name x pos) (gN i) [i] := by
  refine ⟨_, pg_name hN hi hx hf, fun Z H σ ev Z0 H0 σ0 ev0 v d ev' Q I s r e q => ?_⟩
  unfold gN at e
  split at e
  · cases e
  · rename_i hb
    cases e
    obtain ⟨I2, s2⟩ := I.put (s := .val d) (v := v) r (fun a e => nomatch e) (by simpa using hb) s
    exact q _ I2 s2 ⟨by simp, fun j hj => by rw [List.getElem?_set_ne]; intro e; exact hj (by simp [e])⟩
theorem xgs_nil : XGs X [] gNil [] := by
  refine ⟨_, pgs_nil, fun Z H σ ev Z0 H0 σ0 ev0 v d ev' Q I s r e q => ?_⟩
  cases r with
  | nil => cases e; exact ⟨rfl, q _ I s (Touch.refl _ _)⟩
  | cons _ _ => cases e
theorem xgs_cons (h1 : XG X e g gs) (h2 : XGs X es h hs) (hst : (assignEach (e :: es) X.env).map (·.2) = assign e X.env :: (assignEach es X.env).map (·.2) := by rfl) : XGs X (e :: es) (gCons g h) (gs ++ hs) := by
  obtain ⟨t, p, sg⟩ := h1
  obtain ⟨u, p2, sg2⟩ := h2
  refine ⟨_, pgs_cons p p2 hst, fun Z H σ ev Z0 H0 σ0 ev0 v d ev' Q I s r e q => ?_⟩
  cases r with
  | nil => cases e
  | @cons t0 v0 ts vs r rs =>
    have e : (g t0 ev).bind (h ts) = some ev' := e
    cases e1 : g t0 ev with
    | none => rw [e1] at e; cases e
    | some ev1 =>
      rw [e1] at e
      refine ⟨_, _, rfl, sg Z H σ ev Z0 H0 σ0 ev0 v0 t0 ev1 _ I s r e1 fun σ' I' s' t1 => ?_⟩
      exact sg2 Z H σ' ev1 Z0 H0 σ0 ev0 vs ts ev' _ I' s' rs e fun σ2 I2 s2 t2 => q σ2 I2 s2 (t1.trans t2)
theorem xg_tup {k : Nat} {n : Nat} (hc : X.calm = true) (hh : XGs X es h gs) (hn : (assignEach es X.env).length = n := by rfl) (hst : (assignEach es X.env).findIdx? (·.1) = none := by rfl) : XG X (.Tuple es k pos) (gTu n h) gs := by
  obtain ⟨t, p, sg⟩ := hh
  refine ⟨_, pg_tup hc p hn hst, fun Z H σ ev Z0 H0 σ0 ev0 v d ev' Q I s r e q => ?_⟩
  cases d with
  | tup ts =>
    have e : (if ts.length = n then h ts ev else none) = some ev' := e
    split at e
    · rename_i hl
      obtain ⟨a, vs, rfl, sq, rs⟩ := r.tupE
      exact ⟨a, vs, rfl, I.sub.sqT sq, by rw [← rs.length]; exact hl, sg Z H σ ev Z0 H0 σ0 ev0 vs ts ev' _ I s rs e q⟩
    · cases e
  | _ => cases e
/-- target = e -/
def asgS (τ : XR) (g : Tg) : XRS := fun ev => (τ ev).bind fun p => match g p.1 p.2 with
  | some ev' => .ok (.nx, ev')
  | none => .bad
theorem xs_asg {tg : Expr} (he : XE X W e τ) (hg : XG X tg g gs) (hs : swapsWithSole [tg] e pos.line X.env = pure false := by rfl) (hw : swappedStores [tg] e X.env = pure none := by rfl)
    (h1 : (assignEach [tg] X.env).map (·.2) = [assign tg X.env] := by rfl) : XS X W (.Assign [tg] e pos) (asgS τ g) := by
  obtain ⟨t, p, s⟩ := he
  obtain ⟨u, p2, sg⟩ := hg
  refine ⟨_, ps_asg p p2 hs hw h1, fun Z H σ ev D I q => ?_⟩
  refine s.nextS I Stp.refl q fun d ev' v Z' H' I' s' r k => ?_
  cases e1 : g d ev' with
  | none =>
    have k : Post (gm X) W Z H σ ev (match g d ev' with | some ev' => R.ok (Fl.nx, ev') | none => .bad) (OkS (gm X) Z H σ ev D) := k
    rw [e1] at k; exact k.elim
  | some ev2 =>
    have k : Post (gm X) W Z H σ ev (match g d ev' with | some ev' => R.ok (Fl.nx, ev') | none => .bad) (OkS (gm X) Z H σ ev D) := k
    rw [e1] at k
    exact sg Z' H' σ ev' Z H σ ev v d ev2 _ I' s' r e1 fun σ' I2 s2 _ => k _ _ _ I2 s2
end
end PH
set_option Elab.async false
set_option linter.all false
set_option maxRecDepth 100000
namespace PH
open PySem PySem.Spec PyProof.Rows L2
/-! ### what a loop walks -/
def WalkT (G : Gm) (J : It) (Zi : Hp) (ts : List T) : Prop := ∀ (i : Nat) (Z H : Hp) (σ : L2.St) (ev : Ev), StOk G Z H σ ev → Sub Zi Z →
  (ts.length ≤ i → J.stop i H) ∧ ∀ t, ts[i]? = some t → J.go i H ∧ ∀ x H', J.yld i H x H' → ∃ Z', StOk G Z' H' σ ev ∧ Stp Z H σ ev Z' H' σ ev ∧ Rep G Z' t x
abbrev OkI (G : Gm) (Z H : Hp) (σ : L2.St) (ev : Ev) (Q : It → Hp → Prop) : List T → Ev → Prop := fun ts ev' => ∀ J Z' H', StOk G Z' H' σ ev' → Stp Z H σ ev Z' H' σ ev' → WalkT G J Z' ts → Q J H'
def SI (G : Gm) (W : WX) (t : TI) (τ : XRL) : Prop := ∀ Z H σ ev Q, StOk G Z H σ ev → Post G W Z H σ ev (τ ev) (OkI G Z H σ ev Q) → t σ H Q
structure XI (X : Cx) (W : WX) (tg e : Expr) (τ : XRL) : Prop where
  ex : ∃ t, PI X tg e t ∧ SI (gm X) W t τ
theorem PI.or {X : Cx} {tg e : Expr} {a b : TI} (p : PI X tg e a) (q : PI X tg e b) : PI X tg e (fun σ H R => a σ H R ∨ b σ H R) :=
  ⟨fun pins s σ H R I h => h.elim (p.run pins s σ H R I) (q.run pins s σ H R I)⟩
/-- the items that a for finds: of a list, a tuple, a text -/
def T.walk : T → Option (List T)
  | .str x => some (x.cps.toList.map fun c => .str ⟨#[c]⟩)
  | t => t.items
def seqI (τ : XR) : XRL := fun ev => (τ ev).bind fun p => R.ofO p.1.walk p.2
def range1 : List T → Option (List T)
  | [.int j] => if -(2 ^ 62) ≤ j ∧ j < 2 ^ 62 then some ((List.range j.toNat).map fun (k : Nat) => .int (k : Int)) else none
  | _ => none
def range2 : List T → Option (List T)
  | [.int i, .int j] => if -(2 ^ 62) ≤ i ∧ i < 2 ^ 62 ∧ -(2 ^ 62) ≤ j ∧ j < 2 ^ 62 then some ((List.range (j - i).toNat).map fun (k : Nat) => .int (i + (k : Int))) else none
  | _ => none
def rngI (f : List T → Option (List T)) (τ : XRL) : XRL := fun ev => (τ ev).bind fun p => R.ofO (f p.1) p.2
section
variable {G : Gm} {W : WX} {Zi : Hp}
theorem walk_list {a : Addr} {vs : List V} {ts : List T} (h : SqL G.K Zi a vs) (r : Reps G Zi ts vs) : WalkT G (Itl G.K a) Zi ts := by
  intro i Z H σ ev I z
  have hq : SqL G.K H a vs := (z.trans I.sub).sqL h
  refine ⟨fun hl => ⟨vs, hq, by rw [← r.length]; exact hl⟩, fun t e => ?_⟩
  obtain ⟨v, e1, r1⟩ := r.get e
  refine ⟨⟨vs, v, hq, e1⟩, fun x H' y => ?_⟩
  obtain ⟨rfl, y⟩ := y
  rw [y vs hq] at e1; cases e1
  exact ⟨Z, I, Stp.refl, r1.mono z⟩
theorem walk_tup {a : Addr} {vs : List V} {ts : List T} (h : SqT G.K Zi a vs) (r : Reps G Zi ts vs) : WalkT G (Itt G.K a) Zi ts := by
  intro i Z H σ ev I z
  have hq : SqT G.K H a vs := (z.trans I.sub).sqT h
  refine ⟨fun hl => ⟨vs, hq, by rw [← r.length]; exact hl⟩, fun t e => ?_⟩
  obtain ⟨v, e1, r1⟩ := r.get e
  refine ⟨⟨vs, v, hq, e1⟩, fun x H' y => ?_⟩
  obtain ⟨rfl, y⟩ := y
  rw [y vs hq] at e1; cases e1
  exact ⟨Z, I, Stp.refl, r1.mono z⟩
theorem walk_str {x : Str} : WalkT G (Its x) Zi (x.cps.toList.map fun c => .str ⟨#[c]⟩) := by
  intro i Z H σ ev I z
  refine ⟨fun hl => by show x.cps.size ≤ i; simpa using hl, fun t e => ?_⟩
  rw [List.getElem?_map] at e
  cases e1 : x.cps.toList[i]? with
  | none => rw [e1] at e; cases e
  | some c =>
    rw [e1] at e; cases e
    have hlt : i < x.cps.size := by simpa using (List.getElem?_eq_some_iff.mp e1).1
    refine ⟨hlt, fun v H' y => ?_⟩
    obtain ⟨rfl, c', e2, rfl⟩ := y
    have : c' = c := by
      have e3 : x.cps.toList[i]? = some c' := by simpa using e2
      rw [e1] at e3; cases e3; rfl
    subst this
    exact ⟨Z, I, Stp.refl, .str _⟩
theorem walk_range {lo : Int} {n : Nat} : WalkT G (Itr lo n) Zi ((List.range n).map fun (k : Nat) => .int (lo + (k : Int))) := by
  intro i Z H σ ev I z
  refine ⟨fun hl => by show n ≤ i; simpa using hl, fun t e => ?_⟩
  rw [List.getElem?_map] at e
  cases e1 : (List.range n)[i]? with
  | none => rw [e1] at e; cases e
  | some c =>
    rw [e1] at e; cases e
    obtain ⟨h1, h2⟩ := List.getElem?_eq_some_iff.mp e1
    rw [List.length_range] at h1
    rw [List.getElem_range] at h2
    subst h2
    refine ⟨h1, fun v H' y => ?_⟩
    obtain ⟨rfl, rfl⟩ := y
    exact ⟨Z, I, Stp.refl, .int _⟩
end
section
variable {X : Cx} {W : WX} {tg e : Expr} {es : List Expr} {τ : XR} {τa : XRL} {p pos : Pos}
theorem xi_seq (h : XE X W e τ) : XI X W tg e (seqI τ) := by
  obtain ⟨t, pe, se⟩ := h
  refine ⟨_, PI.or (pi_list pe) (PI.or (pi_tup pe) (pi_str pe)), fun Z H σ ev Q I p => ?_⟩
  -- what the expression gives is known ahead
  have key : ∀ (k : T → Prop), (∀ d ev', τ ev = .ok (d, ev') → k d) → (∀ c fs ev', τ ev = .exc c fs ev' → True) →
      ∀ (Q' : VK), (∀ d ev' v Z' H', k d → StOk (gm X) Z' H' σ ev' → Stp Z H σ ev Z' H' σ ev' → Rep (gm X) Z' d v → Post (gm X) W Z H σ ev (R.ofO d.walk ev') (OkI (gm X) Z H σ ev Q) → Q' v H') → t σ H Q' := by
    intro k hk _ Q' q
    refine se Z H σ ev Q' I ?_
    unfold seqI at p
    cases e1 : τ ev with
    | ok r =>
      obtain ⟨d, ev'⟩ := r
      rw [e1] at p
      exact fun v Z' H' I' s' r => q d ev' v Z' H' (hk d ev' e1) I' s' r p
    | exc c fs ev' => rw [e1] at p; exact p
    | bad => rw [e1] at p; exact p.elim
  cases e1 : τ ev with
  | bad => unfold seqI at p; rw [e1] at p; exact p.elim
  | exc c fs ev' =>
    refine .inl (key (fun _ => False) (fun d ev' e2 => by rw [e1] at e2; cases e2) (fun _ _ _ _ => trivial) _ fun d _ _ _ _ k => k.elim)
  | ok r =>
    obtain ⟨d, ev1⟩ := r
    have kd : ∀ d' ev', τ ev = .ok (d', ev') → d' = d := fun d' ev' e2 => by rw [e1] at e2; cases e2; rfl
    cases d with
    | str x =>
      refine .inr (.inr (key _ kd (fun _ _ _ _ => trivial) _ fun d ev' v Z' H' k I' s' r q => ?_))
      subst k
      cases r.strE
      exact ⟨x, rfl, q _ Z' H' I' s' walk_str⟩
    | tup ts =>
      refine .inr (.inl (key _ kd (fun _ _ _ _ => trivial) _ fun d ev' v Z' H' k I' s' r q => ?_))
      subst k
      obtain ⟨a, vs, rfl, sq, rs⟩ := r.tupE
      exact ⟨a, rfl, ⟨vs, I'.sub.sqT sq⟩, q _ Z' H' I' s' (walk_tup sq rs)⟩
    | lst ts =>
      refine .inl (key _ kd (fun _ _ _ _ => trivial) _ fun d ev' v Z' H' k I' s' r q => ?_)
      subst k
      obtain ⟨a, vs, rfl, sq, rs⟩ := r.lstE
      exact ⟨a, rfl, ⟨vs, SqL.of (I'.sub _ _ sq)⟩, q _ Z' H' I' s' (walk_list (SqL.of sq) rs)⟩
    | ro ns =>
      refine .inl (key _ kd (fun _ _ _ _ => trivial) _ fun d ev' v Z' H' k I' s' r q => ?_)
      subst k
      obtain ⟨a, rfl, sq⟩ := r.roE
      exact ⟨a, rfl, ⟨_, I'.sub.sqL sq⟩, q _ Z' H' I' s' (walk_list sq (Reps.ofInts _))⟩
    | _ => unfold seqI at p; rw [e1] at p; exact p.elim
theorem xi_range1 (hg : Gl X "range") (hm : X.mg "range" = none) (ha : XA X W [e] τa) (hs : starEach [e] X.env = [(false, eval e X.env)] := by rfl) : XI X W tg (.Call (.Name "range" p) [e] [] pos) (rngI range1 τa) := by
  obtain ⟨t, pa, sa⟩ := ha
  refine ⟨_, pi_range1 hg hm pa hs, fun Z H σ ev Q I p => ?_⟩
  refine sa Z H σ ev _ I (Post.imp (Post.bind p) fun ts ev' q vs Z' H' I' s' r => ?_)
  obtain ⟨us, e, q⟩ := post_some q
  have e : range1 ts = some us := e
  unfold range1 at e
  split at e
  · obtain ⟨v, rfl, r0⟩ := reps1 r
    cases r0.intE
    split at e
    · rename_i hb
      cases e
      refine ⟨_, rfl, hb.1, hb.2, q _ Z' H' I' s' ?_⟩
      have w := fun n : Nat => walk_range (G := gm X) (Zi := Z') (lo := 0) (n := n)
      simp only [Int.zero_add] at w
      exact w _
    · cases e
  · cases e
theorem xi_range2 {e2 : Expr} (hg : Gl X "range") (hm : X.mg "range" = none) (ha : XA X W [e, e2] τa) (hs : starEach [e, e2] X.env = [(false, eval e X.env), (false, eval e2 X.env)] := by rfl) (hs2 : starEach [e2] X.env = [(false, eval e2 X.env)] := by rfl) : XI X W tg (.Call (.Name "range" p) [e, e2] [] pos) (rngI range2 τa) := by
  obtain ⟨t, pa, sa⟩ := ha
  refine ⟨_, pi_range2 hg hm pa hs hs2, fun Z H σ ev Q I p => ?_⟩
  refine sa Z H σ ev _ I (Post.imp (Post.bind p) fun ts ev' q vs Z' H' I' s' r => ?_)
  obtain ⟨us, e, q⟩ := post_some q
  have e : range2 ts = some us := e
  unfold range2 at e
  split at e
  · obtain ⟨v, w, rfl, r0, r1⟩ := reps2 r
    cases r0.intE; cases r1.intE
    split at e
    · rename_i hb
      cases e
      exact ⟨_, _, rfl, hb, q _ Z' H' I' s' walk_range⟩
    · cases e
  · cases e
end
/-! ### for, while -/
def forL (g : Tg) (b : XRS) : List T → XRS
  | [], ev => .ok (.nx, ev)
  | t :: ts, ev => match g t ev with
    | none => .bad
    | some ev1 => (b ev1).bind fun p => match p.1 with
      | .nx => forL g b ts p.2
      | .cnt => forL g b ts p.2
      | .brk => .ok (.nx, p.2)
      | .ret d => .ok (.ret d, p.2)
      | .reto d => .ok (.reto d, p.2)
def forS (τ : XRL) (g : Tg) (b : XRS) : XRS := fun ev => (τ ev).bind fun p => forL g b p.1 p.2
def whileN (c : XRB) (b : XRS) : Nat → XRS
  | 0, _ => .bad
  | n + 1, ev => (c ev).bind fun p => if p.1 = true then (b p.2).bind fun q => match q.1 with
      | .nx => whileN c b n q.2
      | .cnt => whileN c b n q.2
      | .brk => .ok (.nx, q.2)
      | .ret d => .ok (.ret d, q.2)
      | .reto d => .ok (.reto d, q.2)
    else .ok (.nx, p.2)
def whileS (fuel : Ev → Nat) (c : XRB) (b : XRS) : XRS := fun ev => whileN c b (fuel ev) ev
section
variable {X : Cx} {W : WX} {tg iter c : Expr} {body : List Stmt} {τ : XRL} {g : Tg} {gs : List Nat} {β : XRS} {γ : XRB} {pos : Pos}
theorem xs_for (hp : PassesOwn (model X.prog X.w) X.A X.env X.xe) (hc : X.calm = true) (hi : XI X W tg iter τ) (hg : XG X tg g gs) (hb : XSs X W body β)
    (hs : ∀ x, foldedSetIterable iter X.env x = pure x := by intro _; rfl) : XS X W (.For tg iter body [] pos) (forS τ g β) := by
  obtain ⟨wi, pi, si⟩ := hi
  obtain ⟨tgt, pg, sg⟩ := hg
  obtain ⟨tb, pb, sb⟩ := hb
  refine ⟨_, ps_for hp hc pi pg pb hs, fun Z H σ ev D I q => ?_⟩
  refine si Z H σ ev _ I (Post.imp (Post.bind q) fun ts ev1 k J Z1 H1 I1 s1 w => ?_)
  have k : Post (gm X) W Z H σ ev (forL g β ts ev1) (OkS (gm X) Z H σ ev D) := k
  refine ⟨fun i m σ2 H2 => m = ts.length - i ∧ i ≤ ts.length ∧ ∃ Z2 ev2, StOk (gm X) Z2 H2 σ2 ev2 ∧ Stp Z H σ ev Z2 H2 σ2 ev2 ∧ Sub Z1 Z2 ∧ Post (gm X) W Z H σ ev (forL g β (ts.drop i) ev2) (OkS (gm X) Z H σ ev D),
    ⟨ts.length, by simp, Nat.zero_le _, Z1, ev1, I1, s1, Sub.refl _, by rw [List.drop_zero]; exact k⟩, ?_⟩
  rintro i m σ2 H2 ⟨rfl, hi, Z2, ev2, I2, s2, z2, k2⟩
  obtain ⟨w1, w2⟩ := w i Z2 H2 σ2 ev2 I2 z2
  by_cases hlt : i < ts.length
  · obtain ⟨go, yl⟩ := w2 ts[i] (List.getElem?_eq_getElem hlt)
    rw [List.drop_eq_getElem_cons hlt] at k2
    refine .inr ⟨go, fun σ' H' => ∃ Z' ev', StOk (gm X) Z' H' σ' ev' ∧ Stp Z H σ ev Z' H' σ' ev' ∧ Sub Z1 Z' ∧ Post (gm X) W Z H σ ev (forL g β (ts.drop (i + 1)) ev') (OkS (gm X) Z H σ ev D), fun σ' H' h => ⟨ts.length - (i + 1), by omega, rfl, hlt, h⟩, fun x H3 y => ?_⟩
    obtain ⟨Z3, I3, s3, r3⟩ := yl x H3 y
    have s03 := s2.trans s3
    cases e : g ts[i] ev2 with
    | none => simp only [forL, e] at k2; exact k2.elim
    | some ev4 =>
      simp only [forL, e] at k2
      refine sg Z3 H3 σ2 ev2 Z H σ ev x ts[i] ev4 _ I3 s03 r3 e fun σ4 I4 s4 _ => ?_
      refine sb Z3 H3 σ4 ev4 _ I4 (Post.later s4 (Post.bind k2) fun f ev5 k5 => ?_)
      cases f with
      | nx => exact fun σ5 Z5 H5 I5 s5 => ⟨Z5, ev5, I5, s4.trans s5, (z2.trans s3.zz).trans s5.zz, k5⟩
      | cnt => exact fun σ5 Z5 H5 I5 s5 => ⟨Z5, ev5, I5, s4.trans s5, (z2.trans s3.zz).trans s5.zz, k5⟩
      | brk => exact fun σ5 Z5 H5 I5 s5 => k5 σ5 Z5 H5 I5 (s4.trans s5)
      | ret d => exact fun v σ5 Z5 H5 I5 s5 r5 => k5 v σ5 Z5 H5 I5 (s4.trans s5) r5
      | reto d => exact fun a vs σ5 Z5 H5 I5 s5 h1 => k5 a vs σ5 Z5 H5 I5 (s4.trans s5) (h1.early s4)
  · have e : i = ts.length := by omega
    subst e
    rw [List.drop_length] at k2
    exact .inl ⟨w1 (Nat.le_refl _), k2 σ2 Z2 H2 I2 s2⟩
theorem xs_while (fuel : Ev → Nat) (hp : PassesOwn (model X.prog X.w) X.A X.env X.xe) (hc : XT X W c γ) (hb : XSs X W body β) : XS X W (.While c body [] pos) (whileS fuel γ β) := by
  obtain ⟨tc, pc, sc⟩ := hc
  obtain ⟨tb, pb, sb⟩ := hb
  refine ⟨_, ps_while hp pc pb, fun Z H σ ev D I q => ?_⟩
  refine ⟨fun m σ2 H2 => ∃ Z2 ev2, StOk (gm X) Z2 H2 σ2 ev2 ∧ Stp Z H σ ev Z2 H2 σ2 ev2 ∧ Post (gm X) W Z H σ ev (whileN γ β m ev2) (OkS (gm X) Z H σ ev D), ⟨fuel ev, Z, ev, I, Stp.refl, q⟩, ?_⟩
  rintro m σ2 H2 ⟨Z2, ev2, I2, s2, k2⟩
  cases m with
  | zero => exact k2.elim
  | succ m =>
    refine sc.nextS I2 s2 (show Post (gm X) W Z H σ ev ((γ ev2).bind _) _ from k2) fun d ev3 Z3 H3 I3 s3 k3 => ?_
    cases d with
    | false => exact k3 _ _ _ I3 s3
    | true =>
      rw [if_pos rfl]
      refine ⟨fun σ' H' => ∃ Z' ev', StOk (gm X) Z' H' σ' ev' ∧ Stp Z H σ ev Z' H' σ' ev' ∧ Post (gm X) W Z H σ ev (whileN γ β m ev') (OkS (gm X) Z H σ ev D), fun σ' H' h => ⟨m, Nat.lt_succ_self _, h⟩, ?_⟩
      have k3 : Post (gm X) W Z H σ ev ((β ev3).bind fun q => match q.1 with
        | .nx => whileN γ β m q.2
        | .cnt => whileN γ β m q.2
        | .brk => .ok (.nx, q.2)
        | .ret d => .ok (.ret d, q.2)
        | .reto d => .ok (.reto d, q.2)) (OkS (gm X) Z H σ ev D) := k3
      refine sb Z3 H3 σ2 ev3 _ I3 (Post.later s3 (Post.bind k3) fun f ev5 k5 => ?_)
      cases f with
      | nx => exact fun σ5 Z5 H5 I5 s5 => ⟨Z5, ev5, I5, s3.trans s5, k5⟩
      | cnt => exact fun σ5 Z5 H5 I5 s5 => ⟨Z5, ev5, I5, s3.trans s5, k5⟩
      | brk => exact fun σ5 Z5 H5 I5 s5 => k5 σ5 Z5 H5 I5 (s3.trans s5)
      | ret d => exact fun v σ5 Z5 H5 I5 s5 r5 => k5 v σ5 Z5 H5 I5 (s3.trans s5) r5
      | reto d => exact fun a vs σ5 Z5 H5 I5 s5 h1 => k5 a vs σ5 Z5 H5 I5 (s3.trans s5) (h1.early s3)
end
end PH
set_option Elab.async false
set_option linter.all false
set_option maxRecDepth 100000
namespace PH
open PySem PySem.Spec PyProof.Rows L2
/-! ### list comprehensions -/
abbrev Wf : WX := fun _ _ _ _ => False
def canE (G : Gm) (W : WX) (τ : XR) : TE := fun σ H Q => ∃ Z ev, StOk G Z H σ ev ∧ Post G W Z H σ ev (τ ev) (OkE G Z H σ ev Q)
def canB (G : Gm) (W : WX) (τ : XRB) : TT := fun σ H Q => ∃ Z ev, StOk G Z H σ ev ∧ Post G W Z H σ ev (τ ev) (OkB G Z H σ ev Q)
def canG (G : Gm) (g : Tg) (gs : List Nat) : TG := fun v σ H Q => ∃ Z ev d ev', StOk G Z H σ ev ∧ Rep G Z d v ∧ g d ev = some ev' ∧ ∀ σ', StOk G Z H σ' ev' → Stp Z H σ ev Z H σ' ev' → Touch gs σ σ' → Q σ' H
theorem XE.can {X : Cx} {W : WX} {e : Expr} {τ : XR} (h : XE X W e τ) : PE X e (canE (gm X) W τ) := by
  obtain ⟨t, p, s⟩ := h
  exact ⟨fun pins s1 σ H Q I ⟨Z, ev, h1, h2⟩ => p.run pins s1 σ H Q I (s Z H σ ev Q h1 h2)⟩
theorem XT.can {X : Cx} {W : WX} {e : Expr} {τ : XRB} (h : XT X W e τ) : PT X e (canB (gm X) W τ) := by
  obtain ⟨t, p, s⟩ := h
  exact ⟨fun pins s1 σ H Q I ⟨Z, ev, h1, h2⟩ => p.run pins s1 σ H Q I (s Z H σ ev Q h1 h2)⟩
theorem XG.can {X : Cx} {e : Expr} {g : Tg} {gs : List Nat} (h : XG X e g gs) : PG X e (canG (gm X) g gs) := by
  obtain ⟨t, p, s⟩ := h
  exact ⟨fun pins s1 σ H v u Q I r ⟨Z, ev, d, ev', h1, h2, h3, h4⟩ => p.run pins s1 σ H v u Q I r (s Z H σ ev Z H σ ev v d ev' Q h1 Stp.refl h2 h3 h4)⟩
def wipeE (ev : Ev) : List Nat → Ev
  | [] => ev
  | v :: vs => (wipeE ev vs).set v .no
def plainSl (s : Option Sl) : Bool := match s with
  | some (.own _) => false
  | some (.box _) => false
  | _ => true
def okV (ev : Ev) (vs : List Nat) : Bool := vs.all fun v => plainSl ev[v]?
def backE (ev evb : Ev) : List Nat → Ev
  | [] => evb
  | v :: vs => match ev[v]? with
    | some s => (backE ev evb vs).set v s
    | none => backE ev evb vs
theorem wipe_at (σ : L2.St) (j : Nat) : ∀ vs : List Nat, (wipe σ vs)[j]? = if j ∈ vs ∧ j < σ.length then some none else σ[j]?
  | [] => by simp [wipe]
  | v :: vs => by
    unfold wipe
    by_cases hj : v = j
    · subst hj
      by_cases hl : v < σ.length
      · rw [List.getElem?_set_self (by rw [wipe_length]; exact hl), if_pos ⟨List.mem_cons_self, hl⟩]
      · rw [if_neg (fun h => hl h.2), List.getElem?_eq_none (by rw [List.length_set, wipe_length]; omega), List.getElem?_eq_none (by omega)]
    · rw [List.getElem?_set_ne hj, wipe_at σ j vs]
      have e : (j ∈ v :: vs) ↔ j ∈ vs := by rw [List.mem_cons]; exact ⟨fun h => h.resolve_left (fun q => hj q.symm), .inr⟩
      simp only [e]
theorem wipeE_length (ev : Ev) : ∀ vs : List Nat, (wipeE ev vs).length = ev.length
  | [] => rfl
  | v :: vs => by unfold wipeE; rw [List.length_set, wipeE_length ev vs]
theorem wipeE_at (ev : Ev) (j : Nat) : ∀ vs : List Nat, (wipeE ev vs)[j]? = if j ∈ vs ∧ j < ev.length then some .no else ev[j]?
  | [] => by simp [wipeE]
  | v :: vs => by
    unfold wipeE
    by_cases hj : v = j
    · subst hj
      by_cases hl : v < ev.length
      · rw [List.getElem?_set_self (by rw [wipeE_length]; exact hl), if_pos ⟨List.mem_cons_self, hl⟩]
      · rw [if_neg (fun h => hl h.2), List.getElem?_eq_none (by rw [List.length_set, wipeE_length]; omega), List.getElem?_eq_none (by omega)]
    · rw [List.getElem?_set_ne hj, wipeE_at ev j vs]
      have e : (j ∈ v :: vs) ↔ j ∈ vs := by rw [List.mem_cons]; exact ⟨fun h => h.resolve_left (fun q => hj q.symm), .inr⟩
      simp only [e]
theorem backE_length (ev evb : Ev) : ∀ vs : List Nat, (backE ev evb vs).length = evb.length
  | [] => rfl
  | v :: vs => by
    unfold backE
    split
    · rw [List.length_set, backE_length ev evb vs]
    · exact backE_length ev evb vs
theorem backE_at (ev evb : Ev) (hl : ev.length = evb.length) (j : Nat) : ∀ vs : List Nat, (backE ev evb vs)[j]? = if j ∈ vs then ev[j]? else evb[j]?
  | [] => by simp [backE]
  | v :: vs => by
    unfold backE
    by_cases hj : v = j
    · subst hj
      rw [if_pos List.mem_cons_self]
      split
      · rename_i s e
        rw [List.getElem?_set_self (by rw [backE_length, ← hl]; exact (List.getElem?_eq_some_iff.mp e).1), e]
      · rename_i e
        rw [List.getElem?_eq_none (by rw [backE_length, ← hl]; exact List.getElem?_eq_none_iff.mp e), e]
    · have e : (j ∈ v :: vs) ↔ j ∈ vs := by rw [List.mem_cons]; exact ⟨fun h => h.resolve_left (fun q => hj q.symm), .inr⟩
      simp only [e]
      split
      · rw [List.getElem?_set_ne hj, backE_at ev evb hl j vs]
      · exact backE_at ev evb hl j vs
section
variable {G : Gm} {Z H Z0 H0 Z' H' : Hp} {σ σ0 : L2.St} {ev ev0 evb : Ev} {vs : List Nat}
theorem own_plain (h : plainSl ev[i]? = true) {a : Addr} : ¬ Own σ ev i a := fun ⟨s, v, e1, e2, e3⟩ => by
  rw [e1] at h
  obtain ⟨_, ts, rfl | rfl⟩ := oAt_some e3 <;> cases h
theorem okV_at (h : okV ev vs = true) {j : Nat} (hj : j ∈ vs) : plainSl ev[j]? = true := List.all_eq_true.mp h j hj
theorem own_wipe {j : Nat} {a : Addr} (h : Own (wipe σ vs) (wipeE ev vs) j a) : j ∉ vs ∧ Own σ ev j a := by
  obtain ⟨s, v, e1, e2, e3⟩ := h
  rw [wipeE_at] at e1
  rw [wipe_at] at e2
  by_cases hj : j ∈ vs
  · exfalso
    split at e1
    · cases e1; cases v <;> cases e3
    · rename_i h1
      have := (List.getElem?_eq_some_iff.mp e1).1
      exact h1 ⟨hj, this⟩
  · rw [if_neg (fun h => hj h.1)] at e1 e2
    exact ⟨hj, s, v, e1, e2, e3⟩
theorem StOk.wipe (I : StOk G Z H σ ev) (vs : List Nat) : StOk G Z H (L2.wipe σ vs) (wipeE ev vs) := by
  refine ⟨I.sub, by rw [wipe_length, wipeE_length]; exact I.len, fun j s v e1 e2 => ?_, fun i j a p q => I.dist i j a (own_wipe p).2 (own_wipe q).2⟩
  rw [wipeE_at] at e1
  rw [wipe_at] at e2
  by_cases hj : j ∈ vs ∧ j < ev.length
  · rw [if_pos hj] at e1; cases e1; trivial
  · rw [if_neg hj] at e1
    rw [if_neg (by rw [← I.len]; exact hj)] at e2
    exact I.slots j s v e1 e2
theorem Stp.wipe (s : Stp Z0 H0 σ0 ev0 Z H σ ev) (ok : okV ev vs = true) : Stp Z0 H0 σ0 ev0 Z H (L2.wipe σ vs) (wipeE ev vs) := by
  refine ⟨s.zz, s.hh, s.zf, fun i a p => s.ow i a (own_wipe p).2, fun i ts e => ?_, s.th, by rw [wipe_length]; exact s.ln⟩
  obtain ⟨e1, ts', e2⟩ := s.bx i ts e
  have hi : i ∉ vs := fun h => by have := okV_at ok h; rw [e2] at this; cases this
  exact ⟨by rw [wipe_at, if_neg (fun h => hi h.1)]; exact e1, ts', by rw [wipeE_at, if_neg (fun h => hi h.1)]; exact e2⟩
/-- out of the block -/
theorem back_ok (I : StOk G Z H σ ev) (ok : okV ev vs = true) (I' : StOk G Z' H' (L2.wipe σ vs) evb) (s : Stp Z H (L2.wipe σ vs) (wipeE ev vs) Z' H' (L2.wipe σ vs) evb) :
    StOk G Z' H' σ (backE ev evb vs) ∧ Stp Z H σ ev Z' H' σ (backE ev evb vs) := by
  have hl : ev.length = evb.length := by rw [I.len, I'.len, wipe_length]
  have own : ∀ j a, Own σ (backE ev evb vs) j a → Own (L2.wipe σ vs) evb j a := fun j a ⟨s', v, e1, e2, e3⟩ => by
    rw [backE_at ev evb hl] at e1
    by_cases hj : j ∈ vs
    · rw [if_pos hj] at e1
      exact absurd ⟨s', v, e1, e2, e3⟩ (own_plain (okV_at ok hj))
    · rw [if_neg hj] at e1
      exact ⟨s', v, e1, by rw [wipe_at, if_neg (fun h => hj h.1)]; exact e2, e3⟩
  refine ⟨⟨I'.sub, by rw [backE_length, ← hl]; exact I.len, fun j s' v e1 e2 => ?_, fun i j a p q => I'.dist i j a (own i a p) (own j a q)⟩, ⟨s.zz, fun a o e n => s.hh a o e fun i w => n i (own_wipe w).2, fun a o e => ?_, fun i a p => ?_, fun i ts e => ?_, s.th, rfl⟩⟩
  · rw [backE_at ev evb hl] at e1
    by_cases hj : j ∈ vs
    · rw [if_pos hj] at e1
      have sl := I.slots j s' v e1 e2
      have pl := okV_at ok hj
      rw [e1] at pl
      cases s' with
      | no => trivial
      | val t => cases v <;> first | exact sl | exact Rep.mono s.zz sl
      | own ts => cases pl
      | box ts => cases pl
    · rw [if_neg hj] at e1
      exact I'.slots j s' v e1 (by rw [wipe_at, if_neg (fun h => hj h.1)]; exact e2)
  · rcases s.zf a o e with z | z | ⟨i, w⟩
    · exact .inl z
    · exact .inr (.inl z)
    · exact .inr (.inr ⟨i, (own_wipe w).2⟩)
  · rcases s.ow i a (own i a p) with z | ⟨j, w⟩
    · exact .inl z
    · exact .inr ⟨j, (own_wipe w).2⟩
  · have hi : i ∉ vs := fun h => by have := okV_at ok h; rw [e] at this; cases this
    obtain ⟨_, ts', e2⟩ := s.bx i ts (by rw [wipeE_at, if_neg (fun h => hi h.1)]; exact e)
    exact ⟨rfl, ts', by rw [backE_at ev evb hl, if_neg hi]; exact e2⟩
theorem wipe_ext {σ2 : L2.St} (t : Touch gs (L2.wipe σ vs) σ2) (h : ∀ j ∈ gs, j ∈ vs) : L2.wipe σ2 vs = L2.wipe σ vs := by
  apply List.ext_getElem?
  intro j
  rw [wipe_at, wipe_at, t.1, wipe_length]
  by_cases hj : j ∈ vs
  · by_cases hl : j < σ.length
    · rw [if_pos ⟨hj, hl⟩, if_pos ⟨hj, hl⟩]
    · rw [if_neg (fun h => hl h.2), if_neg (fun h => hl h.2), List.getElem?_eq_none (by rw [t.1, wipe_length]; omega), List.getElem?_eq_none (by omega)]
  · rw [if_neg (fun h => hj h.1), if_neg (fun h => hj h.1), t.2 j (fun m => hj (h j m)), wipe_at, if_neg (fun h => hj h.1)]
/-- a list that is nobody's -/
def Lone (Z H : Hp) (σ : L2.St) (ev : Ev) (D : Addr) (xs : List V) : Prop := H D = some (.lst xs) ∧ Z D = none ∧ ∀ i, ¬ Own σ ev i D
theorem Lone.stp {σ' : L2.St} {ev' : Ev} {D : Addr} {xs : List V} (h : Lone Z H σ ev D xs) (s : Stp Z H σ ev Z' H' σ' ev') : Lone Z' H' σ' ev' D xs := by
  obtain ⟨h1, h2, h3⟩ := h
  refine ⟨s.hh D _ h1 h3, ?_, fun i w => ?_⟩
  · cases e : Z' D with
    | none => rfl
    | some o =>
      rcases s.zf D o e with z | z | ⟨i, w⟩
      · rw [h2] at z; cases z
      · rw [h1] at z; cases z
      · exact absurd w (h3 i)
  · rcases s.ow i D w with z | ⟨j, w⟩
    · rw [h1] at z; cases z
    · exact h3 j w
theorem StOk.other (I : StOk G Z H σ ev) {D : Addr} {o : HO} (h1 : Z D = none) (h2 : ∀ i, ¬ Own σ ev i D) : StOk G Z (upd H D o) σ ev := by
  refine ⟨fun a u e => ?_, I.len, fun i s v e1 e2 => (I.slots i s v e1 e2).heap fun a e => upd_ne fun h => h2 i (h ▸ ⟨s, v, e1, e2, e⟩), I.dist⟩
  rw [upd_ne (ne_of_none e h1)]; exact I.sub a u e
theorem Stp.other (s : Stp Z0 H0 σ0 ev0 Z H σ ev) {D : Addr} {o : HO} (h : H0 D = none) : Stp Z0 H0 σ0 ev0 Z (upd H D o) σ ev :=
  ⟨s.zz, fun a u e n => by rw [upd_ne (ne_of_none e h)]; exact s.hh a u e n, s.zf, s.ow, s.bx, fun a u e => by rw [upd_ne (ne_of_none e h)]; exact s.th a u e, s.ln⟩
end
def R.noX {α : Type} : R α → R α
  | .ok a => .ok a
  | _ => .bad
def lcL (g : Tg) (β : XRB) (τ : XR) (vs : List Nat) : List T → Ev → List T → R (List T × Ev)
  | [], ev, acc => .ok (acc, ev)
  | t :: ts, ev, acc => match g t ev with
    | none => .bad
    | some ev1 => (β ev1).bind fun p => if p.1 = true then (τ p.2).bind fun q => if okV q.2 vs = true ∧ acc.length < sizeLine then lcL g β τ vs ts (wipeE q.2 vs) (acc ++ [q.1]) else .bad
      else if okV p.2 vs = true then lcL g β τ vs ts (wipeE p.2 vs) acc else .bad
def lcS (τi : XRL) (g : Tg) (β : XRB) (τ : XR) (vs : List Nat) : XRL := fun ev => (τi ev).bind fun p => if okV p.2 vs = true then (lcL g β τ vs p.1 (wipeE p.2 vs) []).noX.bind fun q => .ok (q.1, backE p.2 q.2 vs) else .bad
def yesB : XRB := fun ev => .ok (true, ev)
theorem bind_ok {α β : Type} {x : R α} {f : α → R β} {b : β} (h : x.bind f = .ok b) : ∃ a, x = .ok a ∧ f a = .ok b := by
  cases x with
  | ok a => exact ⟨a, rfl, h⟩
  | exc c fs e => cases h
  | bad => cases h
section
variable {X : Cx} {W : WX}
/-- the core: what tLc asks, from the trees -/
theorem lc_t {wi : TI} {τi : XRL} {g : Tg} {gs : List Nat} {β : XRB} {τ : XR} {vs : List Nat} {tt : TT} (si : SI (gm X) W wi τi) (hgs : ∀ j ∈ gs, j ∈ vs)
    (ht : ∀ Z H σ ev b ev' Q, StOk (gm X) Z H σ ev → β ev = .ok (b, ev') → OkB (gm X) Z H σ ev Q b ev' → tt σ H Q) : SO (gm X) W (tLc wi (canG (gm X) g gs) tt (canE (gm X) Wf τ) vs) (lcS τi g β τ vs) := by
  intro Z H σ ev Q I p
  refine si Z H σ ev _ I (Post.imp (Post.bind p) fun ts ev1 k J Z1 H1 I1 s1 w D hD => ?_)
  have k : Post (gm X) W Z H σ ev (if okV ev1 vs = true then (lcL g β τ vs ts (wipeE ev1 vs) []).noX.bind fun q => .ok (q.1, backE ev1 q.2 vs) else .bad) (OkO (gm X) Z H σ ev Q) := k
  split at k
  case isFalse => exact k.elim
  rename_i ok1
  cases e0 : lcL g β τ vs ts (wipeE ev1 vs) [] with
  | exc c fs e => rw [e0] at k; exact k.elim
  | bad => rw [e0] at k; exact k.elim
  | ok r =>
    obtain ⟨res, evf⟩ := r
    rw [e0] at k
    have k : OkO (gm X) Z H σ ev Q res (backE ev1 evf vs) := k
    have hZ : H D = none := s1.fresh hD
    have b1 := I1.wipe vs
    have z1 : Z1 D = none := I1.sub.none hD
    have n1 : ∀ i, ¬ Own (L2.wipe σ vs) (wipeE ev1 vs) i D := fun i w => Own.alt b1 w hD rfl
    refine ⟨fun i m H2 => m = ts.length - i ∧ i ≤ ts.length ∧ ∃ Z2 evb acc xs, StOk (gm X) Z2 H2 (L2.wipe σ vs) evb ∧ Stp Z1 H1 (L2.wipe σ vs) (wipeE ev1 vs) Z2 H2 (L2.wipe σ vs) evb ∧ Lone Z2 H2 (L2.wipe σ vs) evb D xs ∧ Reps (gm X) Z2 acc xs ∧ lcL g β τ vs (ts.drop i) evb acc = .ok (res, evf),
      ⟨ts.length, by simp, Nat.zero_le _, Z1, wipeE ev1 vs, [], [], b1.other z1 n1, Stp.refl.other hD, ⟨upd_same, z1, n1⟩, .nil, by rw [List.drop_zero]; exact e0⟩, ?_⟩
    rintro i m H2 ⟨rfl, hi, Z2, evb, acc, xs, I2, s2, lo, ra, e2⟩
    obtain ⟨w1, w2⟩ := w i Z2 H2 _ evb I2 s2.zz
    by_cases hlt : i < ts.length
    · obtain ⟨go, yl⟩ := w2 ts[i] (List.getElem?_eq_getElem hlt)
      rw [List.drop_eq_getElem_cons hlt] at e2
      refine .inr ⟨go, fun H' => ∃ Z' evb' acc' xs', StOk (gm X) Z' H' (L2.wipe σ vs) evb' ∧ Stp Z1 H1 (L2.wipe σ vs) (wipeE ev1 vs) Z' H' (L2.wipe σ vs) evb' ∧ Lone Z' H' (L2.wipe σ vs) evb' D xs' ∧ Reps (gm X) Z' acc' xs' ∧ lcL g β τ vs (ts.drop (i + 1)) evb' acc' = .ok (res, evf),
        fun H' h => ⟨ts.length - (i + 1), by omega, rfl, hlt, h⟩, fun x H3 y => ?_⟩
      obtain ⟨Z3, I3, s3, r3⟩ := yl x H3 y
      cases eg : g ts[i] evb with
      | none => simp only [lcL, eg] at e2; cases e2
      | some ev4 =>
        simp only [lcL, eg] at e2
        obtain ⟨⟨b, ev5⟩, eb, e3⟩ := bind_ok e2
        refine ⟨Z3, evb, ts[i], ev4, I3, r3, eg, fun σ4 I4 s4 t4 => ⟨wipe_ext t4 hgs, ?_⟩⟩
        have wx := wipe_ext t4 hgs
        refine ht Z3 H3 σ4 ev4 b ev5 _ I4 eb fun Z5 H5 I5 s5 => ?_
        have lo5 : Lone Z5 H5 σ4 ev5 D xs := ((lo.stp s3).stp s4).stp s5
        have s15 : Stp Z1 H1 (L2.wipe σ vs) (wipeE ev1 vs) Z5 H5 σ4 ev5 := ((s2.trans s3).trans s4).trans s5
        have ra5 : Reps (gm X) Z5 acc xs := ra.mono (s3.zz.trans s5.zz)
        cases b with
        | false =>
          have e3 : (if okV ev5 vs = true then lcL g β τ vs (ts.drop (i + 1)) (wipeE ev5 vs) acc else .bad) = .ok (res, evf) := e3
          split at e3
          · rename_i ok5
            refine ⟨Z5, wipeE ev5 vs, acc, xs, ?_, ?_, ?_, ra5, e3⟩
            · rw [← wx]; exact I5.wipe vs
            · rw [← wx]
              have := s15.wipe (vs := vs) ok5
              rw [wx] at this ⊢
              exact this
            · rw [← wx]; exact ⟨lo5.1, lo5.2.1, fun i w => lo5.2.2 i (own_wipe w).2⟩
          · cases e3
        | true =>
          have e3 : ((τ ev5).bind fun q => if okV q.2 vs = true ∧ acc.length < sizeLine then lcL g β τ vs (ts.drop (i + 1)) (wipeE q.2 vs) (acc ++ [q.1]) else .bad) = .ok (res, evf) := e3
          obtain ⟨⟨d, ev6⟩, ed, e4⟩ := bind_ok e3
          have e4 : (if okV ev6 vs = true ∧ acc.length < sizeLine then lcL g β τ vs (ts.drop (i + 1)) (wipeE ev6 vs) (acc ++ [d]) else .bad) = .ok (res, evf) := e4
          split at e4
          · rename_i ok6
            refine ⟨Z5, ev5, I5, ?_⟩
            rw [ed]
            intro v Z6 H6 I6 s6 r6
            have lo6 := lo5.stp s6
            refine ⟨xs, lo6.1, by rw [← ra.length]; exact ok6.2, Z6, wipeE ev6 vs, acc ++ [d], xs ++ [v], ?_, ?_, ?_, (ra5.mono s6.zz).append (.cons r6 .nil), e4⟩
            · rw [← wx]; exact (I6.other lo6.2.1 lo6.2.2).wipe vs
            · have := ((s15.trans s6).other (o := .lst (xs ++ [v])) hD).wipe (vs := vs) ok6.1
              rw [wx] at this
              exact this
            · rw [← wx]; exact ⟨upd_same, lo6.2.1, fun i w => lo6.2.2 i (own_wipe w).2⟩
          · cases e4
    · have e : i = ts.length := by omega
      subst e
      rw [List.drop_length] at e2
      cases e2
      refine .inl ⟨w1 (Nat.le_refl _), ?_⟩
      obtain ⟨I5, s5⟩ := back_ok I1 ok1 I2 s2
      exact k D xs Z2 H2 I5 (s1.trans s5) hZ lo.2.1 (fun i w => by
        obtain ⟨s', v, e1, e2', e3⟩ := w
        have hl : ev1.length = evf.length := by rw [I1.len, I2.len, wipe_length]
        rw [backE_at ev1 evf hl] at e1
        by_cases hj : i ∈ vs
        · rw [if_pos hj] at e1
          exact own_plain (okV_at ok1 hj) ⟨s', v, e1, e2', e3⟩
        · rw [if_neg hj] at e1
          exact lo.2.2 i ⟨s', v, e1, by rw [wipe_at, if_neg (fun h => hj h.1)]; exact e2', e3⟩) lo.1 ra
variable {elt tg iter : Expr} {ifs : List Expr} {scope : Scope} {own : List (Str × Nat)} {pos : Pos} {τi : XRL} {g : Tg} {gs : List Nat} {β : XRB} {τ : XR} {c : Expr}
/-- [elt for tg in iter] -/
theorem xo_lc (hc : X.calm = true) (hN : X.N.Nodup) (hi : XI X W tg iter τi) (ok : BlkOk X.N X.env.scope scope own)
    (hg : ∀ (s : Shared) (H : Hp) (C : Addr) (cl : List (Str × Addr)) (fp : List Addr), XG (X.blk s H scope (compEnvC scope cl C X.env) fp) tg g gs)
    (he : ∀ (s : Shared) (H : Hp) (C : Addr) (cl : List (Str × Addr)) (fp : List Addr), XE (X.blk s H scope (compEnvC scope cl C X.env) fp) Wf elt τ)
    (hgs : ∀ j ∈ gs, j ∈ own.map (·.2) := by decide) (hs : ∀ x, foldedSetIterable iter X.env x = pure x := by intro _; rfl) :
    XO X W (.ListComp elt [⟨tg, iter, [], 0⟩] scope pos) (lcS τi g yesB τ (own.map (·.2))) := by
  obtain ⟨wi, pi, si⟩ := hi
  refine ⟨_, pe_lc (te := canE (gm X) Wf τ) (g := canG (gm X) g gs) hc hN pi ok (fun s H C cl fp => (hg s H C cl fp).can) (fun _ _ _ _ _ => pts_nil) (fun s H C cl fp => (he s H C cl fp).can) hs, ?_⟩
  exact lc_t (g := g) (gs := gs) (β := yesB) (τ := τ) si hgs fun Z H σ ev b ev' Q I e q => by
    cases e
    exact q Z H I Stp.refl
/-- [elt for tg in iter if c] -/
theorem xo_lcIf (hc : X.calm = true) (hN : X.N.Nodup) (hi : XI X W tg iter τi) (ok : BlkOk X.N X.env.scope scope own)
    (hg : ∀ (s : Shared) (H : Hp) (C : Addr) (cl : List (Str × Addr)) (fp : List Addr), XG (X.blk s H scope (compEnvC scope cl C X.env) fp) tg g gs)
    (hf : ∀ (s : Shared) (H : Hp) (C : Addr) (cl : List (Str × Addr)) (fp : List Addr), XT (X.blk s H scope (compEnvC scope cl C X.env) fp) Wf c β)
    (he : ∀ (s : Shared) (H : Hp) (C : Addr) (cl : List (Str × Addr)) (fp : List Addr), XE (X.blk s H scope (compEnvC scope cl C X.env) fp) Wf elt τ)
    (hgs : ∀ j ∈ gs, j ∈ own.map (·.2) := by decide) (hs : ∀ x, foldedSetIterable iter X.env x = pure x := by intro _; rfl) :
    XO X W (.ListComp elt [⟨tg, iter, [c], 0⟩] scope pos) (lcS τi g β τ (own.map (·.2))) := by
  obtain ⟨wi, pi, si⟩ := hi
  refine ⟨_, pe_lc (te := canE (gm X) Wf τ) (g := canG (gm X) g gs) (tt := canB (gm X) Wf β) hc hN pi ok (fun s H C cl fp => (hg s H C cl fp).can) (fun s H C cl fp => pts_one (hf s H C cl fp).can) (fun s H C cl fp => (he s H C cl fp).can) hs, ?_⟩
  exact lc_t (g := g) (gs := gs) (β := β) (τ := τ) si hgs fun Z H σ ev b ev' Q I e q => ⟨Z, ev, I, by rw [e]; exact q⟩
/-- name = [..] on one line -/
theorem xs_lc (i : Nat) {y : Str} {py spos : Pos} (hc : X.calm = true) (hN : X.N.Nodup) (hi : XI X W tg iter τi) (ok : BlkOk X.N X.env.scope scope own)
    (hg : ∀ (s : Shared) (H : Hp) (C : Addr) (cl : List (Str × Addr)) (fp : List Addr), XG (X.blk s H scope (compEnvC scope cl C X.env) fp) tg g gs)
    (he : ∀ (s : Shared) (H : Hp) (C : Addr) (cl : List (Str × Addr)) (fp : List Addr), XE (X.blk s H scope (compEnvC scope cl C X.env) fp) Wf elt τ)
    (hsw : swapsWith (.ListComp elt [⟨tg, iter, [], 0⟩] scope pos) (some (.Name y py)) spos.line X.env = pure true) (hy : X.N[i]? = some y := by rfl) (hyl : X.env.scope.names.lookup y = some .local := by rfl)
    (hgs : ∀ j ∈ gs, j ∈ own.map (·.2) := by decide) (hs : ∀ x, foldedSetIterable iter X.env x = pure x := by intro _; rfl) :
    XS X W (.Assign [.Name y py] (.ListComp elt [⟨tg, iter, [], 0⟩] scope pos) spos) (setO i (lcS τi g yesB τ (own.map (·.2)))) := by
  obtain ⟨wi, pi, si⟩ := hi
  refine ⟨_, ps_setLc (te := canE (gm X) Wf τ) (g := canG (gm X) g gs) hc hN hy hyl hsw pi ok (fun s H C cl fp => (hg s H C cl fp).can) (fun _ _ _ _ _ => pts_nil) (fun s H C cl fp => (he s H C cl fp).can) hs, fun Z H σ ev D I q => ?_⟩
  have so := lc_t (X := X) (g := g) (gs := gs) (β := yesB) (τ := τ) (tt := tYes) si hgs fun Z H σ ev b ev' Q I e q => by
    cases e
    exact q Z H I Stp.refl
  refine so Z H σ ev _ I (Post.imp (Post.bind q) fun ts ev' k a vs Z' H' I' s' h1 h2 h3 h4 r => ?_)
  obtain ⟨hb, k⟩ := post_put k
  obtain ⟨I2, s2⟩ := I'.put (s := .own ts) (v := .ref a) ⟨a, vs, rfl, h2, h4, r, h3⟩ (fun b e => by cases e; exact .inl h1) hb s'
  exact k _ _ _ I2 s2
theorem xs_lcIf (i : Nat) {y : Str} {py spos : Pos} (hc : X.calm = true) (hN : X.N.Nodup) (hi : XI X W tg iter τi) (ok : BlkOk X.N X.env.scope scope own)
    (hg : ∀ (s : Shared) (H : Hp) (C : Addr) (cl : List (Str × Addr)) (fp : List Addr), XG (X.blk s H scope (compEnvC scope cl C X.env) fp) tg g gs)
    (hf : ∀ (s : Shared) (H : Hp) (C : Addr) (cl : List (Str × Addr)) (fp : List Addr), XT (X.blk s H scope (compEnvC scope cl C X.env) fp) Wf c β)
    (he : ∀ (s : Shared) (H : Hp) (C : Addr) (cl : List (Str × Addr)) (fp : List Addr), XE (X.blk s H scope (compEnvC scope cl C X.env) fp) Wf elt τ)
    (hsw : swapsWith (.ListComp elt [⟨tg, iter, [c], 0⟩] scope pos) (some (.Name y py)) spos.line X.env = pure true) (hy : X.N[i]? = some y := by rfl) (hyl : X.env.scope.names.lookup y = some .local := by rfl)
    (hgs : ∀ j ∈ gs, j ∈ own.map (·.2) := by decide) (hs : ∀ x, foldedSetIterable iter X.env x = pure x := by intro _; rfl) :
    XS X W (.Assign [.Name y py] (.ListComp elt [⟨tg, iter, [c], 0⟩] scope pos) spos) (setO i (lcS τi g β τ (own.map (·.2)))) := by
  obtain ⟨wi, pi, si⟩ := hi
  refine ⟨_, ps_setLc (te := canE (gm X) Wf τ) (g := canG (gm X) g gs) (tt := canB (gm X) Wf β) hc hN hy hyl hsw pi ok (fun s H C cl fp => (hg s H C cl fp).can) (fun s H C cl fp => pts_one (hf s H C cl fp).can) (fun s H C cl fp => (he s H C cl fp).can) hs, fun Z H σ ev D I q => ?_⟩
  have so := lc_t (X := X) (g := g) (gs := gs) (β := β) (τ := τ) (tt := canB (gm X) Wf β) si hgs fun Z H σ ev b ev' Q I e q => ⟨Z, ev, I, by rw [e]; exact q⟩
  refine so Z H σ ev _ I (Post.imp (Post.bind q) fun ts ev' k a vs Z' H' I' s' h1 h2 h3 h4 r => ?_)
  obtain ⟨hb, k⟩ := post_put k
  obtain ⟨I2, s2⟩ := I'.put (s := .own ts) (v := .ref a) ⟨a, vs, rfl, h2, h4, r, h3⟩ (fun b e => by cases e; exact .inl h1) hb s'
  exact k _ _ _ I2 s2
end
end PH
set_option Elab.async false
set_option linter.all false
set_option maxRecDepth 100000
namespace PH
open PySem PySem.Spec PyProof.Rows L2
/-! ### own lists written -/
def ownTs (ev : Ev) (i : Nat) : Option (List T) := match ev[i]? with
  | some (.own ts) => some ts
  | some (.box ts) => some ts
  | _ => none
def updSl (ev : Ev) (i : Nat) (us : List T) : Ev := match ev[i]? with
  | some (.own _) => ev.set i (.own us)
  | some (.box _) => ev.set i (.box us)
  | _ => ev
section
variable {G : Gm} {Z H Z0 H0 : Hp} {σ σ0 : L2.St} {ev ev0 : Ev}
theorem StOk.ownTs (I : StOk G Z H σ ev) {i : Nat} {ts : List T} (h : PH.ownTs ev i = some ts) : ∃ a vs, σ[i]? = some (some (.ref a)) ∧ Z a = none ∧ H a = some (.lst vs) ∧ Reps G Z ts vs ∧ Own σ ev i a := by
  unfold PH.ownTs at h
  split at h
  · rename_i us e; cases h; exact I.ownAt e
  · rename_i us e; cases h; exact I.boxAt e
  · cases h
theorem write_ok (I : StOk G Z H σ ev) {i : Nat} {ts us : List T} {a : Addr} {ws : List V} (h : PH.ownTs ev i = some ts) (hσ : σ[i]? = some (some (.ref a))) (r : Reps G Z us ws) :
    StOk G Z (upd H a (.lst ws)) σ (updSl ev i us) ∧ Stp Z H σ ev Z (upd H a (.lst ws)) σ (updSl ev i us) := by
  obtain ⟨a', vs, e1, z, hh, _, w⟩ := I.ownTs h
  rw [hσ] at e1; cases e1
  have hl : i < ev.length := by obtain ⟨s, v, e1, _⟩ := w; exact (List.getElem?_eq_some_iff.mp e1).1
  have at_ : ∀ j, (updSl ev i us)[j]? = if j = i then (match ev[i]? with | some (.own _) => some (.own us) | some (.box _) => some (.box us) | s => s) else ev[j]? := fun j => by
    unfold updSl
    by_cases hj : j = i
    · subst hj
      rw [if_pos rfl]
      split
      · rename_i e; rw [List.getElem?_set_self hl]
      · rename_i e; rw [List.getElem?_set_self hl]
      · rename_i h1 h2
        cases e : ev[j]? with
        | none => rfl
        | some s => cases s <;> first | rfl | exact absurd e (h1 _) | exact absurd e (h2 _)
    · rw [if_neg hj]
      split
      · rw [List.getElem?_set_ne (Ne.symm hj)]
      · rw [List.getElem?_set_ne (Ne.symm hj)]
      · rfl
  have len : (updSl ev i us).length = ev.length := by unfold updSl; split <;> simp
  have own : ∀ j b, Own σ (updSl ev i us) j b → Own σ ev j b := fun j b ⟨s, v, e1, e2, e3⟩ => by
    rw [at_] at e1
    by_cases hj : j = i
    · subst hj
      rw [if_pos rfl] at e1
      rw [hσ] at e2; cases e2
      have : b = a := by obtain ⟨e, _⟩ := oAt_some e3; cases e; rfl
      subst this
      exact w
    · rw [if_neg hj] at e1; exact ⟨s, v, e1, e2, e3⟩
  refine ⟨⟨fun b o e => ?_, by rw [len]; exact I.len, fun j s v e1 e2 => ?_, fun j k b p q => I.dist j k b (own j b p) (own k b q)⟩, ⟨Sub.refl _, fun b o e n => ?_, fun b o e => .inl e, fun j b p => .inr ⟨j, own j b p⟩, fun j ts' e => ⟨rfl, ?_⟩, fun b o e => ?_, rfl⟩⟩
  · rw [upd_ne (ne_of_none e z)]; exact I.sub b o e
  · rw [at_] at e1
    by_cases hj : j = i
    · subst hj
      rw [if_pos rfl] at e1
      rw [hσ] at e2; cases e2
      obtain ⟨s0, v0, f1, f2, f3⟩ := w
      rw [f1] at e1
      obtain ⟨_, ts0, rfl | rfl⟩ := oAt_some f3
      · cases e1; exact ⟨z, ws, upd_same, r⟩
      · cases e1; exact ⟨z, ws, upd_same, r⟩
    · rw [if_neg hj] at e1
      exact (I.slots j s v e1 e2).heap fun b e => upd_ne fun (hb : b = a) => hj (I.dist j i b ⟨s, v, e1, e2, e⟩ (by rw [hb]; exact w))
  · rw [upd_ne fun (hb : b = a) => n i (by rw [hb]; exact w)]; exact e
  · rw [at_]
    by_cases hj : j = i
    · subst hj; rw [if_pos rfl, e]; exact ⟨us, rfl⟩
    · rw [if_neg hj]; exact ⟨ts', e⟩
  · by_cases hb : b = a
    · subst hb; exact ⟨_, upd_same⟩
    · exact ⟨o, by rw [upd_ne hb]; exact e⟩
end
def apS (i : Nat) (τ : XR) : XR := fun ev => if (ownTs ev i).isSome = true then (τ ev).bind fun p => match ownTs p.2 i with
    | some ts => if ts.length < sizeLine then .ok (.non, updSl p.2 i (ts ++ [p.1])) else .bad
    | none => .bad
  else .bad
def exS (i : Nat) (τ : XR) : XR := fun ev => if (ownTs ev i).isSome = true then (τ ev).bind fun p => match ownTs p.2 i, p.1 with
    | some ts, .lst us => if ts.length + us.length ≤ sizeLine then .ok (.non, updSl p.2 i (ts ++ us)) else .bad
    | _, _ => .bad
  else .bad
def popS (i : Nat) (τ : XR) : XR := fun ev => if (ownTs ev i).isSome = true then (τ ev).bind fun p => match ownTs p.2 i, p.1 with
    | some ts, .int k => if -(2 ^ 63) ≤ k ∧ k < 2 ^ 63 then match seqIndex? k ts.length with
        | some j => match ts[j]? with
          | some t => .ok (t, updSl p.2 i (ts.eraseIdx j))
          | none => .bad
        | none => .bad
      else .bad
    | _, _ => .bad
  else .bad
def pop0 (i : Nat) : XR := fun ev => match ownTs ev i with
  | some ts => match ts[ts.length - 1]? with
    | some t => .ok (t, updSl ev i ts.dropLast)
    | none => .bad
  | none => .bad
/-- x[τi] = τv -/
def stS (i : Nat) (τi τv : XR) : XRS := fun ev => (τv ev).bind fun p => if (ownTs p.2 i).isSome = true then (τi p.2).bind fun q => match ownTs q.2 i, q.1 with
    | some ts, .int k => match ixN ts.length k with
      | some j => .ok (.nx, updSl q.2 i (ts.set j p.1))
      | none => .bad
    | _, _ => .bad
  else .bad
section
variable {X : Cx} {W : WX} {e ix : Expr} {τ τi : XR} {x : Str} {p1 p2 apos cpos pos : Pos}
theorem some_of {α : Type} {o : Option α} (h : o.isSome = true) : ∃ a, o = some a := by cases o with | none => cases h | some a => exact ⟨a, rfl⟩
theorem xe_append (i : Nat) (ha : XE X W e τ) (hN : X.N[i]? = some x := by rfl) (hv : Vis X.env.scope x := by first | exact Or.inl rfl | exact Or.inr (Or.inl rfl) | exact Or.inr (Or.inr rfl)) (hs : starEach [e] X.env = (false, eval e X.env) :: starEach [] X.env := by rfl)
    (hbase : attributeBase (.Name x p1) "append" X.env (eval (.Name x p1) X.env) = eval (.Name x p1) X.env := by rfl)
    (hfew : ((backTo cpos (starEach [e] X.env)).all (fun x => !x.1) && (backToKw cpos (keywordEach [] X.env)).all (fun x => x.1.isSome)
      && decide ([e].length + ([] : List Keyword).length + (if ([] : List Keyword).isEmpty then 0 else 1) < 30)) = true := by rfl)
    (hline : (apos.endLine == cpos.line) = true := by rfl) (hd : (x == ("__debug__" : Str)) = false := by decide) (hcd : (x == ("__classdict__" : Str)) = false := by decide) :
    XE X W (.Call (.Attribute (.Name x p1) "append" apos) [e] [] cpos) (apS i τ) := by
  obtain ⟨t, pe, se⟩ := ha
  refine ⟨_, pe_bm PySem.F.plainAttrs_list PySem.F.slot_list_append PySem.F.type_list_append mt_append (pe_var hN hv hd hcd) (pa_cons pe pa_nil hs) hbase hfew hline hs, fun Z H σ ev Q I p => ?_⟩
  unfold apS at p
  split at p
  case isFalse => exact p.elim
  rename_i h0
  obtain ⟨ts0, h0⟩ := some_of h0
  obtain ⟨a, vs, e1, z, hh, r, _⟩ := I.ownTs h0
  refine ⟨_, e1, .inl ⟨rfl, vs, SqL.of hh⟩, ?_⟩
  refine se.next I Stp.refl p fun d ev' v Z' H' I' s _ rp q => ?_
  cases h1 : ownTs ev' i with
  | none => simp only [h1] at q; exact q.elim
  | some ts =>
    simp only [h1] at q
    obtain ⟨a', vs', e2, z', hh', r', _⟩ := I'.ownTs h1
    rw [e1] at e2; cases e2
    split at q
    · rename_i hz
      obtain ⟨I2, s2⟩ := write_ok I' h1 e1 (r'.append (.cons rp .nil))
      exact ⟨a, vs', v, rfl, rfl, hh', by rw [← r'.length]; exact hz, q _ _ _ I2 (s.trans s2) .non⟩
    · exact q.elim
theorem xe_extend (i : Nat) (ha : XE X W e τ) (hN : X.N[i]? = some x := by rfl) (hv : Vis X.env.scope x := by first | exact Or.inl rfl | exact Or.inr (Or.inl rfl) | exact Or.inr (Or.inr rfl)) (hs : starEach [e] X.env = (false, eval e X.env) :: starEach [] X.env := by rfl)
    (hbase : attributeBase (.Name x p1) "extend" X.env (eval (.Name x p1) X.env) = eval (.Name x p1) X.env := by rfl)
    (hfew : ((backTo cpos (starEach [e] X.env)).all (fun x => !x.1) && (backToKw cpos (keywordEach [] X.env)).all (fun x => x.1.isSome)
      && decide ([e].length + ([] : List Keyword).length + (if ([] : List Keyword).isEmpty then 0 else 1) < 30)) = true := by rfl)
    (hline : (apos.endLine == cpos.line) = true := by rfl) (hd : (x == ("__debug__" : Str)) = false := by decide) (hcd : (x == ("__classdict__" : Str)) = false := by decide) :
    XE X W (.Call (.Attribute (.Name x p1) "extend" apos) [e] [] cpos) (exS i τ) := by
  obtain ⟨t, pe, se⟩ := ha
  refine ⟨_, pe_bm PySem.F.plainAttrs_list PySem.F.slot_list_extend PySem.F.type_list_extend mt_extend (pe_var hN hv hd hcd) (pa_cons pe pa_nil hs) hbase hfew hline hs, fun Z H σ ev Q I p => ?_⟩
  unfold exS at p
  split at p
  case isFalse => exact p.elim
  rename_i h0
  obtain ⟨ts0, h0⟩ := some_of h0
  obtain ⟨a, vs, e1, z, hh, r, _⟩ := I.ownTs h0
  refine ⟨_, e1, .inl ⟨rfl, vs, SqL.of hh⟩, ?_⟩
  refine se.next I Stp.refl p fun d ev' v Z' H' I' s _ rp q => ?_
  cases h1 : ownTs ev' i with
  | none => simp only [h1] at q; exact q.elim
  | some ts =>
    simp only [h1] at q
    obtain ⟨a', vs', e2, z', hh', r', _⟩ := I'.ownTs h1
    rw [e1] at e2; cases e2
    cases d with
    | lst us =>
      have q : Post (gm X) W Z H σ ev (if ts.length + us.length ≤ sizeLine then R.ok (T.non, updSl ev' i (ts ++ us)) else .bad) (OkE (gm X) Z H σ ev Q) := q
      split at q
      · rename_i hz
        obtain ⟨b, zs, rfl, hb, rb⟩ := rp.lstE
        obtain ⟨I2, s2⟩ := write_ok I' h1 e1 (r'.append rb)
        exact ⟨a, b, vs', zs, rfl, rfl, hh', I'.sub _ _ hb, by rw [← r'.length, ← rb.length]; exact hz, q _ _ _ I2 (s.trans s2) .non⟩
      · exact q.elim
    | _ => exact q.elim
theorem xe_pop (i : Nat) (ha : XE X W e τ) (hN : X.N[i]? = some x := by rfl) (hv : Vis X.env.scope x := by first | exact Or.inl rfl | exact Or.inr (Or.inl rfl) | exact Or.inr (Or.inr rfl)) (hs : starEach [e] X.env = (false, eval e X.env) :: starEach [] X.env := by rfl)
    (hbase : attributeBase (.Name x p1) "pop" X.env (eval (.Name x p1) X.env) = eval (.Name x p1) X.env := by rfl)
    (hfew : ((backTo cpos (starEach [e] X.env)).all (fun x => !x.1) && (backToKw cpos (keywordEach [] X.env)).all (fun x => x.1.isSome)
      && decide ([e].length + ([] : List Keyword).length + (if ([] : List Keyword).isEmpty then 0 else 1) < 30)) = true := by rfl)
    (hline : (apos.endLine == cpos.line) = true := by rfl) (hd : (x == ("__debug__" : Str)) = false := by decide) (hcd : (x == ("__classdict__" : Str)) = false := by decide) :
    XE X W (.Call (.Attribute (.Name x p1) "pop" apos) [e] [] cpos) (popS i τ) := by
  obtain ⟨t, pe, se⟩ := ha
  refine ⟨_, pe_bm PySem.F.plainAttrs_list PySem.F.slot_list_pop PySem.F.type_list_pop mt_popAt (pe_var hN hv hd hcd) (pa_cons pe pa_nil hs) hbase hfew hline hs, fun Z H σ ev Q I p => ?_⟩
  unfold popS at p
  split at p
  case isFalse => exact p.elim
  rename_i h0
  obtain ⟨ts0, h0⟩ := some_of h0
  obtain ⟨a, vs, e1, z, hh, r, _⟩ := I.ownTs h0
  refine ⟨_, e1, .inl ⟨rfl, vs, SqL.of hh⟩, ?_⟩
  refine se.next I Stp.refl p fun d ev' v Z' H' I' s _ rp q => ?_
  cases h1 : ownTs ev' i with
  | none => simp only [h1] at q; exact q.elim
  | some ts =>
    simp only [h1] at q
    obtain ⟨a', vs', e2, z', hh', r', _⟩ := I'.ownTs h1
    rw [e1] at e2; cases e2
    cases d with
    | int k =>
      simp only at q
      split at q
      case isFalse => exact q.elim
      rename_i hk
      cases h2 : seqIndex? k ts.length with
      | none => simp only [h2] at q; exact q.elim
      | some j =>
        simp only [h2] at q
        cases h3 : ts[j]? with
        | none => simp only [h3] at q; exact q.elim
        | some t =>
          simp only [h3] at q
          cases rp.intE
          obtain ⟨v2, e3, r3⟩ := r'.get h3
          obtain ⟨I2, s2⟩ := write_ok I' h1 e1 (r'.erase j)
          exact ⟨a, vs', k, j, v2, rfl, rfl, hh', hk.1, hk.2, by rw [← r'.length]; exact h2, e3, q _ _ _ I2 (s.trans s2) r3⟩
    | _ => exact q.elim
theorem xe_pop0 (i : Nat) (hN : X.N[i]? = some x := by rfl) (hv : Vis X.env.scope x := by first | exact Or.inl rfl | exact Or.inr (Or.inl rfl) | exact Or.inr (Or.inr rfl))
    (hbase : attributeBase (.Name x p1) "pop" X.env (eval (.Name x p1) X.env) = eval (.Name x p1) X.env := by rfl)
    (hline : (apos.endLine == cpos.line) = true := by rfl) (hd : (x == ("__debug__" : Str)) = false := by decide) (hcd : (x == ("__classdict__" : Str)) = false := by decide) :
    XE X W (.Call (.Attribute (.Name x p1) "pop" apos) [] [] cpos) (pop0 i) := by
  refine ⟨_, pe_bm0 PySem.F.plainAttrs_list PySem.F.slot_list_pop PySem.F.type_list_pop mt_pop (pe_var hN hv hd hcd) hbase hline, fun Z H σ ev Q I p => ?_⟩
  unfold pop0 at p
  cases h1 : ownTs ev i with
  | none => simp only [h1] at p; exact p.elim
  | some ts =>
    simp only [h1] at p
    obtain ⟨a, vs, e1, z, hh, r, _⟩ := I.ownTs h1
    cases h3 : ts[ts.length - 1]? with
    | none => simp only [h3] at p; exact p.elim
    | some t =>
      simp only [h3] at p
      obtain ⟨v2, e3, r3⟩ := r.get h3
      obtain ⟨I2, s2⟩ := write_ok I h1 e1 r.dropLast
      exact ⟨_, e1, .inl ⟨rfl, vs, SqL.of hh⟩, a, vs, v2, rfl, rfl, hh, by rw [← r.length]; exact e3, p _ _ _ I2 s2 r3⟩
theorem xs_store (i : Nat) {tpos : Pos} (hv' : XE X W e τ) (hi : XE X W ix τi) (hN : X.N[i]? = some x := by rfl) (hv : Vis X.env.scope x := by first | exact Or.inl rfl | exact Or.inr (Or.inl rfl) | exact Or.inr (Or.inr rfl))
    (hs : swapsWithSole [.Subscript (.Name x p1) ix tpos] e pos.line X.env = pure false := by rfl) (hw : swappedStores [.Subscript (.Name x p1) ix tpos] e X.env = pure none := by rfl)
    (h1 : (assignEach [.Subscript (.Name x p1) ix tpos] X.env).map (·.2) = [assign (.Subscript (.Name x p1) ix tpos) X.env] := by rfl)
    (ha : ∀ v, assign (.Subscript (.Name x p1) ix tpos) X.env v = (do
      let ov ← holding [v] (eval (.Name x p1) X.env)
      let iv ← holding [v, ov] (eval ix X.env)
      standAt tpos
      holding [v, ov, iv] (setItem ov iv v)
      release [v, ov, iv] []) := by intro _; rfl)
    (hd : (x == ("__debug__" : Str)) = false := by decide) (hcd : (x == ("__classdict__" : Str)) = false := by decide) : XS X W (.Assign [.Subscript (.Name x p1) ix tpos] e pos) (stS i τi τ) := by
  obtain ⟨t, pe, se⟩ := hv'
  obtain ⟨ti, pi, si⟩ := hi
  refine ⟨_, ps_asg pe (pg_sub (pe_var hN hv hd hcd) pi set_list ha) hs hw h1, fun Z H σ ev D I q => ?_⟩
  refine se.nextS I Stp.refl q fun d ev' v Z' H' I' s r k => ?_
  simp only at k
  split at k
  case isFalse => exact k.elim
  rename_i h0
  obtain ⟨ts0, h0⟩ := some_of h0
  obtain ⟨a, vs, e1, z, hh, rr, _⟩ := I'.ownTs h0
  refine ⟨_, e1, ?_⟩
  refine si.next I' s k fun d2 ev2 v2 Z2 H2 I2 s2 s12 r2 k2 => ?_
  cases h2 : ownTs ev2 i with
  | none => simp only [h2] at k2; exact k2.elim
  | some ts =>
    simp only [h2] at k2
    obtain ⟨a', vs', e2, z', hh', r', _⟩ := I2.ownTs h2
    rw [e1] at e2; cases e2
    cases d2 with
    | int k =>
      simp only at k2
      cases h3 : ixN ts.length k with
      | none => simp only [h3] at k2; exact k2.elim
      | some j =>
        simp only [h3] at k2
        cases r2.intE
        obtain ⟨I3, s3⟩ := write_ok I2 h2 e1 (r'.set (r.mono s12.zz) j)
        exact ⟨a, vs', k, j, rfl, rfl, hh', by rw [← r'.length]; exact h3, k2 _ _ _ I3 (s2.trans s3)⟩
    | _ => exact k2.elim
end
end PH
set_option Elab.async false
set_option linter.all false
set_option maxRecDepth 100000
namespace PH
open PySem PySem.Spec PyProof.Rows L2
/-! ### what a def promises, on trees -/
def RvP (G : Gm) (Z H Z' H' : Hp) (σ : L2.St) (ev' : Ev) : Rv → V → Prop
  | .v t, v => Rep G Z' t v
  | .o ts, v => ∃ a vs, v = .ref a ∧ H a = none ∧ Z' a = none ∧ H' a = some (.lst vs) ∧ Reps G Z' ts vs ∧ ∀ i, ¬ Own σ ev' i a
abbrev OkR (G : Gm) (Z H : Hp) (σ : L2.St) (ev : Ev) (Q : VK) : Rv → Ev → Prop := fun r ev' => ∀ v Z' H', StOk G Z' H' σ ev' → Stp Z H σ ev Z' H' σ ev' → RvP G Z H Z' H' σ ev' r v → Q v H'
abbrev Fn := Ev → R (Rv × Ev)
def spT (G : Gm) (n : Nat) (g : Fn) : Sp := fun vs H Q E => vs.length = n ∧ ∃ Z ev, StOk G Z H (vs.map some) ev ∧ Post G (fun c d _ H' => E c d H') Z H (vs.map some) ev (g ev) (OkR G Z H (vs.map some) ev Q)
/-- the parameters behind the body: boxes as they are now, values as they came -/
def outE : Ev → Ev → Ev
  | [], _ => []
  | .box _ :: ev, s :: ev' => s :: outE ev ev'
  | s :: ev, _ :: ev' => s :: outE ev ev'
  | s :: ev, [] => s :: outE ev []
def runB (n : Nat) (τ : XRS) : Fn := fun ev => match τ (ev ++ List.replicate (n - ev.length) .no) with
  | .ok (.ret d, ev') => .ok (.v d, outE ev ev')
  | .ok (.reto d, ev') => .ok (.o d, outE ev ev')
  | .ok (.nx, ev') => .ok (.v .non, outE ev ev')
  | .exc c fs ev' => .exc c fs (outE ev ev')
  | _ => .bad
section
variable {G : Gm} {Z H Z' H' : Hp} {σ σ' : L2.St} {ev ev' : Ev}
theorem outE_at : ∀ {ev ev' : Ev} {i : Nat} {s : Sl}, ev.length ≤ ev'.length → (outE ev ev')[i]? = some s → ∃ s0, ev[i]? = some s0 ∧ ((∃ ts, s0 = .box ts) ∧ ev'[i]? = some s ∨ (∀ ts, s0 ≠ .box ts) ∧ s = s0)
  | [], _, i, s, _, h => by simp [outE] at h
  | s0 :: ev, [], i, s, hl, h => by simp at hl
  | s0 :: ev, s1 :: ev', i, s, hl, h => by
    cases i with
    | zero =>
      cases s0 <;> (simp [outE] at h; subst h)
      · exact ⟨.no, rfl, .inr ⟨fun ts h => (nomatch h), rfl⟩⟩
      · exact ⟨.val _, rfl, .inr ⟨fun ts h => (nomatch h), rfl⟩⟩
      · exact ⟨.own _, rfl, .inr ⟨fun ts h => (nomatch h), rfl⟩⟩
      · exact ⟨.box _, rfl, .inl ⟨⟨_, rfl⟩, rfl⟩⟩
    | succ i =>
      have h' : (outE ev ev')[i]? = some s := by cases s0 <;> simpa [outE] using h
      obtain ⟨s2, e, q⟩ := outE_at (by simpa using hl) h'
      exact ⟨s2, by simpa using e, by simpa using q⟩
theorem outE_length : ∀ {ev ev' : Ev}, ev.length ≤ ev'.length → (outE ev ev').length = ev.length
  | [], _, _ => rfl
  | s0 :: ev, [], hl => by simp at hl
  | s0 :: ev, s1 :: ev', hl => by
    have := outE_length (ev := ev) (ev' := ev') (by simpa using hl)
    cases s0 <;> simp [outE, this]
/-- parameters are values and boxes -/
def parE (ev : Ev) : Bool := ev.all fun s => match s with
  | .own _ => false
  | _ => true
theorem start_eq {N : List Str} {vs : List V} : L2.start N vs = vs.map some ++ List.replicate (N.length - vs.length) none := rfl
theorem start_ok {k : Nat} (I : StOk G Z H σ ev) : StOk G Z H (σ ++ List.replicate k none) (ev ++ List.replicate k .no) := by
  have own : ∀ i a, Own (σ ++ List.replicate k none) (ev ++ List.replicate k .no) i a → Own σ ev i a := fun i a ⟨s, v, e1, e2, e3⟩ => by
    by_cases h : i < ev.length
    · rw [List.getElem?_append_left h] at e1
      rw [List.getElem?_append_left (by rw [← I.len]; exact h)] at e2
      exact ⟨s, v, e1, e2, e3⟩
    · rw [List.getElem?_append_right (by omega)] at e1
      rw [List.getElem?_replicate] at e1
      split at e1
      · cases e1; cases v <;> cases e3
      · cases e1
  refine ⟨I.sub, by simp [I.len], fun i s v e1 e2 => ?_, fun i j a p q => I.dist i j a (own i a p) (own j a q)⟩
  by_cases h : i < ev.length
  · rw [List.getElem?_append_left h] at e1
    rw [List.getElem?_append_left (by rw [← I.len]; exact h)] at e2
    exact I.slots i s v e1 e2
  · rw [List.getElem?_append_right (by omega), List.getElem?_replicate] at e1
    split at e1
    · cases e1; trivial
    · cases e1
theorem own_start {k : Nat} (I : StOk G Z H σ ev) {i : Nat} {a : Addr} (h : Own (σ ++ List.replicate k none) (ev ++ List.replicate k .no) i a) : Own σ ev i a := by
  obtain ⟨s, v, e1, e2, e3⟩ := h
  by_cases h : i < ev.length
  · rw [List.getElem?_append_left h] at e1
    rw [List.getElem?_append_left (by rw [← I.len]; exact h)] at e2
    exact ⟨s, v, e1, e2, e3⟩
  · rw [List.getElem?_append_right (by omega), List.getElem?_replicate] at e1
    split at e1
    · cases e1; cases v <;> cases e3
    · cases e1
/-- out of the body -/
theorem out_ok {k : Nat} (I : StOk G Z H σ ev) (hp : parE ev = true) (I' : StOk G Z' H' σ' ev') (s : Stp Z H (σ ++ List.replicate k none) (ev ++ List.replicate k .no) Z' H' σ' ev') (hl : ev.length ≤ ev'.length) :
    StOk G Z' H' σ (outE ev ev') ∧ Stp Z H σ ev Z' H' σ (outE ev ev') := by
  have bx : ∀ (i : Nat) ts, ev[i]? = some (.box ts) → σ'[i]? = σ[i]? ∧ ∃ ts', ev'[i]? = some (.box ts') := fun i ts e => by
    have hi : i < ev.length := (List.getElem?_eq_some_iff.mp e).1
    obtain ⟨e1, ts', e2⟩ := s.bx i ts (by rw [List.getElem?_append_left hi]; exact e)
    rw [List.getElem?_append_left (by rw [← I.len]; exact hi)] at e1
    exact ⟨e1, ts', e2⟩
  have par : ∀ (i : Nat) us, ev[i]? ≠ some (.own us) := fun i us e => by
    have := List.all_eq_true.mp hp _ (List.mem_of_getElem? e)
    cases this
  have own : ∀ i a, Own σ (outE ev ev') i a → Own σ' ev' i a ∧ Own σ ev i a := fun i a ⟨t, v, e1, e2, e3⟩ => by
    obtain ⟨s0, f1, ⟨⟨ts, rfl⟩, f2⟩ | ⟨f2, rfl⟩⟩ := outE_at hl e1
    · obtain ⟨g1, ts', g2⟩ := bx i ts f1
      refine ⟨⟨t, v, f2, by rw [g1]; exact e2, e3⟩, .box ts, v, f1, e2, ?_⟩
      rw [f2] at g2; cases g2
      obtain ⟨rfl, _⟩ := oAt_some e3
      rfl
    · obtain ⟨rfl, ts, rfl | rfl⟩ := oAt_some e3
      · exact absurd f1 (par i ts)
      · exact absurd rfl (f2 ts)
  refine ⟨⟨I'.sub, by rw [outE_length hl]; exact I.len, fun i t v e1 e2 => ?_, fun i j a p q => I'.dist i j a (own i a p).1 (own j a q).1⟩, ⟨s.zz, fun a o e n => s.hh a o e fun i w => n i (own_start I w), fun a o e => ?_, fun i a p => .inr ⟨i, (own i a p).2⟩, fun i ts e => ?_, s.th, rfl⟩⟩
  · obtain ⟨s0, f1, ⟨⟨ts, rfl⟩, f2⟩ | ⟨f2, rfl⟩⟩ := outE_at hl e1
    · obtain ⟨g1, _⟩ := bx i ts f1
      exact I'.slots i t v f2 (by rw [g1]; exact e2)
    · have sl := I.slots i t v f1 e2
      cases t with
      | no => trivial
      | val u => cases v <;> first | exact sl | exact Rep.mono s.zz sl
      | own us => exact absurd f1 (par i us)
      | box us => exact absurd rfl (f2 us)
  · rcases s.zf a o e with z | z | ⟨i, w⟩
    · exact .inl z
    · exact .inr (.inl z)
    · exact .inr (.inr ⟨i, own_start I w⟩)
  · obtain ⟨g1, ts', g2⟩ := bx i ts e
    refine ⟨rfl, ts', ?_⟩
    cases h : (outE ev ev')[i]? with
    | none =>
      have := List.getElem?_eq_none_iff.mp h
      rw [outE_length hl] at this
      have := (List.getElem?_eq_some_iff.mp e).1
      omega
    | some t =>
      obtain ⟨s0, f1, ⟨_, f2⟩ | ⟨f2, _⟩⟩ := outE_at hl h
      · rw [f2] at g2; exact g2
      · rw [e] at f1; cases f1; exact absurd rfl (f2 ts)
end
/-! ### a def by its body -/
theorem takesF {X : Cx} : L2N.Takes X Wf := fun u s' x => by
  obtain ⟨_, _, _, _, _, _, _, _, _, _, _, _, _, _, _, _, w⟩ := x
  exact w.elim
section
variable {P : Program} {w : World} {K : PySem.W.Frag} {mg : Str → Option Value} {base : Heap}
/-- a def keeps what its body, on trees, tells -/
abbrev FnT (P : Program) (w : World) (K : PySem.W.Frag) (mg : Str → Option Value) (base : Heap) (k : Nat) (f : Addr) (fd : FuncData) (ps : List Str) (g : Fn) : Prop := FnOk P w K mg base (L2N.CX P w) k f fd ps (spT ⟨K, mg⟩ ps.length g)
/-- what a def's body may lean on -/
structure Bd (X : Cx) (W : WX) (k : Nat) : Prop where
  calm : X.calm = true
  room : Room k X.A
  tk : L2N.Takes X W
  own : PassesOwn (model X.prog X.w) X.A X.env X.xe
theorem Bd.units {X : Cx} {W : WX} {k : Nat} (b : Bd X W k) : X.A.units + 64 < cLine := b.room.units
theorem Fun.okT {x qual : Str} {st : Stmt} {f : Addr} {fd : FuncData} {N ps : List Str} {k : Nat} {τ : XRS} {g : Fn} (F : Fun K x qual st f fd) (S : FnScope N ps (defScope st))
    (hbody : ∀ (cdv : Value) (A : Around) (outer : List Env) (s : Shared) (H : Hp) (E : XK), Bd (cxOf (L2N.CX P w) P w K mg base N qual (defScope st) f cdv A outer s H E) (fun c d _ H' => E c d H') k →
      XSs (cxOf (L2N.CX P w) P w K mg base N qual (defScope st) f cdv A outer s H E) (fun c d _ H' => E c d H') (defBody st) τ)
    (hg : ∀ ev r, g ev = r → r ≠ .bad → parE ev = true ∧ runB N.length τ ev = r) (hps : ps.length ≤ N.length) : FnT P w K mg base (k + 1) f fd ps g := by
  obtain ⟨oc, od, kV, doc, pm, an, cdv, ct, osl, rfl, hlk, hcd⟩ := F.ex
  refine fn_of hlk hcd S (fun vs H Q E h => h.1) fun A outer s H vs Q E hr h => ?_
  obtain ⟨hn, Z, ev, I, p⟩ := h
  have hb : Bd (cxOf (L2N.CX P w) P w K mg base N qual (defScope st) f cdv A outer s H E) (fun c d _ H' => E c d H') k := ⟨rfl, hr, L2N.takes_of rfl rfl rfl rfl, passes_of rfl⟩
  obtain ⟨t, pt, st⟩ := hbody cdv A outer s H E hb
  refine ⟨t, pt, ?_⟩
  obtain ⟨hpar, hrun⟩ := hg ev _ rfl (fun e => by rw [e] at p; exact p)
  rw [← hrun] at p
  have hl : ev.length = vs.length := by rw [I.len]; simp
  have hk : N.length - ev.length = N.length - vs.length := by rw [hl]
  unfold runB at p
  rw [hk] at p
  have I1 := start_ok (k := N.length - vs.length) I
  rw [start_eq]
  have lenOk : ∀ {Z' H' : Hp} {σ' : L2.St} {ev' : Ev}, StOk ⟨K, mg⟩ Z' H' σ' ev' → Stp Z H (vs.map some ++ List.replicate (N.length - vs.length) none) (ev ++ List.replicate (N.length - vs.length) .no) Z' H' σ' ev' → ev.length ≤ ev'.length := fun I' s' => by
    have := s'.ln
    rw [I'.len, this]
    simp [hl]
  refine st Z H _ _ _ I1 ?_
  cases e : τ (ev ++ List.replicate (N.length - vs.length) Sl.no) with
  | bad => rw [e] at p; exact p.elim
  | exc c fs ev' =>
    rw [e] at p
    intro C d gs σ' Z' H' hm I' s' hd r
    obtain ⟨I2, s2⟩ := out_ok I hpar I' s' (lenOk I' s')
    exact p C d gs _ Z' H' hm I2 s2 hd r
  | ok q =>
    obtain ⟨fl, ev'⟩ := q
    rw [e] at p
    cases fl with
    | nx =>
      intro σ' Z' H' I' s'
      obtain ⟨I2, s2⟩ := out_ok I hpar I' s' (lenOk I' s')
      exact p _ _ _ I2 s2 .non
    | ret d =>
      intro v σ' Z' H' I' s' r
      obtain ⟨I2, s2⟩ := out_ok I hpar I' s' (lenOk I' s')
      exact p _ _ _ I2 s2 r
    | reto d =>
      intro a us σ' Z' H' I' s' h1 h2 h3 h4 r
      obtain ⟨I2, s2⟩ := out_ok I hpar I' s' (lenOk I' s')
      have h0 : H a = none := by
        rcases h1 with h1 | ⟨j, w⟩
        · exact h1
        · -- a box would still be own
          exfalso
          have w' := own_start I w
          obtain ⟨s0, v0, f1, f2, f3⟩ := w'
          obtain ⟨rfl, ts0, rfl | rfl⟩ := oAt_some f3
          · have := List.all_eq_true.mp hpar _ (List.mem_of_getElem? f1)
            cases this
          · have hj : j < ev.length := (List.getElem?_eq_some_iff.mp f1).1
            obtain ⟨g1, ts', g2⟩ := s'.bx j ts0 (by rw [List.getElem?_append_left hj]; exact f1)
            rw [List.getElem?_append_left (by simpa [hl] using hj), f2] at g1
            exact h3 j ⟨_, _, g2, g1, rfl⟩
      refine p _ _ _ I2 s2 ⟨a, us, rfl, h0, h2, h4, r, fun i w => ?_⟩
      rcases s2.ow i a w with z | ⟨j, w2⟩
      · obtain ⟨s0, v0, f1, f2, f3⟩ := w
        -- an own slot of the parameters holds what was there
        obtain ⟨rfl, ts0, hs⟩ := oAt_some f3
        obtain ⟨t0, k1, ⟨⟨ts1, rfl⟩, k2⟩ | ⟨k2, rfl⟩⟩ := outE_at (lenOk I' s') f1
        · have w3 : Own (vs.map some) ev i a := ⟨_, _, k1, f2, rfl⟩
          obtain ⟨_, us', hh⟩ := I.own w3
          rw [z] at hh; cases hh
        · rcases hs with rfl | rfl
          · have := List.all_eq_true.mp hpar _ (List.mem_of_getElem? k1)
            cases this
          · exact absurd rfl (k2 ts0)
      · obtain ⟨_, us', hh⟩ := I.own w2
        rw [h0] at hh; cases hh
    | brk => exact p.elim
    | cnt => exact p.elim
end
end PH
set_option Elab.async false
set_option linter.all false
set_option maxRecDepth 100000
namespace PH
open PySem PySem.Spec PyProof.Rows L2
/-! ### calls of defs -/
def Rv.t : Rv → T
  | .v t => t
  | .o ts => .lst ts
def backV (x : R (Rv × Ev)) (ev : Ev) : R (Rv × Ev) := match x with
  | .ok (r, _) => .ok (r, ev)
  | .exc c fs _ => .exc c fs ev
  | .bad => .bad
def putB (i : Nat) (e' ev : Ev) : Option Ev := match e'[0]?, ev[i]? with
  | some (Sl.box ts'), some (Sl.own _) => some (ev.set i (.own ts'))
  | some (Sl.box ts'), some (Sl.box _) => some (ev.set i (.box ts'))
  | _, _ => none
def backB (i : Nat) (x : R (Rv × Ev)) (ev : Ev) : R (Rv × Ev) := match x with
  | .ok (r, e') => match putB i e' ev with
    | some ev' => .ok (r, ev')
    | none => .bad
  | .exc c fs e' => match putB i e' ev with
    | some ev' => .exc c fs ev'
    | none => .bad
  | .bad => .bad
/-- the list that slot i holds by itself -/
def lstAt (ev : Ev) (i : Nat) : Option (List T) := match ev[i]? with
  | some (.own ts) => some ts
  | some (.box ts) => some ts
  | _ => none
section
variable {G : Gm} {W : WX} {Z H Z' H' Z0 H0 : Hp} {σ : L2.St} {ev ev0 ev' evc evc' : Ev} {vs : List V} {ts : List T}
theorem reps_slots (r : Reps G Z ts vs) : ∀ (i : Nat) (s : Sl) (v : Option V), (ts.map Sl.val)[i]? = some s → (vs.map some)[i]? = some v → SlOk G Z H s v := fun i s v e1 e2 => by
  rw [List.getElem?_map] at e1 e2
  cases h1 : ts[i]? with
  | none => rw [h1] at e1; cases e1
  | some t =>
    rw [h1] at e1; cases e1
    obtain ⟨x, h2, rp⟩ := r.get h1
    rw [h2] at e2; cases e2
    exact rp
theorem no_own (h : ∀ (i : Nat) (s : Sl), evc[i]? = some s → ∃ t, s = Sl.val t) : ∀ i a, ¬ Own σ evc i a := fun i a ⟨s, v, e1, e2, e3⟩ => by
  obtain ⟨t, rfl⟩ := h i s e1
  cases v <;> cases e3
theorem vals_val : ∀ (i : Nat) (s : Sl), (ts.map Sl.val)[i]? = some s → ∃ t, s = Sl.val t := fun i s e => by
  rw [List.getElem?_map] at e
  cases h1 : ts[i]? with
  | none => rw [h1] at e; cases e
  | some t => rw [h1] at e; cases e; exact ⟨t, rfl⟩
theorem argsV (I : StOk G Z H σ ev) (r : Reps G Z ts vs) : StOk G Z H (vs.map some) (ts.map Sl.val) :=
  ⟨I.sub, by simp [r.length], reps_slots r, fun i j a p => absurd p (no_own vals_val i a)⟩
/-- behind a call that has only values -/
theorem backV_ok (I : StOk G Z H σ ev) {τ : L2.St} (I' : StOk G Z' H' τ evc') (s : Stp Z H τ evc Z' H' τ evc') (no : ∀ i a, ¬ Own τ evc i a) : StOk G Z' H' σ ev ∧ Stp Z H σ ev Z' H' σ ev := by
  have same : ∀ i a, Own σ ev i a → H' a = H a ∧ Z' a = Z a := fun i a w => by
    obtain ⟨z, xs, hh⟩ := I.own w
    refine ⟨(s.hh a _ hh fun j => no j a).trans hh.symm, ?_⟩
    cases e : Z' a with
    | none => exact z.symm
    | some o =>
      rcases s.zf a o e with q | q | ⟨j, q⟩
      · exact q.symm
      · rw [hh] at q; cases q
      · exact absurd q (no j a)
  refine ⟨⟨I'.sub, I.len, fun i t v e1 e2 => ?_, I.dist⟩, ⟨s.zz, fun a o e _ => s.hh a o e fun j => no j a, fun a o e => ?_, fun i a w => .inr ⟨i, w⟩, fun i us e => ⟨rfl, us, e⟩, s.th, rfl⟩⟩
  · exact ((I.slots i t v e1 e2).grow s.zz fun a e => (same i a ⟨t, v, e1, e2, e⟩).2).heap fun a e => (same i a ⟨t, v, e1, e2, e⟩).1
  · rcases s.zf a o e with q | q | ⟨j, q⟩
    · exact .inl q
    · exact .inr (.inl q)
    · exact absurd q (no j a)
theorem argsB (I : StOk G Z H σ ev) {a : Addr} {us : List T} {xs : List V} (z : Z a = none) (hh : H a = some (.lst xs)) (ru : Reps G Z us xs) (r : Reps G Z ts vs) :
    StOk G Z H ((V.ref a :: vs).map some) (.box us :: ts.map Sl.val) ∧ ∀ i b, Own ((V.ref a :: vs).map some) (.box us :: ts.map Sl.val) i b → i = 0 ∧ b = a := by
  have own : ∀ i b, Own ((V.ref a :: vs).map some) (.box us :: ts.map Sl.val) i b → i = 0 ∧ b = a := fun i b ⟨s, v, e1, e2, e3⟩ => by
    cases i with
    | zero => simp at e1 e2; subst e1 e2; cases e3; exact ⟨rfl, rfl⟩
    | succ i =>
      have e1' : (ts.map Sl.val)[i]? = some s := by simpa using e1
      obtain ⟨t, rfl⟩ := vals_val i s e1'
      cases v <;> cases e3
  refine ⟨⟨I.sub, by simp [r.length], fun i s v e1 e2 => ?_, fun i j b p q => (own i b p).1.trans (own j b q).1.symm⟩, own⟩
  cases i with
  | zero => simp at e1 e2; subst e1 e2; exact ⟨z, xs, hh, ru⟩
  | succ i => exact reps_slots r i s v (by simpa using e1) (by simpa using e2)
theorem backB_ok (I : StOk G Z H σ ev) {τ : L2.St} {i : Nat} {a : Addr} {us us' : List T} (I' : StOk G Z' H' τ evc') (s : Stp Z H τ evc Z' H' τ evc') (own : ∀ j b, Own τ evc j b → j = 0 ∧ b = a) (w : Own σ ev i a)
    (h0 : evc'[0]? = some (.box us')) (hτ : τ[0]? = some (some (.ref a))) (hp : putB i evc' ev = some ev') :
    StOk G Z' H' σ ev' ∧ Stp Z H σ ev Z' H' σ ev' ∧ ∀ j b, Own σ ev' j b → Own σ ev j b := by
  obtain ⟨s0, v0, w1, w2, w3⟩ := w
  have w : Own σ ev i a := ⟨s0, v0, w1, w2, w3⟩
  obtain ⟨rfl, us0, hs0⟩ := oAt_some w3
  have hl : i < ev.length := (List.getElem?_eq_some_iff.mp w1).1
  obtain ⟨vx, ex, sx⟩ := I'.at h0
  rw [hτ] at ex; cases ex
  obtain ⟨z', xs', hh', r'⟩ := sx
  obtain ⟨sN, rfl, kN⟩ : ∃ sN, ev' = ev.set i sN ∧ (sN = .own us' ∨ sN = .box us' ∧ ∃ us0, ev[i]? = some (.box us0)) := by
    unfold putB at hp
    rw [h0, w1] at hp
    rcases hs0 with rfl | rfl
    · cases hp; exact ⟨_, rfl, .inl rfl⟩
    · cases hp; exact ⟨_, rfl, .inr ⟨rfl, _, w1⟩⟩
  have slN : SlOk G Z' H' sN (some (.ref a)) := by
    rcases kN with rfl | ⟨rfl, _⟩
    · exact ⟨z', xs', hh', r'⟩
    · exact ⟨z', xs', hh', r'⟩
  have oaN : ∀ b, oAt sN (some (.ref a)) = some b → b = a := fun b e => by
    rcases kN with rfl | ⟨rfl, _⟩ <;> (cases e; rfl)
  have same : ∀ j b, j ≠ i → Own σ ev j b → H' b = H b ∧ Z' b = Z b := fun j b hj wj => by
    have hb : b ≠ a := fun e => hj (I.dist j i a (e ▸ wj) w)
    obtain ⟨z, xs, hh⟩ := I.own wj
    refine ⟨(s.hh b _ hh fun k q => hb (own k b q).2).trans hh.symm, ?_⟩
    cases e : Z' b with
    | none => exact z.symm
    | some o =>
      rcases s.zf b o e with q | q | ⟨k, q⟩
      · exact q.symm
      · rw [hh] at q; cases q
      · exact absurd (own k b q).2 hb
  have back : ∀ j b, Own σ (ev.set i sN) j b → Own σ ev j b := fun j b q => by
    rcases own_set q with ⟨rfl, v, e2, e3⟩ | q
    · rw [w2] at e2; cases e2
      rw [oaN b e3]; exact w
    · exact q.2
  refine ⟨⟨I'.sub, by rw [List.length_set]; exact I.len, fun j t v e1 e2 => ?_, fun j k b p q => I.dist j k b (back j b p) (back k b q)⟩, ⟨s.zz, fun b o e n => s.hh b o e fun k q => n i ((own k b q).2 ▸ w), fun b o e => ?_, fun j b q => .inr ⟨j, back j b q⟩, fun j us1 e => ⟨rfl, ?_⟩, s.th, rfl⟩, back⟩
  · by_cases hj : j = i
    · subst hj
      rw [List.getElem?_set_self hl] at e1
      cases e1
      rw [w2] at e2; cases e2
      exact slN
    · rw [List.getElem?_set_ne (Ne.symm hj)] at e1
      exact ((I.slots j t v e1 e2).grow s.zz fun b e => (same j b hj ⟨t, v, e1, e2, e⟩).2).heap fun b e => (same j b hj ⟨t, v, e1, e2, e⟩).1
  · rcases s.zf b o e with q | q | ⟨k, q⟩
    · exact .inl q
    · exact .inr (.inl q)
    · exact .inr (.inr ⟨i, (own k b q).2 ▸ w⟩)
  · by_cases hj : j = i
    · subst hj
      rcases kN with rfl | ⟨rfl, us2, e2⟩
      · rw [w1] at e
        cases e
        rcases hs0 with h | h
        · cases h
        · exfalso
          -- an own slot was made out of a box: putB never does it
          unfold putB at hp
          rw [h0, w1, ] at hp
          simp only [Option.some.injEq] at hp
          have := congrArg (fun l => l[j]?) hp
          simp only [List.getElem?_set_self hl] at this
          cases this
      · exact ⟨us', List.getElem?_set_self hl⟩
    · exact ⟨us1, by rw [List.getElem?_set_ne (Ne.symm hj)]; exact e⟩
/-- a call with values: what the callee is asked -/
theorem callV {g : Fn} {n : Nat} {Q : VK} {okr : Rv → Ev → Prop} (I : StOk G Z H σ ev) (s : Stp Z0 H0 σ ev0 Z H σ ev) (r : Reps G Z ts vs) (hn : ts.length = n) (p : Post G W Z0 H0 σ ev0 (backV (g (ts.map .val)) ev) okr)
    (k : ∀ x v Z' H', StOk G Z' H' σ ev → Stp Z H σ ev Z' H' σ ev → RvP G Z H Z' H' σ ev x v → okr x ev → Q v H') : spT G n g vs H Q (L2.WE W σ) := by
  refine ⟨r.length.symm.trans hn, Z, ts.map .val, argsV I r, ?_⟩
  have no : ∀ i a, ¬ Own (vs.map some) (ts.map Sl.val) i a := no_own vals_val
  unfold backV at p
  cases e : g (ts.map Sl.val) with
  | bad => rw [e] at p; exact p.elim
  | exc c fs e' =>
    rw [e] at p
    intro C d gs σ' Z' H' hm I' s' hd rf
    have hσ' : σ'.length = (vs.map some).length := s'.ln
    obtain ⟨I2, s2⟩ := backV_ok (σ := σ) I (τ := vs.map some) (evc := ts.map .val) (evc' := ts.map .val) (Z' := Z') (H' := H') ⟨I'.sub, (argsV I r).len, fun i t v e1 e2 => by
      obtain ⟨u, rfl⟩ := vals_val i t e1
      have := (argsV I r).slots i _ v e1 e2
      cases v <;> first | exact this | exact Rep.mono s'.zz this, fun i j a q => absurd q (no i a)⟩
      ⟨s'.zz, s'.hh, s'.zf, fun i a q => .inr ⟨i, q⟩, fun i us e => ⟨rfl, us, e⟩, s'.th, rfl⟩ no
    exact p C d gs σ Z' H' hm I2 (s.trans s2) hd rf
  | ok q =>
    obtain ⟨x, e'⟩ := q
    rw [e] at p
    intro v Z' H' I' s' rv
    obtain ⟨I2, s2⟩ := backV_ok I I' s' no
    refine k x v Z' H' I2 s2 ?_ p
    cases x with
    | v t => exact rv
    | o us =>
      obtain ⟨a, xs, h1, h2, h3, h4, h5, h6⟩ := rv
      refine ⟨a, xs, h1, h2, h3, h4, h5, fun i w => ?_⟩
      obtain ⟨_, ys, hy⟩ := I.own w
      rw [h2] at hy; cases hy
/-- a call that hands on the list of slot i -/
theorem callB {g : Fn} {n : Nat} {Q : VK} {okr : Rv → Ev → Prop} {i : Nat} {us : List T} {a : Addr} (I : StOk G Z H σ ev) (s : Stp Z0 H0 σ ev0 Z H σ ev) (r : Reps G Z ts vs) (hn : ts.length + 1 = n) (hl : lstAt ev i = some us) (hσ : σ[i]? = some (some (.ref a)))
    (p : Post G W Z0 H0 σ ev0 (backB i (g (.box us :: ts.map .val)) ev) okr)
    (k : ∀ x v ev' Z' H', StOk G Z' H' σ ev' → Stp Z H σ ev Z' H' σ ev' → RvP G Z H Z' H' σ ev' x v → okr x ev' → Q v H') : spT G n g (.ref a :: vs) H Q (L2.WE W σ) := by
  obtain ⟨z, xs, hh, ru, w⟩ : Z a = none ∧ ∃ xs, H a = some (.lst xs) ∧ Reps G Z us xs ∧ Own σ ev i a := by
    unfold lstAt at hl
    split at hl
    · rename_i ts0 e; cases hl
      obtain ⟨b, xs, e2, z, hh, rr, w⟩ := I.ownAt e
      rw [hσ] at e2; cases e2; exact ⟨z, xs, hh, rr, w⟩
    · rename_i ts0 e; cases hl
      obtain ⟨b, xs, e2, z, hh, rr, w⟩ := I.boxAt e
      rw [hσ] at e2; cases e2; exact ⟨z, xs, hh, rr, w⟩
    · cases hl
  obtain ⟨Ic, own⟩ := argsB I z hh ru r
  refine ⟨by simp [r.length.symm, hn], Z, .box us :: ts.map .val, Ic, ?_⟩
  unfold backB at p
  cases e : g (.box us :: ts.map Sl.val) with
  | bad => rw [e] at p; exact p.elim
  | exc c fs e' =>
    rw [e] at p
    dsimp only at p
    cases hp : putB i e' ev with
    | none => rw [hp] at p; exact p.elim
    | some ev' =>
      rw [hp] at p
      intro C d gs σ' Z' H' hm I' s' hd rf
      obtain ⟨g1, us', g2⟩ := s'.bx 0 us rfl
      have hg : σ'[0]? = some (some (.ref a)) := by rw [g1]; rfl
      obtain ⟨vx, ex, sx⟩ := I'.at g2
      rw [hg] at ex; cases ex
      obtain ⟨z', xs', hh', r'⟩ := sx
      -- the callee's state again, at its own slots
      have I3 : StOk G Z' H' ((V.ref a :: vs).map some) (.box us' :: ts.map .val) := ⟨I'.sub, by simp [r.length], fun j t v e1 e2 => by
        cases j with
        | zero => simp at e1 e2; subst e1 e2; exact ⟨z', xs', hh', r'⟩
        | succ j => exact reps_slots (r.mono s'.zz) j t v (by simpa using e1) (by simpa using e2), fun j k b q1 q2 => by
          have own' : ∀ j b, Own ((V.ref a :: vs).map some) (.box us' :: ts.map Sl.val) j b → j = 0 := fun j b ⟨t, v, e1, e2, e3⟩ => by
            cases j with
            | zero => rfl
            | succ j =>
              have e1' : (ts.map Sl.val)[j]? = some t := by simpa using e1
              obtain ⟨t', rfl⟩ := vals_val j t e1'
              cases v <;> cases e3
          exact (own' j b q1).trans (own' k b q2).symm⟩
      have own3 : ∀ j b, Own ((V.ref a :: vs).map some) (.box us' :: ts.map Sl.val) j b → Own ((V.ref a :: vs).map some) (.box us :: ts.map Sl.val) j b := fun j b ⟨t, v, e1, e2, e3⟩ => by
        cases j with
        | zero => simp at e1 e2; subst e1 e2; exact ⟨_, _, rfl, rfl, e3⟩
        | succ j =>
          have e1' : (ts.map Sl.val)[j]? = some t := by simpa using e1
          obtain ⟨t', rfl⟩ := vals_val j t e1'
          cases v <;> cases e3
      have s3 : Stp Z H ((V.ref a :: vs).map some) (.box us :: ts.map .val) Z' H' ((V.ref a :: vs).map some) (.box us' :: ts.map .val) :=
        ⟨s'.zz, s'.hh, s'.zf, fun j b q => .inr ⟨j, own3 j b q⟩, fun j us1 e1 => ⟨rfl, by
          cases j with
          | zero => exact ⟨us', rfl⟩
          | succ j => exact ⟨us1, by simpa using e1⟩⟩, s'.th, rfl⟩
      have hp' : putB i (.box us' :: ts.map .val) ev = some ev' := by
        unfold putB at hp ⊢
        rw [g2] at hp
        exact hp
      obtain ⟨I2, s2, _⟩ := backB_ok I I3 s3 own w (us := us) rfl rfl hp'
      exact p C d gs σ Z' H' hm I2 (s.trans s2) hd rf
  | ok q =>
    obtain ⟨x, e'⟩ := q
    rw [e] at p
    dsimp only at p
    cases hp : putB i e' ev with
    | none => rw [hp] at p; exact p.elim
    | some ev' =>
      rw [hp] at p
      intro v Z' H' I' s' rv
      obtain ⟨g1, us', g2⟩ := s'.bx 0 us rfl
      obtain ⟨I2, s2, back⟩ := backB_ok I I' s' own w (us := us) g2 rfl hp
      refine k x v ev' Z' H' I2 s2 ?_ p
      cases x with
      | v t => exact rv
      | o us =>
        obtain ⟨b, xs, h1, h2, h3, h4, h5, h6⟩ := rv
        refine ⟨b, xs, h1, h2, h3, h4, h5, fun j wj => ?_⟩
        obtain ⟨_, ys, hy⟩ := I.own (back j b wj)
        rw [h2] at hy; cases hy
end
/-! ### the rules -/
/-- a def that the context X may call by its name -/
structure Cal (X : Cx) (x : Str) (n : Nat) (g : Fn) : Prop where
  ex : ∃ (k : Nat) (f : Addr) (fd : FuncData) (ps : List Str), ps.length = n ∧ FnOk X.prog X.w X.K X.mg X.base (L2N.CX X.prog X.w) k f fd ps (spT (gm X) ps.length g) ∧ Room k X.A ∧ X.mg x = some (.ref f) ∧ PySem.W.keepIn X.K (.ref f) = true ∧ Binds X.K fd ps []
/-- the same of a call by keywords alone: ks the names as written, pm the way from them to the parameters -/
structure CalK (X : Cx) (x : Str) (n : Nat) (ks : List Str) (pm : {α : Type} → List α → List α) (g : Fn) : Prop where
  ex : ∃ (k : Nat) (f : Addr) (fd : FuncData) (ps : List Str), ps.length = n ∧ FnOk X.prog X.w X.K X.mg X.base (L2N.CX X.prog X.w) k f fd ps (spT (gm X) ps.length g) ∧ Room k X.A ∧ X.mg x = some (.ref f) ∧ PySem.W.keepIn X.K (.ref f) = true ∧
    ∀ (s : Shared) (ws : List Value), ws.length = ks.length → BindsTo s fd ⟨[], ks.zip ws⟩ (ps.zip (pm ws))
def callR (g : Fn) (τ : XRL) : Ev → R (Rv × Ev) := fun ev => (τ ev).bind fun p => backV (g (p.1.map .val)) p.2
def callRB (g : Fn) (i : Nat) (τ : XRL) : Ev → R (Rv × Ev) := fun ev => match lstAt ev i with
  | none => .bad
  | some _ => (τ ev).bind fun p => match lstAt p.2 i with
    | some us => backB i (g (.box us :: p.1.map .val)) p.2
    | none => .bad
/-- the answer as a value, as a fresh list -/
def asT (τ : Ev → R (Rv × Ev)) : XR := fun ev => (τ ev).bind fun q => .ok (q.1.t, q.2)
def asO (τ : Ev → R (Rv × Ev)) : XRL := fun ev => (τ ev).bind fun q => match q.1 with
  | .o ts => .ok (ts, q.2)
  | .v _ => .bad
abbrev OkRv (G : Gm) (Z H : Hp) (σ : L2.St) (ev : Ev) (Q : VK) : Rv → Ev → Prop := fun x ev' => ∀ v Z' H', StOk G Z' H' σ ev' → Stp Z H σ ev Z' H' σ ev' → RvP G Z H Z' H' σ ev' x v → Q v H'
def SR (G : Gm) (W : WX) (t : TE) (τ : Ev → R (Rv × Ev)) : Prop := ∀ Z H σ ev Q, StOk G Z H σ ev → Post G W Z H σ ev (τ ev) (OkRv G Z H σ ev Q) → t σ H Q
structure XV (X : Cx) (W : WX) (e : Expr) (τ : Ev → R (Rv × Ev)) : Prop where
  ex : ∃ t, PE X e t ∧ SR (gm X) W t τ
section
variable {X : Cx} {W : WX} {e : Expr} {es : List Expr} {pos p : Pos} {x : Str} {τ : XRL} {g : Fn} {n : Nat} {ρ : Ev → R (Rv × Ev)}
theorem XV.toE (h : XV X W e ρ) : XE X W e (asT ρ) := by
  obtain ⟨t, p, s⟩ := h
  refine ⟨t, p, fun Z H σ ev Q I q => s Z H σ ev Q I (Post.imp (Post.bind q) fun x ev' k v Z' H' I' s' rv => ?_)⟩
  cases x with
  | v d => exact k v Z' H' I' s' rv
  | o ts =>
    obtain ⟨a, xs, rfl, h2, h3, h4, h5, h6⟩ := rv
    have zz : Sub Z' (upd Z' a (.lst xs)) := fun b u e => by rw [upd_ne (ne_of_none e h3)]; exact e
    exact k (.ref a) _ H' (I'.freeze h4 h6) (s'.fr I.sub h2) (.lst upd_same (h5.mono zz))
theorem XV.toO (h : XV X W e ρ) : XO X W e (asO ρ) := by
  obtain ⟨t, p, s⟩ := h
  refine ⟨t, p, fun Z H σ ev Q I q => s Z H σ ev Q I (Post.imp (Post.bind q) fun x ev' k v Z' H' I' s' rv => ?_)⟩
  cases x with
  | v d => exact k.elim
  | o ts =>
    obtain ⟨a, xs, rfl, h2, h3, h4, h5, h6⟩ := rv
    exact k a xs Z' H' I' s' h2 h3 h6 h4 h5
theorem RvP.later {G : Gm} {Z H Z1 H1 Z' H' : Hp} {σ : L2.St} {ev ev1 ev' : Ev} {x : Rv} {v : V} (s : Stp Z H σ ev Z1 H1 σ ev1) (h : RvP G Z1 H1 Z' H' σ ev' x v) : RvP G Z H Z' H' σ ev' x v := by
  cases x with
  | v t => exact h
  | o ts =>
    obtain ⟨a, xs, h1, h2, h3, h4, h5, h6⟩ := h
    exact ⟨a, xs, h1, s.fresh h2, h3, h4, h5, h6⟩
theorem xv_call (c : Cal X x n g) (tk : L2N.Takes X W) (ha : XA X W (e :: es) τ) (hlen : ∀ ev p, τ ev = .ok p → p.1.length = n) (hg : Gl X x := by rfl) (hdb : (x == ("__debug__" : Str)) = false := by decide) (he : starEach (e :: es) X.env = (false, eval e X.env) :: starEach es X.env := by rfl) (hpl : (backTo pos (starEach es X.env)).any (·.1) = false := by rfl) :
    XV X W (.Call (.Name x p) (e :: es) [] pos) (callR g τ) := by
  obtain ⟨k, f, fd, ps, hn, F, hr, hm, hk, hb⟩ := c.ex
  obtain ⟨t, pt, st⟩ := ha
  refine ⟨_, L2.pe_callS (E := L2.WE W) F hr hg hm hk hb (fun σ => L2N.passAt tk σ) pt hdb he hpl, fun Z H σ ev Q I q => ?_⟩
  refine st Z H σ ev _ I ?_
  have q' := Post.bind q
  cases e1 : τ ev with
  | bad => rw [e1] at q'; exact q'
  | exc c fs ev' => rw [e1] at q'; exact q'
  | ok pp =>
    obtain ⟨ts, ev1⟩ := pp
    rw [e1] at q'
    intro vs Z1 H1 I1 s1 r
    refine callV I1 s1 r ((hlen ev _ e1).trans hn.symm) q' fun x v Z2 H2 I2 s2 rv k => k v Z2 H2 I2 (s1.trans s2) (rv.later s1)
theorem xv_callB (i : Nat) {y : Str} {p1 : Pos} (c : Cal X x n g) (tk : L2N.Takes X W) (ha : XA X W es τ) (hlen : ∀ ev p, τ ev = .ok p → p.1.length + 1 = n) (hg : Gl X x := by rfl)
    (hN : X.N[i]? = some y := by rfl) (hv : Vis X.env.scope y := by first | exact Or.inl rfl | exact Or.inr (Or.inl rfl) | exact Or.inr (Or.inr rfl)) (hd1 : (y == ("__debug__" : Str)) = false := by decide)
    (hcd : (y == ("__classdict__" : Str)) = false := by decide) (hdb : (x == ("__debug__" : Str)) = false := by decide)
    (he : starEach (.Name y p1 :: es) X.env = (false, eval (.Name y p1) X.env) :: starEach es X.env := by rfl) (hpl : (backTo pos (starEach es X.env)).any (·.1) = false := by rfl) :
    XV X W (.Call (.Name x p) (.Name y p1 :: es) [] pos) (callRB g i τ) := by
  obtain ⟨k, f, fd, ps, hn, F, hr, hm, hk, hb⟩ := c.ex
  obtain ⟨t, pt, st⟩ := ha
  refine ⟨_, L2.pe_callS (E := L2.WE W) F hr hg hm hk hb (fun σ => L2N.passAt tk σ) (pa_cons (pe_var hN hv hd1 hcd) pt he) hdb he hpl, fun Z H σ ev Q I q => ?_⟩
  unfold callRB at q
  cases hl0 : lstAt ev i with
  | none => rw [hl0] at q; exact q.elim
  | some us0 =>
    rw [hl0] at q
    dsimp only at q
    obtain ⟨a, hσ⟩ : ∃ a, σ[i]? = some (some (.ref a)) := by
      unfold lstAt at hl0
      split at hl0
      · rename_i ts0 e; obtain ⟨b, xs, e2, _⟩ := I.ownAt e; exact ⟨b, e2⟩
      · rename_i ts0 e; obtain ⟨b, xs, e2, _⟩ := I.boxAt e; exact ⟨b, e2⟩
      · cases hl0
    refine ⟨_, hσ, ?_⟩
    refine st Z H σ ev _ I ?_
    have q' := Post.bind q
    cases e1 : τ ev with
    | bad => rw [e1] at q'; exact q'
    | exc c fs ev' => rw [e1] at q'; exact q'
    | ok pp =>
      obtain ⟨ts, ev1⟩ := pp
      rw [e1] at q'
      intro vs Z1 H1 I1 s1 r
      dsimp only [Post] at q'
      cases hl1 : lstAt ev1 i with
      | none => rw [hl1] at q'; exact q'.elim
      | some us =>
        rw [hl1] at q'
        refine callB I1 s1 r ((hlen ev _ e1).trans hn.symm) hl1 hσ q' fun x v ev2 Z2 H2 I2 s2 rv k => k v Z2 H2 I2 (s1.trans s2) (rv.later s1)
/-! keywords alone -/
structure XK' (X : Cx) (W : WX) (kws : List Keyword) (τ : XRL) : Prop where
  ex : ∃ t, PK X kws t ∧ SA (gm X) W t τ
variable {kws : List Keyword} {kpos : Pos} {nm : Option Str} {τa : XR} {ks : List Str} {pm : {α : Type} → List α → List α}
theorem xk_nil : XK' X W [] nilA := ⟨_, pk_nil, fun Z H σ ev Q I p => p [] Z H I Stp.refl .nil⟩
theorem xk_cons (ha : XE X W e τa) (hr : XK' X W kws τ) : XK' X W (⟨nm, e, kpos⟩ :: kws) (consA τa τ) := by
  obtain ⟨ta, pa, sa⟩ := ha
  obtain ⟨tr, pr, sr⟩ := hr
  refine ⟨_, pk_cons pa pr, fun Z H σ ev Q I p => ?_⟩
  refine sa.next I Stp.refl p fun d ev' v Z' H' I' s s' rp q => ?_
  exact sr.next I' s q fun ds ev2 vs Z2 H2 I2 s2 s12 rs q2 => q2 _ Z2 H2 I2 s2 (.cons (rp.mono s12.zz) rs)
def callRK (g : Fn) (pm : {α : Type} → List α → List α) (τ : XRL) : Ev → R (Rv × Ev) := fun ev => (τ ev).bind fun p => backV (g ((pm p.1).map .val)) p.2
def tCallKS (m : Nat) (pm : List V → List V) (sp : Sp) (E : L2.St → XK) (t : TA) : TE := fun σ H Q => t σ H fun vs H1 => vs.length = m ∧ sp (pm vs) H1 Q (E σ)
theorem pe_callKS {k : Nat} {f : Addr} {fd : FuncData} {ps : List Str} {sp : Sp} {E : L2.St → XK} {CX : CXT} {t : TA} (F : FnOk X.prog X.w X.K X.mg X.base CX k f fd ps sp) (hr : Room k X.A) (hg : Gl X x) (hm : X.mg x = some (.ref f)) (hk : PySem.W.keepIn X.K (.ref f) = true)
    (hb : ∀ (s : Shared) (ws : List Value), ws.length = ks.length → BindsTo s fd ⟨[], ks.zip ws⟩ (ps.zip (pm ws))) (hpm : ∀ {vs : List V} {us : List Value}, Vals vs us → Vals (pm vs) (pm us)) (hx : ∀ σ, L2.PassesAt CX X σ (E σ)) (hkw : PK X kws t)
    (hall : (backToKw pos (keywordEach kws X.env)).all (·.1.isSome) = true) (hks : (backToKw pos (keywordEach kws X.env)).filterMap (·.1) = ks)
    (hdb : (x == ("__debug__" : Str)) = false) (hpl : ((backTo pos (starEach [] X.env)).any (·.1) || (backToKw pos (keywordEach kws X.env)).any (·.1.isNone)) = false) :
    PE X (.Call (.Name x p) [] kws pos) (tCallKS ks.length pm sp E t) := by
  refine ⟨fun pins s σ H Q I h => ?_⟩
  refine wpAny_Call_Name_kw (ld_glob I hg hm ?_ hdb)
  refine PySem.W.callWith_KW0 (h₀ := X.base) I.ok.mod.kin hk hall (thn (hkw.run pos pins s σ H _ I h) fun ws s2 ⟨zs, H2, I2, rz, l2, q2⟩ => ⟨I2.kIn, ?_⟩) hpl
  rw [hks]
  refine wpAny_call (codeAny_mono (F.run X.A X.stack s2 H2 ⟨[], ks.zip ws⟩ (pm ws) (pm zs) Q (E σ) hr I2.env0 (hb s2 ws (rz.length.symm.trans l2)) (hpm rz) q2) fun r s' hq => ?_)
  cases r with
  | error e => exact hx σ pins H2 s2 e s' I2 hq
  | ok fl =>
    cases fl with
    | ret u => exact I2.after hq
    | next => exact False.elim hq
    | brk => exact False.elim hq
    | cont => exact False.elim hq
/-- a way of ordering values -/
structure Perm' (pm : {α : Type} → List α → List α) (n : Nat) : Prop where
  vals : ∀ {vs : List V} {us : List Value}, Vals vs us → Vals (pm vs) (pm us)
  reps : ∀ {G : Gm} {Z : Hp} {ts : List T} {vs : List V}, Reps G Z ts vs → Reps G Z (pm ts) (pm vs)
theorem xv_callK (c : CalK X x n ks pm g) (tk : L2N.Takes X W) (hpm : Perm' pm n) (hkw : XK' X W kws τ) (hlen : ∀ ev p, τ ev = .ok p → p.1.length = ks.length ∧ (pm p.1).length = n) (hg : Gl X x := by rfl)
    (hall : (backToKw pos (keywordEach kws X.env)).all (·.1.isSome) = true := by rfl) (hks : (backToKw pos (keywordEach kws X.env)).filterMap (·.1) = ks := by rfl)
    (hdb : (x == ("__debug__" : Str)) = false := by decide) (hpl : ((backTo pos (starEach [] X.env)).any (·.1) || (backToKw pos (keywordEach kws X.env)).any (·.1.isNone)) = false := by rfl) :
    XV X W (.Call (.Name x p) [] kws pos) (callRK g pm τ) := by
  obtain ⟨k, f, fd, ps, hn, F, hr, hm, hk, hb⟩ := c.ex
  obtain ⟨t, pt, st⟩ := hkw
  refine ⟨_, pe_callKS (E := L2.WE W) F hr hg hm hk hb hpm.vals (fun σ => L2N.passAt tk σ) pt hall hks hdb hpl, fun Z H σ ev Q I q => ?_⟩
  refine st Z H σ ev _ I ?_
  have q' := Post.bind q
  cases e1 : τ ev with
  | bad => rw [e1] at q'; exact q'
  | exc c fs ev' => rw [e1] at q'; exact q'
  | ok pp =>
    obtain ⟨ts, ev1⟩ := pp
    rw [e1] at q'
    intro vs Z1 H1 I1 s1 r
    refine ⟨r.length.symm.trans (hlen ev _ e1).1, callV I1 s1 (hpm.reps r) ((hlen ev _ e1).2.trans hn.symm) q' fun x v Z2 H2 I2 s2 rv k => k v Z2 H2 I2 (s1.trans s2) (rv.later s1)⟩
end
end PH
set_option Elab.async false
set_option linter.all false
set_option maxRecDepth 100000
/-! An own error whose __init__ keeps its one argument as «given». -/
namespace PH.Gv
open PySem PySem.W PySem.Calls PyProof.Rows PySem.HandSPX
def gA (p1 p2 : Pos) : Arguments := { posonlyargs := [], args := [{ arg := "self", annotation := none, pos := p1 }, { arg := "given", annotation := none, pos := p2 }], vararg := none, kwonlyargs := [], kw_defaults := [], kwarg := none, defaults := [] }
def gB (q1 q2 q3 q4 : Pos) : List Stmt := [.Assign [.Attribute (.Name "self" q1) "given" q2] (.Name "given" q3) q4]
def gS : Scope := { kind := .function, names := [(PySem.Str.ofString "self", .local), (PySem.Str.ofString "given", .local)], isGenerator := false, isCoroutine := false, more := [] }
/-- what the written part says of the class x at c and of its __init__ at i -/
structure Txt (K : Frag) (mg : Str → Option Value) (x : Str) (qn : Str) (c i : Addr) : Prop where
  at_ : mg x = some (.ref c)
  obj : ∃ nm q N bs bm sn sub ab col dd k0 k1 k2 k3 k5, K.lookup c = some (excClassObj nm q c N bs bm true sn sub ab col dd k0 k1 k2 k3 k5 "ValueError.__new__") ∧ refsVE bm = true
  set_ : findIn K (.ref c) "__setattr__" = some (some (.builtin "object.__setattr__"))
  get_ : findIn K (.ref c) "__getattribute__" = some (some (.builtin "BaseException.__getattribute__"))
  gat_ : findIn K (.ref c) "__getattr__" = some none
  none_ : findIn K (.ref c) "given" = some none
  init_ : findIn K (.ref c) "__init__" = some (some (.ref i))
  fty_ : typeIn K (.ref i) = some (.type "function")
  kp_ : keepIn K (.ref c) = true
  ex_ : subIn K (.ref c) (.type "BaseException") = some true
  ty_ : typeIn K (.ref c) = some (.type "type")
  dict_ : hasDictIn K c = true
  fn_ : ∃ (oc : Value) (od : Option Addr) (doc pm : Value) (an : Option Addr) (cdv ct : Value) (osl : Array (Option Value)) (p1 p2 q1 q2 q3 q4 : Pos),
    K.lookup i = some ⟨oc, od, .func (fnOf "__init__" qn (gA p1 p2) (gB q1 q2 q3 q4) gS .none .none doc pm an cdv ct), osl⟩ ∧ codeIn K cdv qn = true
theorem size1 (v : Value) : [v].length ≤ sizeLine := by
  have e := sizeLine_eq
  show 1 ≤ sizeLine
  omega
theorem ld1 {M : Model} {s : Shared} {name : Str} {scope : Scope} {L a : Addr} {cd : Value} {m : Str → Option Value} {x : Str} {pos : Pos} {v : Value} {Q : Value → Shared → Prop} {A : Around} {E : Value → Shared → Prop} (hn : s.heap.Ns L m) (hv : m x = some v) (h : Q v s)
    (hk : scope.kind = .function) (hl : (envOfC name scope L a cd).kindOf x = some .local) (hd : (x == ("__debug__" : Str)) = false) :
    wpAny M A (eval (.Name x pos) (envOfC name scope L a cd)) Q E s := wpAny_Name (wpAny_loadName_local hk hl hn hv h) hd
/-- behind __init__ -/
structure Kept (h h' : Heap) (x c dx t1 : Addr) (v : Value) : Prop where
  old : ∀ b o, b ≠ x → h.get? b = some o → h'.get? b = some o
  now : h'.get? x = some { cls := .ref c, dict := some dx, data := .fields #[.ref t1, .none, .none, .none, .bool false, .none] }
  big : h.objs.size ≤ dx
  dif : dx ≠ x
  nsd : h'.Ns1 dx (fun y => if y = "given" then some v else none)
/-- a made one -/
structure Made1 (h h' : Heap) (e c d : Addr) (v : Value) : Prop where
  old : ∀ b o, h.get? b = some o → h'.get? b = some o
  new : h.objs.size ≤ e
  now : ∃ t1 : Addr, h'.get? e = some { cls := .ref c, dict := some d, data := .fields #[.ref t1, .none, .none, .none, .bool false, .none] }
  big : h.objs.size ≤ d
  dif : d ≠ e
  nsd : h'.Ns1 d (fun y => if y = "given" then some v else none)
section
variable {prog : Program} {w : World} {A : Around} {E : Value → Shared → Prop} {R : Result → Shared → Prop} {s : Shared} {K : Frag} {mg : Str → Option Value} {c i : Addr} {xn qn : Str}
theorem init_runs (T : Txt K mg xn qn c i) {x t0 : Addr} {v : Value} (X : K.In s.heap) (lim : s.heap.NoLimit) (hx : s.heap.get? x = some (excO c t0)) (hnx : K.lookup x = none) (room : A.depth < recursionLimit)
    (hq : ∀ h' tk dx, Kept s.heap h' x c dx t0 v → R (.ok (.ret .none)) { s with heap := h', toks := tk }) :
    codeAny (model prog w) A (.call (.ref i) ⟨[.ref x, v], []⟩) R s := by
  obtain ⟨oc, od, doc, pm, an, cdv, ct, osl, p1, p2, q1, q2, q3, q4, ho, hcd⟩ := T.fn_
  obtain ⟨nm, q, N, bs, bm, sn, sub, ab, col, dd, k0, k1, k2, k3, k5, hC, hbm⟩ := T.obj
  have hcl : clsIn K c = some { name := nm, bases := bs, mro := .ref c :: bm, ns := N, qualname := q, hasDict := true, slotNames := sn, subclasses := sub, abstract := ab, collection := col, hasDel := false } := by
    unfold clsIn; rw [hC] <;> rfl
  refine Att.call_fn (binds := [("self", .ref x), ("given", v)]) X lim ho hcd room (BindsTo.of_eq (by first | rfl | with_unfolding_all rfl)) (by first | rfl | decide | with_unfolding_all rfl) (fun s₁ IC => ?_) rfl rfl rfl
  obtain ⟨h₁, tk₁, rfl⟩ := IC.toInCall.same
  have kk : ∀ b o, s.heap.get? b = some o → h₁.get? b = some o := IC.toInCall.keep
  have nn := IC.toInCall.ns
  have X₁ : K.In h₁ := X.keeps kk
  have hx₁ := kk _ _ hx
  show wpAny _ _ (execs _ _) _ _ _
  refine wpAny_execs_cons (plainObj_wpAny_Assign_Attribute ?_)
  refine ld1 (v := v) nn (by first | rfl | with_unfolding_all rfl | kernel_rfl) (ld1 (v := .ref x) nn (by first | rfl | with_unfolding_all rfl | kernel_rfl) ?_ rfl rfl (by decide)) rfl rfl (by decide)
  refine set_plain X₁ (ox := excO c t0) (od := none) ⟨hx₁, rfl, rfl, trivial⟩ T.set_ ?_
  refine exc_osa X₁ hx₁ hcl (show refsVE (.ref c :: bm) = true from hbm) rfl T.none_ (fun h₃ tk₃ dx k₃ dn dne hx₃ hn₃ => ?_)
  show wpAny _ _ (execs _ _) _ _ _
  have z : s.heap.objs.size < h₁.objs.size := nn.lt
  exact wpAny_execs_nil (hq h₃ tk₃ dx ⟨fun b o hb e => k₃ b o hb (kk b o e), hx₃, Nat.le_of_lt (Nat.lt_of_lt_of_le z dn), dne, hn₃⟩)
theorem made_runs (T : Txt K mg xn qn c i) {v : Value} (X : K.In s.heap) (lim : s.heap.NoLimit) (room : A.depth + 1 < recursionLimit)
    (hq : ∀ h' tk e d, Made1 s.heap h' e c d v → R (.ok (.ret (.ref e))) { s with heap := h', toks := tk }) :
    codeAny (model prog w) A (.call (.ref c) ⟨[v], []⟩) R s := by
  obtain ⟨nm, q, N, bs, bm, sn, sub, ab, col, dd, k0, k1, k2, k3, k5, hC, hbm⟩ := T.obj
  obtain ⟨hp, g, dr, tk, os⟩ := s
  have kk : ∀ b o, hp.get? b = some o → ((hp.push (kdv_tup [v])).push (excO c hp.objs.size)).get? b = some o := fun b o e => Heap.get?_push_of_some _ (Heap.get?_push_of_some _ e)
  have hget : ((hp.push (kdv_tup [v])).push (excO c hp.objs.size)).get? (hp.objs.size + 1) = some (excO c hp.objs.size) := by heap_get
  have hnx : K.lookup (hp.objs.size + 1) = none := by
    cases e : K.lookup (hp.objs.size + 1) with
    | none => rfl
    | some o =>
      have z : hp.get? (hp.objs.size + 1) = some o := X _ _ e
      exact absurd (Nat.lt_of_succ_lt (Heap.lt_size z)) (Nat.lt_irrefl _)
  refine call_own F.excBase_ValueError (fun Y => refsVE_contains Y bm hbm) (X _ _ hC) (looks_findIn X T.init_) (fun self => bind_fn X self T.fty_) (size1 v) ?_
  refine init_runs (s := ⟨(hp.push (kdv_tup [v])).push (excO c hp.objs.size), g, dr, tk, os⟩) T (X.keeps kk) (lim.keeps kk) hget hnx ?_ fun h' tk' dx ⟨k', hx, dn, dne, hns⟩ => ?_
  · show A.depth + 1 < recursionLimit
    exact room
  · have old : ∀ b o, hp.get? b = some o → h'.get? b = some o := fun b o e => k' b o (Nat.ne_of_lt (Nat.lt_succ_of_lt (Heap.lt_size e))) (kk b o e)
    have z : hp.objs.size + 1 + 1 ≤ dx := by
      first
        | (simpa only [Heap.size_push] using dn)
        | exact dn
        | (have q := dn; rw [Heap.size_push, Heap.size_push] at q; exact q)
    exact ⟨rfl, hq h' tk' (hp.objs.size + 1) dx ⟨old, Nat.le_succ _, ⟨_, hx⟩, Nat.le_trans (Nat.le_trans (Nat.le_succ _) (Nat.le_succ _)) z, dne, hns⟩⟩
end
end PH.Gv
namespace PH
open PySem PySem.Spec PyProof.Rows L2
theorem relO_gv {v : V} {v' : Value} (r : RelV v v') (f : Str) : RelO (List.lookup f [(("given" : Str), v)]) (if f = "given" then some v' else none) := by
  by_cases h : f = "given"
  · subst h
    rw [if_pos rfl]
    have q : List.lookup ("given" : Str) [(("given" : Str), v)] = some v := by simp [List.lookup]
    rw [q]; exact r
  · rw [if_neg h]
    have q1 : (f == ("given" : Str)) = false := by simpa using h
    have q2 : List.lookup f [(("given" : Str), v)] = none := by simp [List.lookup, q1]
    rw [q2]; trivial
section
variable {X : Cx} {c i : Addr} {xn qn : Str}
def tMkGv (c : Addr) (ta : TA) : L2.St → Hp → XK → Prop := fun σ H Q => ta σ H fun vs H1 => ∃ v, vs = [v] ∧ ∀ d, H1 d = none → Q (.ref c) (some d) (upd H1 d (.xd [(("given" : Str), v)]))
theorem pmk_gv {a : Expr} {ta : TA} {p pos : Pos} {k : Nat} (T : Gv.Txt X.K X.mg xn qn c i) (hr : Room k X.A) (ha : PA X [a] ta) (hg : Gl X xn) (hdb : (xn == ("__debug__" : Str)) = false)
    (he : starEach (a :: []) X.env = (false, eval a X.env) :: starEach [] X.env) (hpl : (backTo pos (starEach [] X.env)).any (·.1) = false) :
    L2N.PMk X (.Call (.Name xn p) [a] [] pos) (tMkGv c ta) := by
  intro pins s σ H Q I h
  refine wpAny_Call_Name_kw (ld_glob I hg T.at_ ?_ hdb)
  refine PySem.W.callWith_K (h₀ := X.base) I.ok.mod.kin T.kp_ (thn (ha.run pos pins s σ H _ I h) fun us s1 hh => ?_) he hpl
  obtain ⟨vs, H1, I1, r1, v, ev, q1⟩ := hh
  subst ev
  refine ⟨I1.kIn, ?_⟩
  cases r1 with
  | cons rv rn =>
    rename_i v' us'
    cases rn
    show wpAny _ _ (call (.ref c) [v']) _ _ _
    have lim := I1.nolimit
    obtain ⟨hp, g, dr, tk, os⟩ := s1
    refine wpAny_call (Gv.made_runs T I1.kIn lim (by have := hr.dp; omega) fun h' tk' e d M => ?_)
    show L2N.MkP X pins σ Q (.ref e) ⟨h', g, dr, tk', os⟩
    obtain ⟨t1, hoe⟩ := M.now
    have hns := M.nsd
    obtain ⟨G', g1, g2⟩ := restrict h' fun b => decide (b ≠ e)
    have gk : ∀ b, b ≠ e → G'.get? b = h'.get? b := fun b hb => g1 b (decide_eq_true hb)
    have ge : G'.get? e = none := g2 e (by simp)
    have old : ∀ b o, hp.get? b = some o → G'.get? b = some o := fun b o q => (gk b (Nat.ne_of_lt (Nat.lt_of_lt_of_le (Heap.lt_size q) M.new))).trans (M.old b o q)
    have ob : ObjOk X.prog X.w (upd H1 d (.xd [(("given" : Str), v)])) G' d (.xd [(("given" : Str), v)]) :=
      ⟨_, hns.at (fun o q => (gk d M.dif).trans q), fun f => relO_gv rv f⟩
    have J : Inv X pins σ (upd H1 d (.xd [(("given" : Str), v)])) ⟨G', g, dr, tk', os⟩ := I1.laid (t' := tk') old M.big ob
    refine ⟨e, _, _, ⟨G', g, dr, tk', os⟩, _, .ref c, some d, rfl, J, fun b o q => ?_, ge, hoe, ⟨rfl, rfl, fun vs e => by cases e; rfl⟩, rfl, rfl, ?_, rfl, I1.bare, raises_own T.ex_ T.ty_, q1 d (I1.hok.fresh M.big)⟩
    · by_cases hb : b = e
      · have q' : G'.get? b = some o := q
        rw [hb, ge] at q'; cases q'
      · exact (gk b hb).symm.trans q
    · rw [upd_ne (Ne.symm M.dif)]
      exact I1.hok.fresh M.new
end
/-- a class of errors that X may raise by its name -/
structure Errs (X : Cx) (x : Str) : Prop where
  ex : ∃ (k : Nat) (qn : Str) (c i : Addr), Gv.Txt X.K X.mg x qn c i ∧ Room k X.A
def raiseS (x : Str) (τ : XRL) : XRS := fun ev => (τ ev).bind fun p => match p.1 with
  | [t] => .exc x [("given", t)] p.2
  | _ => .bad
section
variable {X : Cx} {W : WX} {a : Expr} {τ : XRL} {p pos pos2 : Pos} {x : Str}
theorem xs_raise (hc : X.calm = true) (tk : L2N.Takes X W) (T : Errs X x) (ha : XA X W [a] τ) (hg : Gl X x := by rfl) (hdb : (x == ("__debug__" : Str)) = false := by decide)
    (he : starEach (a :: []) X.env = (false, eval a X.env) :: starEach [] X.env := by rfl) (hpl : (backTo pos (starEach [] X.env)).any (·.1) = false := by rfl) :
    XS X W (.Raise (some (.Call (.Name x p) [a] [] pos)) none pos2) (raiseS x τ) := by
  obtain ⟨k, qn, c, i, T, hr⟩ := T.ex
  obtain ⟨t, pt, st⟩ := ha
  refine ⟨_, L2N.ps_raise hc tk (pmk_gv T hr pt hg hdb he hpl), fun Z H σ ev D I q => ?_⟩
  refine st Z H σ ev _ I (Post.imp (Post.bind q) fun ts ev' k vs Z' H' I' s' r => ?_)
  cases ts with
  | nil => exact k.elim
  | cons t ts =>
    cases ts with
    | cons _ _ => exact k.elim
    | nil =>
      cases r with
      | cons r0 rn =>
        rename_i v vs
        cases rn
        refine ⟨v, rfl, fun d hd => ?_⟩
        have I2 := I'.new (p := d) (o := .xd [(("given" : Str), v)]) hd
        have s2 := s'.trans (Stp.new (G := gm X) I' (p := d) (o := .xd [(("given" : Str), v)]) hd)
        exact k c d _ σ _ _ T.at_ I2 s2 upd_same (.cons (r0.mono (Stp.new (G := gm X) I' (p := d) (o := .xd [(("given" : Str), v)]) hd).zz) .nil)
end
/-! ### x.split(sep) -/
def tSplit (a : Str) : T → Option (List T)
  | .str b => if (b.length == 0) = false ∧ a.length + 2 ≤ sizeLine then some ((Txt.split a b).map .str) else none
  | _ => none
def splitO (τ τ' : XR) : XRL := fun ev => (τ ev).bind fun p => match p.1 with
  | .str a => (τ' p.2).bind fun q => R.ofO (tSplit a q.1) q.2
  | _ => .bad
section
variable {X : Cx} {W : WX} {o e : Expr} {τ τ' : XR} {pos apos : Pos}
theorem xo_split (ho : XE X W o τ) (he : XE X W e τ') (hs : starEach [e] X.env = [(false, eval e X.env)] := by rfl) (hbase : attributeBase o "split" X.env (eval o X.env) = eval o X.env := by rfl) (hline : (apos.endLine == pos.line) = true := by rfl) :
    XO X W (.Call (.Attribute o "split" apos) [e] [] pos) (splitO τ τ') := by
  obtain ⟨t, p, st⟩ := ho
  obtain ⟨t', p', st'⟩ := he
  refine ⟨_, pe_split p p' hs hbase hline, fun Z H σ ev Q I q => ?_⟩
  refine st.next I Stp.refl q fun d ev1 v Z1 H1 I1 s1 _ r1 k => ?_
  cases d with
  | str a =>
    cases r1.strE
    refine ⟨⟨a, rfl⟩, ?_⟩
    have k : Post (gm X) W Z H σ ev ((τ' ev1).bind fun q => R.ofO (tSplit a q.1) q.2) (OkO (gm X) Z H σ ev Q) := k
    refine st'.next I1 s1 k fun d2 ev2 v2 Z2 H2 I2 s2 _ r2 k2 => ?_
    obtain ⟨ts, e2, k2⟩ := post_some k2
    cases d2 with
    | str b =>
      cases r2.strE
      have e2 : (if (b.length == 0) = false ∧ a.length + 2 ≤ sizeLine then some ((Txt.split a b).map T.str) else none) = some ts := e2
      split at e2
      · rename_i hb
        cases e2
        refine ⟨a, b, rfl, rfl, hb.1, hb.2, fun p hp => ?_⟩
        exact OkO.new I2 s2 k2 (Reps.ofStrs _) hp
      · cases e2
    | _ => cases e2
  | _ => exact (show False from k).elim
end
end PH
set_option Elab.async false
set_option linter.all false
set_option maxRecDepth 100000
/-! [e for x in range(..) if c] within an except suite. -/
namespace PH
open PySem PySem.Spec PyProof.Rows L2 L2H
abbrev Xh (X : Cx) (s : Shared) (H : Hp) (sc : Scope) (ce : Env) (fp : List Addr) : Cx := (X.blk s H sc ce fp).tr X.pn (fun _ _ => False)
section
variable {X : Cx}
theorem lch_core {pins : List (Addr × Obj)} {s : Shared} {σ : L2.St} {H : Hp} {Q : VK} {elt tg iter : Expr} {ifs : List Expr} {sc : Scope} {own : List (Str × Nat)} {pos pos' : Pos} {wi : TI} {g : TG} {tt : TT} {te : TE}
    (hc : HotC X) (hN : X.N.Nodup) (I : Inv X pins σ H s) (hi : PIH X tg iter wi) (ok : BlkOk X.N X.env.scope sc own)
    (hg : ∀ (s : Shared) (H : Hp) (C : Addr) (cl : List (Str × Addr)) (fp : List Addr), PG (Xh X s H sc (compEnvC sc cl C X.env) fp) tg g)
    (ht : ∀ (s : Shared) (H : Hp) (C : Addr) (cl : List (Str × Addr)) (fp : List Addr), PTs (Xh X s H sc (compEnvC sc cl C X.env) fp) ifs tt)
    (he : ∀ (s : Shared) (H : Hp) (C : Addr) (cl : List (Str × Addr)) (fp : List Addr), PE (Xh X s H sc (compEnvC sc cl C X.env) fp) elt te) (hs : ∀ x, foldedSetIterable iter X.env x = pure x)
    (h : tLc wi g tt te (own.map (·.2)) σ H Q) :
    wpAny (model X.prog X.w) X.A (comprehension (.ListComp elt [⟨tg, iter, ifs, 0⟩] sc pos) sc X.env pos' (newList []) false (eval iter X.env) none) (EP X pins σ Q) X.xe s := by
  have fr : ∀ y ∈ sc.names, y.2 = .free → ∃ c, X.env.cells.lookup y.1 = some c := fun y hy e => (ok.free y hy e).elim (fun k => I.ok.has _ (.inl k)) (fun k => I.ok.has _ (.inr k))
  refine wpAny_comprehension_free (use := none) rfl hs (closure_ok fr) ok.kind (fun y hy e => by rw [ok.uniq y hy, e]) (thn (hi.run pins s σ H _ I h) fun xv s1 hx => thn hx fun itv s2 h2 => ?_)
  obtain ⟨it, fp, tn, J, H2, e, I2, TT', st2, f2, q⟩ := h2
  subst e
  refine wpAny_newObj_type (newEnv_comp ?_) (by show 0 ≤ sizeLine; decide)
  generalize hD : s2.heap.objs.size = D
  have hDn : H2 D = none := I2.hok.fresh (Nat.le_of_eq hD)
  obtain ⟨WW, ⟨m0, w0⟩, turn⟩ := q D hDn
  generalize hs3 : ({ s2 with heap := s2.heap.push { cls := .type "list", data := .seq ([] : List Value).toArray } } : Shared) = s3
  have I3 : Inv X pins σ (upd H2 D (.lst [])) s3 := by
    subst hs3 hD
    exact I2.laid (t' := s2.toks) (fun b o e => Heap.get?_push_of_some _ e) (Nat.le_refl _) ⟨Nat.zero_le _, [], 0, .nil, Heap.get?_push_size _ rfl⟩
  have h3 : s3.heap = s2.heap.push { cls := .type "list", data := .seq ([] : List Value).toArray } := by rw [← hs3]
  have f3 : ∀ b ∈ fp, FpOk X pins (upd H2 D (.lst [])) b ∧ b < s3.heap.objs.size := fun b hb => by
    obtain ⟨o, e, _⟩ := TT'.obj _ _ st2 b hb
    have lt := Heap.lt_size e
    refine ⟨⟨?_, (f2 b hb).2⟩, by rw [h3, Heap.size_push]; exact Nat.lt_succ_of_lt lt⟩
    rw [upd_ne (by subst hD; exact Nat.ne_of_lt lt)]
    exact (f2 b hb).1
  have st3 : tn 0 s3.heap := TT'.keep _ _ _ st2 fun b _ o e => by rw [h3]; exact Heap.get?_push_of_some _ e
  have I4' := block_start I3 ok hN f3
  generalize hs4 : ({ s3 with heap := pushCells (s3.heap.push { cls := .type "dict", data := .dict #[] }) sc.names } : Shared) = s4 at I4'
  have keep4 : ∀ b o, s3.heap.get? b = some o → s4.heap.get? b = some o := fun b o e => by rw [← hs4]; exact pushCells_keeps _ _ _ _ (Heap.get?_push_of_some _ e)
  have pg := hg s3 (upd H2 D (.lst [])) s3.heap.objs.size (cellsFrom (s3.heap.objs.size + 1) sc.names (cloFrom X.env.cells sc.names [])) fp
  have pt := ht s3 (upd H2 D (.lst [])) s3.heap.objs.size (cellsFrom (s3.heap.objs.size + 1) sc.names (cloFrom X.env.cells sc.names [])) fp
  have pe := he s3 (upd H2 D (.lst [])) s3.heap.objs.size (cellsFrom (s3.heap.objs.size + 1) sc.names (cloFrom X.env.cells sc.names [])) fp
  have nfp : ∀ b ∈ fp, (upd H2 D (.lst [])) b = none := fun b hb => (f3 b hb).1.1
  show codeAny _ _ (.compStart (.ListComp elt [⟨tg, iter, ifs, 0⟩] sc pos) 0 (.ref it) (.ref D) (compEnvC sc (cellsFrom (s3.heap.objs.size + 1) sc.names (cloFrom X.env.cells sc.names [])) s3.heap.objs.size X.env)) (compPost (model X.prog X.w) X.A X.xe none (EP X pins σ Q) (.ref D) s3.heap.objs.size) s4
  generalize hce : compEnvC sc (cellsFrom (s3.heap.objs.size + 1) sc.names (cloFrom X.env.cells sc.names [])) s3.heap.objs.size X.env = ce at I4' pg pt pe ⊢
  have cL : ce.locals = s3.heap.objs.size := by subst hce; rfl
  generalize hH3 : upd H2 D (.lst []) = H3 at I3 I4' pg pt pe w0 nfp f3
  -- the handled error stays pinned
  have I4 : Inv (Xh X s3 H3 sc ce fp) [] (wipe σ (own.map (·.2))) H3 s4 := ⟨I4'.ok.toTry _ _, I4'.os, I4'.bare, I4'.base, I4'.loc, I4'.cell, I4'.free, I4'.freeC, fun p hp => by
    have hp' : p ∈ X.pn := by rw [List.append_nil] at hp; exact hp
    obtain ⟨g1, g2, g3, g4, g5⟩ := I3.pin p (List.mem_append_left _ hp')
    refine ⟨keep4 _ _ g1, g2, fun z => ?_, fun hm => (List.mem_cons.mp (I3.stkSub p.1 hm)).elim g3 g4, g5⟩
    have z' : p.1 = ce.locals := z
    rw [cL] at z'
    exact absurd (Heap.lt_size g1) (by rw [z']; exact Nat.lt_irrefl _), I4'.hok, I4'.len⟩
  have hot : HotC (Xh X s3 H3 sc ce fp) := hc
  have st4 : tn 0 s4.heap := TT'.keep _ _ _ st3 fun b _ o e => keep4 _ _ e
  have stat : ∀ {σ' : L2.St} {H' : Hp} {s' : Shared}, Inv (Xh X s3 H3 sc ce fp) [] σ' H' s' → (∀ b ∈ fp, H' b = none) → ∀ b ∈ fp, FpOk (Xh X s3 H3 sc ce fp) [] H' b := fun {σ' H' s'} I' hn b hb =>
    ⟨hn b hb, (I'.ok.exf b hb).1, I'.ok.exfs b hb, .inl hb, fun x c e => (I'.ok.exf b hb).2 x c e, fun p hp => (f3 b hb).1.2.2.2.2.2 p (List.mem_append_left _ (by rw [List.append_nil] at hp; exact hp))⟩
  have loop : codeAny (model X.prog X.w) X.A (.compLoop (.ListComp elt [⟨tg, iter, ifs, 0⟩] sc pos) 0 (.ref it) (.ref D) ce) (compPost (model X.prog X.w) X.A X.xe none (EP X pins σ Q) (.ref D) s3.heap.objs.size) s4 := by
    refine compLoop_any (fun n s' => ∃ i H', Inv (Xh X s3 H3 sc ce fp) [] (wipe σ (own.map (·.2))) H' s' ∧ tn i s'.heap ∧ (∀ b ∈ fp, H' b = none) ∧ WW i n H') ?_ m0 ⟨0, H3, I4, st4, nfp, w0⟩
    rintro n s5 ⟨i, H5, I5, st5, n5, w5⟩
    rcases turn i n H5 w5 with ⟨stop, qq⟩ | ⟨go, Nx, hNx, step⟩
    · refine thnF (TT'.done (Xh X s3 H3 sc ce fp) rfl rfl rfl hot i [] s5 _ H5 (fun _ _ => False) I5 (stat I5 n5) st5 stop) fun r s6 ⟨hr, I6⟩ => ?_
      subst hr
      have I7 : Inv X pins σ H5 s6 := I3.call' (ch := fp) I6.os I6.base I6.hok I6.bare fun b hb => ⟨(f3 b hb).1.2.2.2.1, (f3 b hb).1.2.1, (f3 b hb).1.2.2.2.2.1, (f3 b hb).1.2.2.2.2.2⟩
      have nC : H5 s3.heap.objs.size = none := by
        have z : H5 ce.locals = none := I6.free
        rw [cL] at z; exact z
      obtain ⟨m, hn, _⟩ := I6.loc
      have hn : s6.heap.Ns ce.locals m := hn
      rw [cL] at hn
      obtain ⟨a0, a1, a2, a3, a4, a5⟩ := I3.fpOk (H' := H5) (Nat.le_refl _) nC
      exact ⟨m, hn, fun h'' sb => ⟨.ref D, H5, I7.turned (t' := s6.toks) (fun b o hb e => (sb.2 b hb).trans e) a0 a1 a3 a4 a5, rfl, qq⟩⟩
    · refine thnF (TT'.item (Xh X s3 H3 sc ce fp) rfl rfl rfl hot i [] s5 _ H5 (fun _ _ => False) I5 (stat I5 n5) st5 go) fun r s6 ⟨u, hr, h6⟩ => ?_
      subst hr
      refine thnF h6 fun _ s7 ⟨x, H7, I7, r7, y7, st7, n7⟩ => ?_
      have I7' := I7.pinned (stat I7 n7) (TT'.obj _ _ st7)
      refine thnF (pg.run _ s7 _ H7 x u _ I7' r7 (step x H7 y7)) fun _ s8 ⟨σ8, H8, I8, hw8, q8⟩ => ?_
      refine thnF (pt.run _ s8 σ8 H8 _ I8 q8) fun b s9 ⟨H9, I9, q9⟩ => ?_
      have fin : ∀ {s' : Shared} {H' : Hp}, Inv (Xh X s3 H3 sc ce fp) ([] ++ pinsAt fp s7.heap) σ8 H' s' → Nx H' →
          ∃ m, m < n ∧ ∃ i H', Inv (Xh X s3 H3 sc ce fp) [] (wipe σ (own.map (·.2))) H' s' ∧ tn i s'.heap ∧ (∀ b ∈ fp, H' b = none) ∧ WW i m H' := fun {s' H'} I' nx => by
        obtain ⟨m', hm, w'⟩ := hNx H' nx
        have pin' : ∀ b ∈ fp, ∀ o, s7.heap.get? b = some o → s'.heap.get? b = some o ∧ H' b = none := fun b hb o e => by
          have z := I'.pin (b, o) (List.mem_append_right _ (List.mem_append_right _ (mem_pinsAt hb e)))
          exact ⟨z.1, z.2.1⟩
        refine ⟨m', hm, i + 1, H', (I'.unpinned (pins := [])).weak (by rw [← hw8, wipe_length]) (fun j v e => by rw [← hw8] at e; exact (wipe_some e).1), TT'.keep _ _ _ st7 fun b hb o e => (pin' b hb o e).1, fun b hb => ?_, w'⟩
        obtain ⟨o, e, _⟩ := TT'.obj _ _ st7 b hb
        exact (pin' b hb o e).2
      cases b with
      | false =>
        simp only [Bool.false_eq_true, if_false] at q9 ⊢
        exact fin I9 q9
      | true =>
        simp only [if_true] at q9 ⊢
        refine thnF (pe.run _ s9 σ8 H9 _ I9 q9) fun z s10 ⟨yv, H10, I10, r10, acc, hD10, hz10, nx⟩ => ?_
        exact app_ok (X := Xh X s3 H3 sc ce fp) I10 hD10 hz10 r10 fun s11 I11 => fin I11 nx
  exact codeAny_compStart_list loop (TT'.self X.A 0 _ _ _ st4 loop)
theorem pe_lcH {elt tg iter : Expr} {ifs : List Expr} {sc : Scope} {own : List (Str × Nat)} {pos : Pos} {wi : TI} {g : TG} {tt : TT} {te : TE} (hc : HotC X) (hN : X.N.Nodup) (hi : PIH X tg iter wi) (ok : BlkOk X.N X.env.scope sc own)
    (hg : ∀ (s : Shared) (H : Hp) (C : Addr) (cl : List (Str × Addr)) (fp : List Addr), PG (Xh X s H sc (compEnvC sc cl C X.env) fp) tg g)
    (ht : ∀ (s : Shared) (H : Hp) (C : Addr) (cl : List (Str × Addr)) (fp : List Addr), PTs (Xh X s H sc (compEnvC sc cl C X.env) fp) ifs tt)
    (he : ∀ (s : Shared) (H : Hp) (C : Addr) (cl : List (Str × Addr)) (fp : List Addr), PE (Xh X s H sc (compEnvC sc cl C X.env) fp) elt te) (hs : ∀ x, foldedSetIterable iter X.env x = pure x) :
    PE X (.ListComp elt [⟨tg, iter, ifs, 0⟩] sc pos) (tLc wi g tt te (own.map (·.2))) := by
  refine ⟨fun pins s σ H Q I h => ?_⟩
  rw [eval_ListComp]
  exact lch_core hc hN I hi ok hg ht he hs h
end
/-! ### on trees -/
structure XIH (X : Cx) (W : WX) (tg e : Expr) (τ : XRL) : Prop where
  ex : ∃ t, PIH X tg e t ∧ SI (gm X) W t τ
section
variable {X : Cx} {W : WX} {elt tg iter e c : Expr} {sc : Scope} {own : List (Str × Nat)} {pos p : Pos} {τi τa : XRL} {g : Tg} {gs : List Nat} {β : XRB} {τ : XR}
theorem xi_range1H (hg : Gl X "range") (hm : X.mg "range" = none) (ha : XA X W [e] τa) (hs : starEach [e] X.env = [(false, eval e X.env)] := by rfl) : XIH X W tg (.Call (.Name "range" p) [e] [] pos) (rngI range1 τa) := by
  obtain ⟨t, pa, sa⟩ := ha
  refine ⟨_, pi_range1H hg hm pa hs, fun Z H σ ev Q I q => ?_⟩
  refine sa Z H σ ev _ I (Post.imp (Post.bind q) fun ts ev' q vs Z' H' I' s' r => ?_)
  obtain ⟨us, e, q⟩ := post_some q
  have e : range1 ts = some us := e
  unfold range1 at e
  split at e
  · obtain ⟨v, rfl, r0⟩ := reps1 r
    cases r0.intE
    split at e
    · rename_i hb
      cases e
      refine ⟨_, rfl, hb.1, hb.2, q _ Z' H' I' s' ?_⟩
      have w := fun n : Nat => walk_range (G := gm X) (Zi := Z') (lo := 0) (n := n)
      simp only [Int.zero_add] at w
      exact w _
    · cases e
  · cases e
theorem xo_lcIfH (hc : HotC X) (hN : X.N.Nodup) (hi : XIH X W tg iter τi) (ok : BlkOk X.N X.env.scope sc own)
    (hg : ∀ (s : Shared) (H : Hp) (C : Addr) (cl : List (Str × Addr)) (fp : List Addr), XG (Xh X s H sc (compEnvC sc cl C X.env) fp) tg g gs)
    (hf : ∀ (s : Shared) (H : Hp) (C : Addr) (cl : List (Str × Addr)) (fp : List Addr), XT (Xh X s H sc (compEnvC sc cl C X.env) fp) Wf c β)
    (he : ∀ (s : Shared) (H : Hp) (C : Addr) (cl : List (Str × Addr)) (fp : List Addr), XE (Xh X s H sc (compEnvC sc cl C X.env) fp) Wf elt τ)
    (hgs : ∀ j ∈ gs, j ∈ own.map (·.2) := by decide) (hs : ∀ x, foldedSetIterable iter X.env x = pure x := by intro _; rfl) :
    XO X W (.ListComp elt [⟨tg, iter, [c], 0⟩] sc pos) (lcS τi g β τ (own.map (·.2))) := by
  obtain ⟨wi, pi, si⟩ := hi
  refine ⟨_, pe_lcH (te := canE (gm X) Wf τ) (g := canG (gm X) g gs) (tt := canB (gm X) Wf β) hc hN pi ok (fun s H C cl fp => (hg s H C cl fp).can) (fun s H C cl fp => pts_one (hf s H C cl fp).can) (fun s H C cl fp => (he s H C cl fp).can) hs, ?_⟩
  exact lc_t (g := g) (gs := gs) (β := β) (τ := τ) si hgs fun Z H σ ev b ev' Q I e q => ⟨Z, ev, I, by rw [e]; exact q⟩
end
end PH
set_option Elab.async false
set_option linter.all false
set_option maxRecDepth 100000
/-! Defs called within an except suite; try: .., except X as e: if not f(e.given, y): return False -/
namespace PH
open PySem PySem.Spec PyProof.Rows L2 L2H
section
variable {G : Gm} {Z H Z' H' : Hp} {σ : L2.St} {ev : Ev}
/-- the body's reading gives what the def promises -/
theorem body_ok {N ps : List Str} {τ : XRS} {g : Fn} {E : XK} {t : TS} (st : SS G (fun c d _ H' => E c d H') t τ) (hg : ∀ ev r, g ev = r → r ≠ .bad → parE ev = true ∧ runB N.length τ ev = r) (hps : ps.length ≤ N.length) {vs : List V} {Q : VK}
    (h : spT G ps.length g vs H Q E) : t { nx := fun _ H' => Q .non H', rt := Q } (L2.start N vs) H := by
  obtain ⟨hn, Z, ev, I, p⟩ := h
  obtain ⟨hpar, hrun⟩ := hg ev _ rfl (fun e => by rw [e] at p; exact p)
  rw [← hrun] at p
  have hl : ev.length = vs.length := by rw [I.len]; simp
  have hk : N.length - ev.length = N.length - vs.length := by rw [hl]
  unfold runB at p
  rw [hk] at p
  have I1 := start_ok (k := N.length - vs.length) I
  rw [start_eq]
  have lenOk : ∀ {Z' H' : Hp} {σ' : L2.St} {ev' : Ev}, StOk G Z' H' σ' ev' → Stp Z H (vs.map some ++ List.replicate (N.length - vs.length) none) (ev ++ List.replicate (N.length - vs.length) .no) Z' H' σ' ev' → ev.length ≤ ev'.length := fun I' s' => by
    have := s'.ln
    rw [I'.len, this]
    simp [hl]
  refine st Z H _ _ _ I1 ?_
  cases e : τ (ev ++ List.replicate (N.length - vs.length) Sl.no) with
  | bad => rw [e] at p; exact p.elim
  | exc c fs ev' =>
    rw [e] at p
    intro C d gs σ' Z' H' hm I' s' hd r
    obtain ⟨I2, s2⟩ := out_ok I hpar I' s' (lenOk I' s')
    exact p C d gs _ Z' H' hm I2 s2 hd r
  | ok q =>
    obtain ⟨fl, ev'⟩ := q
    rw [e] at p
    cases fl with
    | nx =>
      intro σ' Z' H' I' s'
      obtain ⟨I2, s2⟩ := out_ok I hpar I' s' (lenOk I' s')
      exact p _ _ _ I2 s2 .non
    | ret d =>
      intro v σ' Z' H' I' s' r
      obtain ⟨I2, s2⟩ := out_ok I hpar I' s' (lenOk I' s')
      exact p _ _ _ I2 s2 r
    | reto d =>
      intro a us σ' Z' H' I' s' h1 h2 h3 h4 r
      obtain ⟨I2, s2⟩ := out_ok I hpar I' s' (lenOk I' s')
      have h0 : H a = none := by
        rcases h1 with h1 | ⟨j, w⟩
        · exact h1
        · exfalso
          obtain ⟨s0, v0, f1, f2, f3⟩ := own_start I w
          obtain ⟨rfl, ts0, rfl | rfl⟩ := oAt_some f3
          · cases List.all_eq_true.mp hpar _ (List.mem_of_getElem? f1)
          · have hj : j < ev.length := (List.getElem?_eq_some_iff.mp f1).1
            obtain ⟨g1, ts', g2⟩ := s'.bx j ts0 (by rw [List.getElem?_append_left hj]; exact f1)
            rw [List.getElem?_append_left (by simpa [hl] using hj), f2] at g1
            exact h3 j ⟨_, _, g2, g1, rfl⟩
      refine p _ _ _ I2 s2 ⟨a, us, rfl, h0, h2, h4, r, fun i w => ?_⟩
      rcases s2.ow i a w with z | ⟨j, w2⟩
      · obtain ⟨s0, v0, f1, f2, f3⟩ := w
        obtain ⟨rfl, ts0, hs⟩ := oAt_some f3
        obtain ⟨t0, k1, ⟨⟨ts1, rfl⟩, k2⟩ | ⟨k2, rfl⟩⟩ := outE_at (lenOk I' s') f1
        · obtain ⟨_, us', hh⟩ := I.own (⟨_, _, k1, f2, rfl⟩ : Own (vs.map some) ev i a)
          rw [z] at hh; cases hh
        · rcases hs with rfl | rfl
          · cases List.all_eq_true.mp hpar _ (List.mem_of_getElem? k1)
          · exact absurd rfl (k2 ts0)
      · obtain ⟨_, us', hh⟩ := I.own w2
        rw [h0] at hh; cases hh
    | brk => exact p.elim
    | cnt => exact p.elim
theorem own_free {i : Nat} {x : Option V} (h : ev[i]? = some .no) {j : Nat} {a : Addr} : Own (σ.set i x) ev j a ↔ Own σ ev j a := by
  have key : ∀ j, j ≠ i → (σ.set i x)[j]? = σ[j]? := fun j hj => List.getElem?_set_ne (Ne.symm hj)
  constructor
  · rintro ⟨s, v, e1, e2, e3⟩
    by_cases hj : j = i
    · subst hj; rw [h] at e1; cases e1; cases v <;> cases e3
    · rw [key j hj] at e2; exact ⟨s, v, e1, e2, e3⟩
  · rintro ⟨s, v, e1, e2, e3⟩
    by_cases hj : j = i
    · subst hj; rw [h] at e1; cases e1; cases v <;> cases e3
    · exact ⟨s, v, e1, by rw [key j hj]; exact e2, e3⟩
/-- a slot of which nothing is told may hold anything -/
theorem StOk.free (I : StOk G Z H σ ev) {i : Nat} (h : ev[i]? = some .no) (x : Option V) : StOk G Z H (σ.set i x) ev := by
  refine ⟨I.sub, by rw [List.length_set]; exact I.len, fun j s v e1 e2 => ?_, fun j k a p q => I.dist j k a ((own_free h).mp p) ((own_free h).mp q)⟩
  by_cases hj : j = i
  · subst hj; rw [h] at e1; cases e1; trivial
  · rw [List.getElem?_set_ne (Ne.symm hj)] at e2; exact I.slots j s v e1 e2
theorem Stp.free {Z0 H0 : Hp} {σ0 : L2.St} {ev0 : Ev} (s : Stp Z0 H0 σ0 ev0 Z H σ ev) {i : Nat} (h : ev[i]? = some .no) (x : Option V) : Stp Z0 H0 σ0 ev0 Z H (σ.set i x) ev := by
  refine ⟨s.zz, s.hh, s.zf, fun j a p => s.ow j a ((own_free h).mp p), fun j ts e => ?_, s.th, by rw [List.length_set]; exact s.ln⟩
  obtain ⟨e1, ts', e2⟩ := s.bx j ts e
  have hj : j ≠ i := fun z => by subst z; rw [h] at e2; cases e2
  exact ⟨by rw [List.getElem?_set_ne (Ne.symm hj)]; exact e1, ts', e2⟩
end
/-! ### defs there -/
abbrev FnTH (P : Program) (w : World) (K : PySem.W.Frag) (mg : Str → Option Value) (base : Heap) (k : Nat) (f : Addr) (fd : FuncData) (ps : List Str) (g : Fn) : Prop := FnH P w K mg base (L2N.CX P w) k f fd ps (spT ⟨K, mg⟩ ps.length g)
structure BdH (X : Cx) (W : WX) (k : Nat) : Prop where
  hot : HotC X
  room : RoomH k X.A
  tk : L2N.Takes X W
theorem Fun.okTH {P : Program} {w : World} {K : PySem.W.Frag} {mg : Str → Option Value} {base : Heap} {x qual : Str} {st : Stmt} {f : Addr} {fd : FuncData} {N ps : List Str} {k : Nat} {τ : XRS} {g : Fn} (F : Fun K x qual st f fd) (S : FnScope N ps (defScope st))
    (hbody : ∀ (cdv : Value) (A : Around) (outer : List Env) (s : Shared) (H : Hp) (E : XK) (p : Addr × Obj), BdH (cxH (L2N.CX P w) P w K mg base N qual (defScope st) f cdv A outer s H E p) (fun c d _ H' => E c d H') k →
      XSs (cxH (L2N.CX P w) P w K mg base N qual (defScope st) f cdv A outer s H E p) (fun c d _ H' => E c d H') (defBody st) τ)
    (hg : ∀ ev r, g ev = r → r ≠ .bad → parE ev = true ∧ runB N.length τ ev = r) (hps : ps.length ≤ N.length) : FnTH P w K mg base (k + 1) f fd ps g := by
  obtain ⟨oc, od, kV, doc, pm, an, cdv, ct, osl, rfl, hlk, hcd⟩ := F.ex
  refine fn_ofH hlk hcd S (fun vs H Q E h => h.1) fun A outer s H vs Q E p hot hr h => ?_
  have hb : BdH (cxH (L2N.CX P w) P w K mg base N qual (defScope st) f cdv A outer s H E p) (fun c d _ H' => E c d H') k := ⟨⟨p, hot, List.mem_cons_self⟩, hr, L2N.takes_of rfl rfl rfl rfl⟩
  obtain ⟨t, pt, st⟩ := hbody cdv A outer s H E p hb
  exact ⟨t, pt, body_ok (G := ⟨K, mg⟩) st hg hps h⟩
structure CalH (X : Cx) (x : Str) (n : Nat) (g : Fn) : Prop where
  ex : ∃ (k : Nat) (f : Addr) (fd : FuncData) (ps : List Str), ps.length = n ∧ FnH X.prog X.w X.K X.mg X.base (L2N.CX X.prog X.w) k f fd ps (spT (gm X) ps.length g) ∧ RoomH k X.A ∧ X.mg x = some (.ref f) ∧ PySem.W.keepIn X.K (.ref f) = true ∧ Binds X.K fd ps []
/-! ### the try -/
def canS (G : Gm) (W : WX) (τ : XRS) : TS := fun D σ H => ∃ Z ev, StOk G Z H σ ev ∧ Post G W Z H σ ev (τ ev) (OkS G Z H σ ev D)
theorem XSs.can {X : Cx} {W : WX} {st : List Stmt} {τ : XRS} (h : XSs X W st τ) : PSs X st (canS (gm X) W τ) := by
  obtain ⟨t, p, s⟩ := h
  exact ⟨fun pins s1 σ H D I ⟨Z, ev, h1, h2⟩ => p.run pins s1 σ H D I (s Z H σ ev D h1 h2)⟩
/-- what is wanted of a class of errors that is caught -/
structure ErrC (X : Cx) (x : Str) : Prop where
  ex : ∃ C : Addr, X.mg x = some (.ref C) ∧ XfC X.K C ∧ PySem.W.findIn X.K (.ref C) "given" = some none ∧ PySem.W.exmOne X.K (.ref C) (.ref C) = some true
def tryGv (x : Str) (i j : Nat) (g : Fn) (τb : XRS) : XRS := fun ev => match τb ev with
  | .ok p => .ok p
  | .bad => .bad
  | .exc c fs ev' => if c = x then match ev'[i]?, fs.lookup ("given" : Str), ev'[j]? with
      | some .no, some t, some (.val u) => match g [.val t, .val u] with
        | .ok (.v (.bl b), _) => .ok (if b = true then .nx else .ret (.bl false), ev')
        | _ => .bad
      | _, _, _ => .bad
    else .bad
theorem RepF.lookup {G : Gm} {Z : Hp} : ∀ {fs : List (Str × T)} {gs : List (Str × V)} {f : Str} {t : T}, RepF G Z fs gs → fs.lookup f = some t → ∃ v, gs.lookup f = some v ∧ Rep G Z t v
  | _, _, f, t, .nil, h => by cases h
  | _, _, f, t, .cons (f := f0) r rs, h => by
    by_cases e : f == f0
    · simp only [List.lookup, e] at h ⊢
      cases h; exact ⟨_, rfl, r⟩
    · have e' : (f == f0) = false := by simpa using e
      simp only [List.lookup, e'] at h ⊢
      exact RepF.lookup rs h
section
variable {X : Cx} {W : WX} {x n f y : Str} {i j : Nat} {g : Fn} {τb : XRS} {body : List Stmt} {np pos pos' q1 q2 q3 q4 q5 q6 q7 q8 q9 : Pos} {jj : Tok}
theorem xs_tryGv {jc} (i j : Nat) (hs : X.stack = X.env :: X.outer) (hf : X.env.frame = some X.env.locals) (hN : X.N.Nodup) (hc : ErrC X x) (hgx : Gl X x) (hdx : (x == ("__debug__" : Str)) = false) (ca : CalH X f 2 g)
    (hb : ∀ (W : WX) (pn : List (Addr × Obj)) (xe : Value → Shared → Prop), L2N.Takes (X.tr pn xe) W → PassesOwn (model X.prog X.w) X.A X.env xe → XSs (X.tr pn xe) W body τb)
    (hi : X.N[i]? = some n) (hln : X.env.kindOf n = some .local) (hv : Vis X.env.scope n) (hj : X.N[j]? = some y) (hvy : Vis X.env.scope y) (hij : j ≠ i) (hgf : Gl X f)
    (hd1 : (n == ("__debug__" : Str)) = false) (hd2 : (y == ("__debug__" : Str)) = false) (hd3 : (f == ("__debug__" : Str)) = false) (hk1 : (n == ("__classdict__" : Str)) = false) (hk2 : (y == ("__classdict__" : Str)) = false)
    (hbase : attributeBase (.Name n q2) "given" X.env (eval (.Name n q2) X.env) = eval (.Name n q2) X.env)
    (he1 : starEach [.Attribute (.Name n q2) "given" q3, .Name y q4] X.env = (false, eval (.Attribute (.Name n q2) "given" q3) X.env) :: starEach [.Name y q4] X.env)
    (he2 : starEach [.Name y q4] X.env = (false, eval (.Name y q4) X.env) :: starEach [] X.env) (hpl : (backTo q5 (starEach [.Name y q4] X.env)).any (·.1) = false)
    (htr : ∀ whole, isTrue (.Call (.Name f q1) [.Attribute (.Name n q2) "given" q3, .Name y q4] [] q5) X.env whole = (do let v ← whole; standAt q5; holding [v] (truthy v))) :
    XS X W (.Try body [.ExceptHandler (some (.Name x np)) (some n) [.If (.UnaryOp .Not (.Call (.Name f q1) [.Attribute (.Name n q2) "given" q3, .Name y q4] [] q5) q6) [.Return (some (.Constant (.bool false) jc q7)) q8] [] q9] pos'] [] [] pos) (tryGv x i j g τb) := by
  obtain ⟨C, hm, hxf, hno, hte⟩ := hc.ex
  obtain ⟨k, fa, fd, ps, hn, F, hr, hmf, hk, hbd⟩ := ca.ex
  refine ⟨_, L2N.ps_try_as (tb := fun W => canS (gm X) W τb) (c := .ref C) (Wout := Wf) (i := i)
    (ts := fun a cls d => tIfS (tNot (fun σ H Q => tCallS (spT (gm X) ps.length g) (L2.WE Wf) (tCons (tXf a cls d C "given" (tVar i)) (tCons (tVar j) tNil)) σ H fun x H' => ∃ k, TruV X.K x H' k ∧ Q k H')) (tRet (tC (.bl false))) tNext)
    hs hf hN hi hln ⟨hgx, hdx, .inl hm⟩ takesF (fun W pn xe tk po => (hb W pn xe tk po).can) (fun a oe cls d pn hz hfl => ?_), fun Z H σ ev D I p => ?_⟩
  · -- the suite
    have hot : HotC (X.suite a ((a, oe) :: pn)) := by
      obtain ⟨vs, hvs⟩ := hfl
      exact ⟨(a, oe), ⟨rfl, vs, hvs, hz.2.2 vs hvs⟩, List.mem_cons_self⟩
    exact pss_one (ps_if (pt_not (pt_truth (pe_callH (X := X.suite a ((a, oe) :: pn)) F ⟨hr.dp, hr.un⟩ hot hgf hmf hk hbd (fun σ => L2N.passAt takesF σ)
      (pa_cons (pe_xf hxf hno hz.zc hfl (pe_var (X := X.suite a ((a, oe) :: pn)) hi hv hd1 hk1) hbase) (pa_cons (pe_var (X := X.suite a ((a, oe) :: pn)) hj hvy hd2 hk2) pa_nil he2) he1) hd3 he1 hpl) htr)) (pss_one (ps_ret pe_bl)) pss_nil)
  · refine ⟨Z, ev, I, ?_⟩
    unfold tryGv at p
    cases e : τb ev with
    | bad => rw [e] at p; exact p.elim
    | ok q => rw [e] at p; exact p
    | exc c fs ev' =>
      rw [e] at p
      intro C' dd gs σ' Z' H' hm' I' s' hd rf
      dsimp only at p
      split at p
      · rename_i hcx
        subst hcx
        have hm2 : X.mg c = some (.ref C') := hm'
        rw [hm] at hm2
        cases hm2
        split at p
        · rename_i t u e1 e2 e3
          split at p
          · rename_i b e' eg
            refine ⟨true, hte, fun _ a0 ha0 => ?_, fun z => Bool.noConfusion z⟩
            obtain ⟨v, hv1, rv⟩ := rf.lookup e2
            obtain ⟨v2, hv2, rv2⟩ := I'.at e3
            cases v2 with
            | none => exact (show False from rv2).elim
            | some v2 =>
              have I1 := I'.free e1 (some (.ref a0))
              have s1 := s'.free e1 (some (.ref a0))
              have li : i < σ'.length := by rw [← I'.len]; exact (List.getElem?_eq_some_iff.mp e1).1
              refine ⟨.ref a0, List.getElem?_set_self li, rfl, rfl, dd, gs, v, rfl, hd, hv1, v2, ?_, ?_⟩
              · rw [List.getElem?_set_ne (Ne.symm hij)]; exact hv2
              · have rp2 : Post (gm X) Wf Z' H' (σ'.set i (some (.ref a0))) ev' (backV (g ([t, u].map .val)) ev') fun x ev2 => x = .v (.bl b) ∧ ev2 = ev' := by
                  show Post (gm X) Wf Z' H' (σ'.set i (some (.ref a0))) ev' (backV (g [.val t, .val u]) ev') _
                  rw [eg]
                  exact ⟨rfl, rfl⟩
                refine callV (W := Wf) I1 Stp.refl (.cons rv (.cons rv2 .nil)) hn.symm rp2 fun x vx Z2 H2 I2 s2 rvx hx => ?_
                obtain ⟨rfl, _⟩ := hx
                cases rvx
                refine ⟨b, rfl, ?_⟩
                cases b with
                | true => exact p _ _ _ (I2.free e1 none) ((s1.trans s2).free e1 none)
                | false => exact p (.bl false) _ _ _ I2 (s1.trans s2) (.bl false)
          · exact p.elim
        · exact p.elim
      · exact p.elim
end
end PH
set_option Elab.async false
set_option linter.all false
set_option maxRecDepth 100000
/-! What the printed derivations lean on. -/
namespace PH
open PySem PySem.Spec PyProof.Rows L2
def runFn (n : Nat) (τ : XRS) : Fn := fun ev => if parE ev = true then runB n τ ev else .bad
theorem runFn_spec {n : Nat} {τ : XRS} : ∀ ev r, runFn n τ ev = r → r ≠ .bad → parE ev = true ∧ runB n τ ev = r := fun ev r e h => by
  unfold runFn at e
  split at e
  · rename_i hp; exact ⟨hp, e⟩
  · exact absurd e.symm h
/-- a def of the text, at its name -/
structure Df (K : PySem.W.Frag) (mg : Str → Option Value) (x : Str) (st : Stmt) : Prop where
  ex : ∃ (f : Addr) (fd : FuncData), Fun K x x st f fd ∧ mg x = some (.ref f)
/-- a def that keeps g -/
structure Kn (P : Program) (w : World) (K : PySem.W.Frag) (mg : Str → Option Value) (base : Heap) (k : Nat) (x : Str) (n : Nat) (g : Fn) : Prop where
  ex : ∃ (f : Addr) (fd : FuncData) (ps : List Str), ps.length = n ∧ FnT P w K mg base k f fd ps g ∧ mg x = some (.ref f) ∧ PySem.W.keepIn K (.ref f) = true ∧ Binds K fd ps []
structure KnK (P : Program) (w : World) (K : PySem.W.Frag) (mg : Str → Option Value) (base : Heap) (k : Nat) (x : Str) (n : Nat) (ks : List Str) (pm : {α : Type} → List α → List α) (g : Fn) : Prop where
  ex : ∃ (f : Addr) (fd : FuncData) (ps : List Str), ps.length = n ∧ FnT P w K mg base k f fd ps g ∧ mg x = some (.ref f) ∧ PySem.W.keepIn K (.ref f) = true ∧
    ∀ (s : Shared) (ws : List Value), ws.length = ks.length → BindsTo s fd ⟨[], ks.zip ws⟩ (ps.zip (pm ws))
structure KnH (P : Program) (w : World) (K : PySem.W.Frag) (mg : Str → Option Value) (base : Heap) (k : Nat) (x : Str) (n : Nat) (g : Fn) : Prop where
  ex : ∃ (f : Addr) (fd : FuncData) (ps : List Str), ps.length = n ∧ FnTH P w K mg base k f fd ps g ∧ mg x = some (.ref f) ∧ PySem.W.keepIn K (.ref f) = true ∧ Binds K fd ps []
section
variable {P : Program} {w : World} {K : PySem.W.Frag} {mg : Str → Option Value} {base : Heap} {k j : Nat} {x : Str} {n : Nat} {g : Fn} {X : Cx} {ks : List Str} {pm : {α : Type} → List α → List α}
theorem Kn.cal (h : Kn X.prog X.w X.K X.mg X.base k x n g) (hr : Room j X.A) (hj : k ≤ j := by decide) : Cal X x n g := by
  obtain ⟨f, fd, ps, h1, h2, h3, h4, h5⟩ := h.ex
  exact ⟨k, f, fd, ps, h1, h2, hr.mono hj, h3, h4, h5⟩
theorem KnK.cal (h : KnK X.prog X.w X.K X.mg X.base k x n ks pm g) (hr : Room j X.A) (hj : k ≤ j := by decide) : CalK X x n ks pm g := by
  obtain ⟨f, fd, ps, h1, h2, h3, h4, h5⟩ := h.ex
  exact ⟨k, f, fd, ps, h1, h2, hr.mono hj, h3, h4, h5⟩
theorem KnH.cal (h : KnH X.prog X.w X.K X.mg X.base k x n g) (hr : L2H.RoomH j X.A) (hj : k ≤ j := by decide) : CalH X x n g := by
  obtain ⟨f, fd, ps, h1, h2, h3, h4, h5⟩ := h.ex
  exact ⟨k, f, fd, ps, h1, h2, hr.mono hj, h3, h4, h5⟩
theorem Kn.mono (h : Kn P w K mg base k x n g) (hj : k ≤ j) : Kn P w K mg base j x n g := by
  obtain ⟨f, fd, ps, h1, h2, h3, h4, h5⟩ := h.ex
  exact ⟨f, fd, ps, h1, h2.mono hj, h3, h4, h5⟩
theorem Kn.mk' {st : Stmt} {ps : List Str} (D : Df K mg x st) (hn : ps.length = n) (F : ∀ f fd, Fun K x x st f fd → FnT P w K mg base k f fd ps g)
    (hb : ∀ (kV doc pm : Value) (an : Option Addr) (cdv ct : Value) (us : List Value), us.length = ps.length → bindArgs (PySem.W.fnOf x x (defArgs st) (defBody st) (defScope st) .none kV doc pm an cdv ct) ⟨us, []⟩ = pure (ps.zip us)) : Kn P w K mg base k x n g := by
  obtain ⟨f, fd, FF, hm⟩ := D.ex
  exact ⟨f, fd, ps, hn, F f fd FF, hm, FF.kp, FF.binds hb⟩
theorem KnH.mk' {st : Stmt} {ps : List Str} (D : Df K mg x st) (hn : ps.length = n) (F : ∀ f fd, Fun K x x st f fd → FnTH P w K mg base k f fd ps g)
    (hb : ∀ (kV doc pm : Value) (an : Option Addr) (cdv ct : Value) (us : List Value), us.length = ps.length → bindArgs (PySem.W.fnOf x x (defArgs st) (defBody st) (defScope st) .none kV doc pm an cdv ct) ⟨us, []⟩ = pure (ps.zip us)) : KnH P w K mg base k x n g := by
  obtain ⟨f, fd, FF, hm⟩ := D.ex
  exact ⟨f, fd, ps, hn, F f fd FF, hm, FF.kp, FF.binds hb⟩
theorem KnK.mk' {st : Stmt} {ps : List Str} (D : Df K mg x st) (hn : ps.length = n) (F : ∀ f fd, Fun K x x st f fd → FnT P w K mg base k f fd ps g)
    (hb : ∀ (kV doc qm : Value) (an : Option Addr) (cdv ct : Value) (ws : List Value), ws.length = ks.length → bindArgs (PySem.W.fnOf x x (defArgs st) (defBody st) (defScope st) .none kV doc qm an cdv ct) ⟨[], ks.zip ws⟩ = pure (ps.zip (pm ws))) : KnK P w K mg base k x n ks pm g := by
  obtain ⟨f, fd, FF, hm⟩ := D.ex
  refine ⟨f, fd, ps, hn, F f fd FF, hm, FF.kp, ?_⟩
  obtain ⟨oc, od, kV, doc, qm, an, cdv, ct, osl, rfl, _⟩ := FF.ex
  exact fun s ws hl => .of_eq (hb kV doc qm an cdv ct ws hl)
/-- a module's constant -/
structure Gc (G : Gm) (x : Str) (t : T) : Prop where
  ex : ∃ v u, G.mg x = some u ∧ RelV v u ∧ ∀ Z, Rep G Z t v
theorem xe_gc {W : WX} {t : T} {pos : Pos} (c : Gc (gm X) x t) (hg : Gl X x := by rfl) (hd : (x == ("__debug__" : Str)) = false := by decide) : XE X W (.Name x pos) (kT t) := by
  obtain ⟨v, u, h1, h2, h3⟩ := c.ex
  exact xe_glob hg h1 h2 h3 hd
end
def pmI {α : Type} (l : List α) : List α := l
def pmS {α : Type} : List α → List α
  | [a, b] => [b, a]
  | l => l
theorem pmI_ok {n : Nat} : Perm' pmI n := ⟨fun r => r, fun r => r⟩
theorem pmS_ok {n : Nat} : Perm' pmS n := by
  refine ⟨fun {vs us} r => ?_, fun {G Z ts vs} r => ?_⟩
  · cases r with
    | nil => exact .nil
    | cons a r => cases r with
      | nil => exact .cons a .nil
      | cons b r => cases r with
        | nil => exact .cons b (.cons a .nil)
        | cons c r => exact .cons a (.cons b (.cons c r))
  · cases r with
    | nil => exact .nil
    | cons a r => cases r with
      | nil => exact .cons a .nil
      | cons b r => cases r with
        | nil => exact .cons b (.cons a .nil)
        | cons c r => exact .cons a (.cons b (.cons c r))
/-! the number of arguments is known -/
section
variable {τ : XRL} {τa : XR} {n : Nat}
def Len (τ : XRL) (n : Nat) : Prop := ∀ ev p, τ ev = .ok p → p.1.length = n
theorem len_nil : Len nilA 0 := fun ev p e => by cases e; rfl
theorem len_cons (h : Len τ n) : Len (consA τa τ) (n + 1) := fun ev p e => by
  unfold consA at e
  obtain ⟨⟨d, ev1⟩, e1, e⟩ := bind_ok e
  obtain ⟨⟨ds, ev2⟩, e2, e⟩ := bind_ok e
  cases e
  exact congrArg (· + 1) (h _ _ e2)
theorem Len.plus (h : Len τ n) : ∀ ev p, τ ev = .ok p → p.1.length + 1 = n + 1 := fun ev p e => congrArg (· + 1) (h ev p e)
theorem Len.kI (h : Len τ n) {ks : List Str} (hk : ks.length = n := by rfl) : ∀ ev p, τ ev = .ok p → p.1.length = ks.length ∧ (pmI p.1).length = n := fun ev p e => ⟨(h ev p e).trans hk.symm, h ev p e⟩
theorem Len.kS (h : Len τ 2) {ks : List Str} (hk : ks.length = 2 := by rfl) : ∀ ev p, τ ev = .ok p → p.1.length = ks.length ∧ (pmS p.1).length = 2 := fun ev p e => by
  have l := h ev p e
  refine ⟨l.trans hk.symm, ?_⟩
  match hp : p.1, l with
  | [a, b], _ => rfl
end
/-! tests -/
section
variable {X : Cx} {W : WX} {pos : Pos} {a b : Expr} {τa τb : XR}
abbrev cmpB (f : T → T → Option T) (τa τb : XR) : XRB := b1 tBool (e2 f τa τb)
theorem xt_lt (ha : XE X W a τa) (hb : XE X W b τb) : XT X W (.Compare a [.Lt] [b] pos) (cmpB tLt τa τb) := xt_cmp op_lt t_ord ha hb (nomark _)
theorem xt_le (ha : XE X W a τa) (hb : XE X W b τb) : XT X W (.Compare a [.LtE] [b] pos) (cmpB tLe τa τb) := xt_cmp op_le t_ord ha hb (nomark _)
theorem xt_gt (ha : XE X W a τa) (hb : XE X W b τb) : XT X W (.Compare a [.Gt] [b] pos) (cmpB tGt τa τb) := xt_cmp op_gt t_ord ha hb (nomark _)
theorem xt_ge (ha : XE X W a τa) (hb : XE X W b τb) : XT X W (.Compare a [.GtE] [b] pos) (cmpB tGe τa τb) := xt_cmp op_ge t_ord ha hb (nomark _)
theorem xt_eq (hu : X.A.units + 64 < cLine) (ha : XE X W a τa) (hb : XE X W b τb) : XT X W (.Compare a [.Eq] [b] pos) (cmpB tEq τa τb) := xt_cmp (op_eqX hu) t_eq ha hb (nomark _)
theorem xt_ne (hu : X.A.units + 64 < cLine) (ha : XE X W a τa) (hb : XE X W b τb) : XT X W (.Compare a [.NotEq] [b] pos) (cmpB tNe τa τb) := xt_cmp (op_neX hu) t_ne ha hb (nomark _)
theorem xt_isN (ha : XE X W a τa) (hb : XE X W b τb) : XT X W (.Compare a [.Is] [b] pos) (cmpB tIsN τa τb) := xt_cmp op_isN t_isN ha hb (nomark _)
theorem xt_notN (ha : XE X W a τa) (hb : XE X W b τb) : XT X W (.Compare a [.IsNot] [b] pos) (cmpB tNotN τa τb) := xt_cmp op_notN t_notN ha hb (nomark _)
theorem xt_isB (ha : XE X W a τa) (hb : XE X W b τb) : XT X W (.Compare a [.Is] [b] pos) (cmpB tIsB τa τb) := xt_cmp op_isBl t_isB ha hb (nomark _)
end
/-! comprehension blocks -/
def blkB (N : List Str) (sc scope : Scope) (own : List (Str × Nat)) : Bool :=
  (scope.kind == .function) && (scope.names.all fun y => decide (scope.names.lookup y.1 = some y.2)) && (own.all fun p => decide (N[p.2]? = some p.1)) &&
  (scope.names.all fun y => !decide (y.2 = .free) || (decide (sc.names.lookup y.1 = some .cell) || decide (sc.names.lookup y.1 = some .free))) &&
  (scope.names.all fun y => !(decide (y.2 = .local) || decide (y.2 = .cell)) || (decide (y.1 ∈ own.map (·.1)) || decide (y.1 ∉ N)))
theorem blk_of {N : List Str} {sc scope : Scope} {own : List (Str × Nat)} (hk : scope.kind = .function) (h : blkB N sc scope own = true) : BlkOk N sc scope own := by
  unfold blkB at h
  simp only [Bool.and_eq_true, List.all_eq_true, Bool.or_eq_true, Bool.not_eq_true', decide_eq_true_eq, decide_eq_false_iff_not, Bool.or_eq_false_iff] at h
  obtain ⟨⟨⟨⟨h1, h2⟩, h3⟩, h4⟩, h5⟩ := h
  refine ⟨hk, h2, h3, fun y hy e => (h4 y hy).resolve_left (fun z => z e), fun y hy e => ?_⟩
  rcases h5 y hy with z | z
  · rcases e with e | e
    · exact absurd e z.1
    · exact absurd e z.2
  · exact z
end PH
set_option Elab.async false
set_option linter.all false
set_option maxRecDepth 100000
/-! The meanings, for simp. -/
namespace PH
open PySem PySem.Spec PyProof.Rows L2
@[simp] theorem sx_e1 (f : T → Option T) (τ : XR) (ev : Ev) : e1 f τ ev = ((τ ev).bind fun p => R.ofO (f p.1) p.2) := rfl
@[simp] theorem sx_e2 (f : T → T → Option T) (τa τb : XR) (ev : Ev) : e2 f τa τb ev = ((τa ev).bind fun p => (τb p.2).bind fun q => R.ofO (f p.1 q.1) q.2) := rfl
@[simp] theorem sx_b1 (f : T → Option Bool) (τ : XR) (ev : Ev) : b1 f τ ev = ((τ ev).bind fun p => R.ofO (f p.1) p.2) := rfl
@[simp] theorem sx_andB (τa τb : XRB) (ev : Ev) : andB τa τb ev = ((τa ev).bind fun p => if p.1 = true then τb p.2 else .ok (false, p.2)) := rfl
@[simp] theorem sx_orB (τa τb : XRB) (ev : Ev) : orB τa τb ev = ((τa ev).bind fun p => if p.1 = true then .ok (true, p.2) else τb p.2) := rfl
@[simp] theorem sx_notB (τa : XRB) (ev : Ev) : notB τa ev = ((τa ev).bind fun p => .ok (!p.1, p.2)) := rfl
@[simp] theorem sx_ofB (τa : XRB) (ev : Ev) : ofB τa ev = ((τa ev).bind fun p => .ok (.bl p.1, p.2)) := rfl
@[simp] theorem sx_andV (τa τb : XR) (ev : Ev) : andV τa τb ev = ((τa ev).bind fun p => match p.1 with
  | .bl true => τb p.2
  | .bl false => .ok (.bl false, p.2)
  | _ => .bad) := rfl
@[simp] theorem sx_orV (τa τb : XR) (ev : Ev) : orV τa τb ev = ((τa ev).bind fun p => match p.1 with
  | .bl true => .ok (.bl true, p.2)
  | .bl false => τb p.2
  | _ => .bad) := rfl
@[simp] theorem sx_notV (τa : XR) (ev : Ev) : notV τa ev = ((τa ev).bind fun p => match p.1 with
  | .bl b => .ok (.bl (!b), p.2)
  | _ => .bad) := rfl
@[simp] theorem sx_ifE (c : XRB) (τa τb : XR) (ev : Ev) : ifE c τa τb ev = ((c ev).bind fun p => if p.1 = true then τa p.2 else τb p.2) := rfl
@[simp] theorem sx_nilA (ev : Ev) : nilA ev = (.ok ([], ev)) := rfl
@[simp] theorem sx_consA (τa : XR) (τr : XRL) (ev : Ev) : consA τa τr ev = ((τa ev).bind fun p => (τr p.2).bind fun q => .ok (p.1 :: q.1, q.2)) := rfl
@[simp] theorem sx_tupE (τ : XRL) (ev : Ev) : tupE τ ev = ((τ ev).bind fun p => if p.1.length ≤ sizeLine then .ok (.tup p.1, p.2) else .bad) := rfl
@[simp] theorem sx_gives (τ : XRL) (ev : Ev) : gives τ ev = ((τ ev).bind fun p => .ok (.lst p.1, p.2)) := rfl
@[simp] theorem sx_lstO (τ : XRL) (ev : Ev) : lstO τ ev = ((τ ev).bind fun p => if p.1.length ≤ sizeLine then .ok (p.1, p.2) else .bad) := rfl
@[simp] theorem sx_slIx (i : Nat) (τ : XR) (ev : Ev) : slIx i τ ev = (if (slT ev[i]?).isSome then (τ ev).bind fun p => R.ofO ((slT p.2[i]?).bind fun t => tIx t p.1) p.2 else .bad) := rfl
@[simp] theorem sx_noP (ev : Ev) : noP ev = (.ok (none, ev)) := rfl
@[simp] theorem sx_asP (τ : XR) (ev : Ev) : asP τ ev = ((τ ev).bind fun p => match p.1 with
  | .int i => .ok (some i, p.2)
  | _ => .bad) := rfl
@[simp] theorem sx_slc (τ : XR) (l h : XRO) (ev : Ev) : slc τ l h ev = ((τ ev).bind fun p => (l p.2).bind fun q => (h q.2).bind fun r => R.ofO (tSl q.1 r.1 p.1) r.2) := rfl
@[simp] theorem sx_slcN (i : Nat) (l h : XRO) (ev : Ev) : slcN i l h ev = (if (slT ev[i]?).isSome then (l ev).bind fun q => (h q.2).bind fun r => R.ofO ((slT r.2[i]?).bind (tSl q.1 r.1)) r.2 else .bad) := rfl
@[simp] theorem sx_callA (f : List T → Option T) (τ : XRL) (ev : Ev) : callA f τ ev = ((τ ev).bind fun p => R.ofO (f p.1) p.2) := rfl
@[simp] theorem sx_callAO (f : List T → Option (List T)) (τ : XRL) (ev : Ev) : callAO f τ ev = ((τ ev).bind fun p => R.ofO (f p.1) p.2) := rfl
@[simp] theorem sx_slLen (i : Nat) (ev : Ev) : slLen i ev = (R.ofO ((slT ev[i]?).bind fun t => tLen [t]) ev) := rfl
@[simp] theorem sx_nextS (ev : Ev) : nextS ev = (.ok (.nx, ev)) := rfl
@[simp] theorem sx_seqS (a b : XRS) (ev : Ev) : seqS a b ev = ((a ev).bind fun p => match p.1 with
  | .nx => b p.2
  | f => .ok (f, p.2)) := rfl
@[simp] theorem sx_retS (τ : XR) (ev : Ev) : retS τ ev = ((τ ev).bind fun p => .ok (.ret p.1, p.2)) := rfl
@[simp] theorem sx_ifS (c : XRB) (a b : XRS) (ev : Ev) : ifS c a b ev = ((c ev).bind fun p => if p.1 = true then a p.2 else b p.2) := rfl
@[simp] theorem sx_dropS (τ : XR) (ev : Ev) : dropS τ ev = ((τ ev).bind fun p => .ok (.nx, p.2)) := rfl
@[simp] theorem sx_putS (i : Nat) (s : Sl) (ev : Ev) : putS i s ev = (if isBox ev[i]? = true then .bad else .ok (.nx, ev.set i s)) := rfl
@[simp] theorem sx_setS (i : Nat) (τ : XR) (ev : Ev) : setS i τ ev = ((τ ev).bind fun p => putS i (.val p.1) p.2) := rfl
@[simp] theorem sx_setO (i : Nat) (τ : XRL) (ev : Ev) : setO i τ ev = ((τ ev).bind fun p => putS i (.own p.1) p.2) := rfl
@[simp] theorem sx_retO (τ : XRL) (ev : Ev) : retO τ ev = ((τ ev).bind fun p => .ok (.reto p.1, p.2)) := rfl
@[simp] theorem sx_nilM (ev : Ev) : nilM ev = (.ok ([], ev)) := rfl
@[simp] theorem sx_consMv (τa : XR) (τr : XRM) (ev : Ev) : consMv τa τr ev = ((τa ev).bind fun p => (τr p.2).bind fun q => .ok (.v p.1 :: q.1, q.2)) := rfl
@[simp] theorem sx_consMo (τa : XRL) (τr : XRM) (ev : Ev) : consMo τa τr ev = ((τa ev).bind fun p => (τr p.2).bind fun q => .ok (.o p.1 :: q.1, q.2)) := rfl
@[simp] theorem sx_parS (ix : List Nat) (τ : XRM) (ev : Ev) : parS ix τ ev = ((τ ev).bind fun p => if p.1.length = ix.length ∧ (ix.all fun i => !isBox p.2[i]?) = true then .ok (.nx, (ix.zip p.1).foldl (fun e q => e.set q.1 q.2.sl) p.2) else .bad) := rfl
@[simp] theorem sx_gN (i : Nat) (t : T) (ev : Ev) : gN i t ev = (if isBox ev[i]? = true then none else some (ev.set i (.val t))) := rfl
@[simp] theorem sx_gNil (ts : List T) (ev : Ev) : gNil ts ev = (match ts with
  | [] => some ev
  | _ :: _ => none) := rfl
@[simp] theorem sx_gCons (g : Tg) (h : Tgs) (ts : List T) (ev : Ev) : gCons g h ts ev = (match ts with
  | [] => none
  | t :: ts => (g t ev).bind (h ts)) := rfl
@[simp] theorem sx_gTu (n : Nat) (h : Tgs) (t : T) (ev : Ev) : gTu n h t ev = (match t with
  | .tup ts => if ts.length = n then h ts ev else none
  | _ => none) := rfl
@[simp] theorem sx_asgS (τ : XR) (g : Tg) (ev : Ev) : asgS τ g ev = ((τ ev).bind fun p => match g p.1 p.2 with
  | some ev' => .ok (.nx, ev')
  | none => .bad) := rfl
@[simp] theorem sx_seqI (τ : XR) (ev : Ev) : seqI τ ev = ((τ ev).bind fun p => R.ofO p.1.walk p.2) := rfl
@[simp] theorem sx_rngI (f : List T → Option (List T)) (τ : XRL) (ev : Ev) : rngI f τ ev = ((τ ev).bind fun p => R.ofO (f p.1) p.2) := rfl
@[simp] theorem sx_forS (τ : XRL) (g : Tg) (b : XRS) (ev : Ev) : forS τ g b ev = ((τ ev).bind fun p => forL g b p.1 p.2) := rfl
@[simp] theorem sx_whileS (fuel : Ev → Nat) (c : XRB) (b : XRS) (ev : Ev) : whileS fuel c b ev = (whileN c b (fuel ev) ev) := rfl
@[simp] theorem sx_yesB (ev : Ev) : yesB ev = (.ok (true, ev)) := rfl
@[simp] theorem sx_apS (i : Nat) (τ : XR) (ev : Ev) : apS i τ ev = (if (ownTs ev i).isSome = true then (τ ev).bind fun p => match ownTs p.2 i with
    | some ts => if ts.length < sizeLine then .ok (.non, updSl p.2 i (ts ++ [p.1])) else .bad
    | none => .bad
  else .bad) := rfl
@[simp] theorem sx_stS (i : Nat) (τi τv : XR) (ev : Ev) : stS i τi τv ev = ((τv ev).bind fun p => if (ownTs p.2 i).isSome = true then (τi p.2).bind fun q => match ownTs q.2 i, q.1 with
    | some ts, .int k => match ixN ts.length k with
      | some j => .ok (.nx, updSl q.2 i (ts.set j p.1))
      | none => .bad
    | _, _ => .bad
  else .bad) := rfl
@[simp] theorem sx_callR (g : Fn) (τ : XRL) (ev : Ev) : callR g τ ev = ((τ ev).bind fun p => backV (g (p.1.map .val)) p.2) := rfl
@[simp] theorem sx_callRB (g : Fn) (i : Nat) (τ : XRL) (ev : Ev) : callRB g i τ ev = (match lstAt ev i with
  | none => .bad
  | some _ => (τ ev).bind fun p => match lstAt p.2 i with
    | some us => backB i (g (.box us :: p.1.map .val)) p.2
    | none => .bad) := rfl
@[simp] theorem sx_asT (τ : Ev → R (Rv × Ev)) (ev : Ev) : asT τ ev = ((τ ev).bind fun q => .ok (q.1.t, q.2)) := rfl
@[simp] theorem sx_asO (τ : Ev → R (Rv × Ev)) (ev : Ev) : asO τ ev = ((τ ev).bind fun q => match q.1 with
  | .o ts => .ok (ts, q.2)
  | .v _ => .bad) := rfl
@[simp] theorem sx_callRK (g : Fn) (pm : {α : Type} → List α → List α) (τ : XRL) (ev : Ev) : callRK g pm τ ev = ((τ ev).bind fun p => backV (g ((pm p.1).map .val)) p.2) := rfl
@[simp] theorem sx_raiseS (x : Str) (τ : XRL) (ev : Ev) : raiseS x τ ev = ((τ ev).bind fun p => match p.1 with
  | [t] => .exc x [("given", t)] p.2
  | _ => .bad) := rfl
@[simp] theorem sx_splitO (τ τ' : XR) (ev : Ev) : splitO τ τ' ev = ((τ ev).bind fun p => match p.1 with
  | .str a => (τ' p.2).bind fun q => R.ofO (tSplit a q.1) q.2
  | _ => .bad) := rfl
@[simp] theorem sb_ok {α β : Type} (a : α) (f : α → R β) : R.bind (.ok a) f = f a := rfl
@[simp] theorem sb_exc {α β : Type} (c : Str) (fs : List (Str × T)) (e : Ev) (f : α → R β) : R.bind (.exc c fs e) f = .exc c fs e := rfl
@[simp] theorem sb_bad {α β : Type} (f : α → R β) : R.bind .bad f = .bad := rfl
@[simp] theorem sx_kT (t : T) (ev : Ev) : kT t ev = .ok (t, ev) := rfl
theorem rd_val {i : Nat} {ev : Ev} {t : T} (h : ev[i]? = some (.val t)) : rd i ev = .ok (t, ev) := by unfold rd; rw [h]
@[simp] theorem rd0 (t : T) (ev : Ev) : rd 0 (.val t :: ev) = .ok (t, .val t :: ev) := rfl
@[simp] theorem sx_rd (i : Nat) (ev : Ev) : rd i ev = (match ev[i]? with
  | some (.val t) => .ok (t, ev)
  | some (.own ts) => .ok (.lst ts, ev.set i (.val (.lst ts)))
  | _ => .bad) := rfl
@[simp] theorem box_no : isBox (some .no) = false := rfl
@[simp] theorem box_val (t : T) : isBox (some (.val t)) = false := rfl
@[simp] theorem box_own (t : List T) : isBox (some (.own t)) = false := rfl
@[simp] theorem box_box (t : List T) : isBox (some (.box t)) = true := rfl
@[simp] theorem slT_val (t : T) : slT (some (.val t)) = some t := rfl
@[simp] theorem slT_own (t : List T) : slT (some (.own t)) = some (.lst t) := rfl
@[simp] theorem slT_box (t : List T) : slT (some (.box t)) = some (.lst t) := rfl
@[simp] theorem sx_ownTs (ev : Ev) (i : Nat) : ownTs ev i = (match ev[i]? with
  | some (.own ts) => some ts
  | some (.box ts) => some ts
  | _ => none) := rfl
@[simp] theorem sx_lstAt (ev : Ev) (i : Nat) : lstAt ev i = (match ev[i]? with
  | some (.own ts) => some ts
  | some (.box ts) => some ts
  | _ => none) := rfl
@[simp] theorem sx_updSl (ev : Ev) (i : Nat) (us : List T) : updSl ev i us = (match ev[i]? with
  | some (.own _) => ev.set i (.own us)
  | some (.box _) => ev.set i (.box us)
  | _ => ev) := rfl
@[simp] theorem backV_ok' (r : Rv) (e ev : Ev) : backV (.ok (r, e)) ev = .ok (r, ev) := rfl
@[simp] theorem backV_exc' (c : Str) (fs : List (Str × T)) (e ev : Ev) : backV (.exc c fs e) ev = .exc c fs ev := rfl
@[simp] theorem backB_own (i : Nat) (r : Rv) (e ev : Ev) (us us' : List T) (h : ev[i]? = some (.own us)) : backB i (.ok (r, .box us' :: e)) ev = .ok (r, ev.set i (.own us')) := by
  simp [backB, putB, h]
@[simp] theorem backB_box (i : Nat) (r : Rv) (e ev : Ev) (us us' : List T) (h : ev[i]? = some (.box us)) : backB i (.ok (r, .box us' :: e)) ev = .ok (r, ev.set i (.box us')) := by
  simp [backB, putB, h]
@[simp] theorem rvt_v (t : T) : Rv.t (.v t) = t := rfl
@[simp] theorem rvt_o (t : List T) : Rv.t (.o t) = .lst t := rfl
@[simp] theorem rvs_v (t : T) : Rv.sl (.v t) = .val t := rfl
@[simp] theorem rvs_o (t : List T) : Rv.sl (.o t) = .own t := rfl
@[simp] theorem pmI_s {α : Type} (l : List α) : pmI l = l := rfl
@[simp] theorem pmS_s {α : Type} (a b : α) : pmS [a, b] = [b, a] := rfl
/-! operations -/
@[simp] theorem tAdd_i (i j : Int) : tAdd (.int i) (.int j) = some (.int (i + j)) := rfl
@[simp] theorem tSub_i (i j : Int) : tSub (.int i) (.int j) = some (.int (i - j)) := rfl
@[simp] theorem tNeg_i (i : Int) : tNeg (.int i) = some (.int (-i)) := rfl
@[simp] theorem tOrd_i (p : Int → Int → Bool) (i j : Int) : tOrd p (.int i) (.int j) = some (.bl (p i j)) := rfl
@[simp] theorem tEq_i (i j : Int) : tEq (.int i) (.int j) = some (.bl (decide (i = j))) := rfl
@[simp] theorem tNe_i (i j : Int) : tNe (.int i) (.int j) = some (.bl (!decide (i = j))) := rfl
@[simp] theorem tEq_s (i j : Str) : tEq (.str i) (.str j) = some (.bl (decide (i = j))) := rfl
@[simp] theorem tNe_s (i j : Str) : tNe (.str i) (.str j) = some (.bl (!decide (i = j))) := rfl
@[simp] theorem tEq_b (i j : Bool) : tEq (.bl i) (.bl j) = some (.bl (decide (i = j))) := rfl
@[simp] theorem tNe_b (i j : Bool) : tNe (.bl i) (.bl j) = some (.bl (!decide (i = j))) := rfl
@[simp] theorem tEq_nil : tEq (.lst []) (.lst []) = some (.bl true) := rfl
@[simp] theorem tIsN_n : tIsN .non .non = some (.bl true) := rfl
@[simp] theorem tIsN_s (x : T) : tIsN x .non = some (.bl x.isNon) := rfl
@[simp] theorem tIsB_b (a b : Bool) : tIsB (.bl a) (.bl b) = some (.bl (decide (a = b))) := rfl
@[simp] theorem non_i (i : Int) : T.isNon (.int i) = false := rfl
@[simp] theorem non_b (i : Bool) : T.isNon (.bl i) = false := rfl
@[simp] theorem non_s (i : Str) : T.isNon (.str i) = false := rfl
@[simp] theorem non_t (i : List T) : T.isNon (.tup i) = false := rfl
@[simp] theorem non_l (i : List T) : T.isNon (.lst i) = false := rfl
@[simp] theorem non_n : T.isNon .non = true := rfl
@[simp] theorem tBool_b (b : Bool) : tBool (.bl b) = some b := rfl
@[simp] theorem tTru_b (b : Bool) : tTru (.bl b) = some b := rfl
@[simp] theorem tAbs_i (i : Int) : tAbs [.int i] = some (.int (i.natAbs : Int)) := by
  show some (T.int (if i < 0 then -i else i)) = _
  congr 2
  omega
@[simp] theorem tInt_i (i : Int) : tInt [.int i] = some (.int i) := rfl
@[simp] theorem tInt_b (b : Bool) : tInt [.bl b] = some (.int (if b then 1 else 0)) := rfl
@[simp] theorem tLen_l (ts : List T) : tLen [.lst ts] = some (.int ts.length) := rfl
@[simp] theorem tLen_t (ts : List T) : tLen [.tup ts] = some (.int ts.length) := rfl
@[simp] theorem tLen_r (ns : List Int) : tLen [.ro ns] = some (.int ns.length) := by simp [tLen, T.items]
@[simp] theorem sl_eq : sizeLine = 16777216 := sizeLine_eq
@[simp] theorem tMax2_i (i j : Int) : tMax2 [.int i, .int j] = some (.int (if j > i then j else i)) := rfl
@[simp] theorem tMin2_i (i j : Int) : tMin2 [.int i, .int j] = some (.int (if j < i then j else i)) := rfl
@[simp] theorem tTup_l (ts : List T) : tTup [.lst ts] = some (.tup ts) := rfl
@[simp] theorem tTup_t (ts : List T) : tTup [.tup ts] = some (.tup ts) := rfl
@[simp] theorem tAll_l (bs : List Bool) : tAll [.lst (bs.map T.bl)] = some (.bl (bs.all id)) := by
  show (asBls (bs.map T.bl)).map _ = _
  simp
@[simp] theorem tSum_l (ns : List Int) : tSum [.lst (ns.map T.int)] = some (.int ns.sum) := by
  show (asInts (ns.map T.int)).map _ = _
  simp
@[simp] theorem isi_i (n : Ty) (i : Int) : tIsi [.int i, .ty n] = some (.bl (Ty.isi .int n)) := rfl
@[simp] theorem isi_b (n : Ty) (i : Bool) : tIsi [.bl i, .ty n] = some (.bl (Ty.isi .bl n)) := rfl
@[simp] theorem isi_s (n : Ty) (i : Str) : tIsi [.str i, .ty n] = some (.bl (Ty.isi .str n)) := rfl
@[simp] theorem isi_n (n : Ty) : tIsi [.non, .ty n] = some (.bl (Ty.isi .non n)) := rfl
@[simp] theorem isi_t (n : Ty) (i : List T) : tIsi [.tup i, .ty n] = some (.bl (Ty.isi .tup n)) := rfl
@[simp] theorem isi_l (n : Ty) (i : List T) : tIsi [.lst i, .ty n] = some (.bl (Ty.isi .lst n)) := rfl
@[simp] theorem isi2_t (m n : Ty) (i : List T) : tIsi2 m n (.tup i) = some (.bl (Ty.isi .tup m || Ty.isi .tup n)) := rfl
@[simp] theorem isi2_l (m n : Ty) (i : List T) : tIsi2 m n (.lst i) = some (.bl (Ty.isi .lst m || Ty.isi .lst n)) := rfl
@[simp] theorem isi2_i (m n : Ty) (i : Int) : tIsi2 m n (.int i) = some (.bl (Ty.isi .int m || Ty.isi .int n)) := rfl
@[simp] theorem tyi (a b : Ty) : Ty.isi a b = (decide (a = b) || (decide (a = .bl) && decide (b = .int))) := rfl
@[simp] theorem tIx_t (xs : List T) (i : Int) : tIx (.tup xs) (.int i) = atI xs i := rfl
@[simp] theorem tIx_l (xs : List T) (i : Int) : tIx (.lst xs) (.int i) = atI xs i := rfl
@[simp] theorem tIx_r (xs : List Int) (i : Int) : tIx (.ro xs) (.int i) = (atI xs i).map .int := rfl
theorem atI_nat' {α : Type} (xs : List α) (n : Nat) : atI xs (n : Int) = xs[n]? := by
  unfold atI ixN
  rw [if_pos (by omega)]
  by_cases h : n < xs.length
  · rw [if_pos (by omega)]; simp
  · rw [if_neg (by omega), List.getElem?_eq_none (by omega)]; rfl
@[simp] theorem atI_0 {α : Type} (xs : List α) : atI xs 0 = xs[0]? := atI_nat' xs 0
@[simp] theorem atI_1 {α : Type} (xs : List α) : atI xs 1 = xs[1]? := atI_nat' xs 1
@[simp] theorem atI_2 {α : Type} (xs : List α) : atI xs 2 = xs[2]? := atI_nat' xs 2
@[simp] theorem atI_3 {α : Type} (xs : List α) : atI xs 3 = xs[3]? := atI_nat' xs 3
@[simp] theorem ixN_0 (n : Nat) (h : 0 < n) : ixN n 0 = some 0 := by
  unfold ixN
  rw [if_pos (by omega), if_pos (by omega)]; rfl
@[simp] theorem ixN_3 (n : Nat) (h : 3 < n) : ixN n 3 = some 3 := by
  unfold ixN
  rw [if_pos (by omega), if_pos (by omega)]; rfl
@[simp] theorem walk_t (ts : List T) : T.walk (.tup ts) = some ts := rfl
@[simp] theorem walk_l (ts : List T) : T.walk (.lst ts) = some ts := rfl
@[simp] theorem walk_s (x : Str) : T.walk (.str x) = some (x.cps.toList.map fun c => .str ⟨#[c]⟩) := rfl
@[simp] theorem noX_ok {α : Type} (a : α) : (R.ok a).noX = .ok a := rfl
theorem line4 {n : Nat} (h : n ≤ 1000) : n ≤ sizeLine := Nat.le_of_lt (small1000 h)
end PH
set_option Elab.async false
set_option linter.all false
set_option maxRecDepth 100000
namespace PH
open PySem PySem.Spec PyProof.Rows L2
def topS (i : Nat) : Stmt := PySem.Challenge.pw_seatlots_k02_fractions_next_to_one_anoth.main.body.getD i (.Pass ⟨0, 0, 0, 0⟩)
def c_DIGITS : T := .str "0123456789"
def c_ZERO : T := .tup [.int 0, .int 1]
def fuel2 : Ev → Nat := fun ev => match ev[1]? with
  | some (Sl.val (T.int i)) => i.natAbs + 1
  | _ => 0
structure Er (K : PySem.W.Frag) (mg : Str → Option Value) (x : Str) : Prop where
  ex : ∃ (qn : Str) (c i : Addr), Gv.Txt K mg x qn c i
theorem Er.errs {X : Cx} {x : Str} {k : Nat} (h : Er X.K X.mg x) (hr : Room k X.A) : Errs X x := by
  obtain ⟨qn, c, i, T⟩ := h.ex
  exact ⟨k, qn, c, i, T, hr⟩
structure Ec (K : PySem.W.Frag) (mg : Str → Option Value) (x : Str) : Prop where
  ex : ∃ C : Addr, mg x = some (.ref C) ∧ XfC K C ∧ PySem.W.findIn K (.ref C) "given" = some none ∧ PySem.W.exmOne K (.ref C) (.ref C) = some true
theorem Ec.errc {X : Cx} {x : Str} (h : Ec X.K X.mg x) : ErrC X x := ⟨h.ex⟩
theorem Kn.zero {P : Program} {w : World} {K : PySem.W.Frag} {mg : Str → Option Value} {base : Heap} {x : Str} {n : Nat} {st : Stmt} {ps : List Str} (D : Df K mg x st)
    (hb : ∀ (kV doc pm : Value) (an : Option Addr) (cdv ct : Value) (us : List Value), us.length = ps.length → bindArgs (PySem.W.fnOf x x (defArgs st) (defBody st) (defScope st) .none kV doc pm an cdv ct) ⟨us, []⟩ = pure (ps.zip us)) (hn : ps.length = n := by rfl) : Kn P w K mg base 0 x n (fun _ => .bad) := by
  refine Kn.mk' D hn (fun f fd F => ⟨fun vs H Q E h => h.1, fun A outer s H args us vs Q E hr e0 hbd r h => ?_⟩) hb
  obtain ⟨_, Z, ev, I, p⟩ := h
  exact p.elim
theorem BdH.units {X : Cx} {W : WX} {k : Nat} (b : BdH X W k) : X.A.units + 64 < cLine := by have := b.room.un; omega
abbrev s_is_integer : Stmt := topS 8
theorem sc_is_integer : FnScope ["value"] ["value"] (defScope s_is_integer) := ⟨rfl, rfl, rfl, by decide +kernel, rfl, by decide +kernel, by decide +kernel⟩
abbrev s_is_list : Stmt := topS 9
theorem sc_is_list : FnScope ["value"] ["value"] (defScope s_is_list) := ⟨rfl, rfl, rfl, by decide +kernel, rfl, by decide +kernel, by decide +kernel⟩
abbrev s_is_plain : Stmt := topS 10
theorem sc_is_plain : FnScope ["text", "digits", "sign"] ["text"] (defScope s_is_plain) := ⟨rfl, rfl, rfl, by decide +kernel, rfl, by decide +kernel, by decide +kernel⟩
abbrev s_divisor : Stmt := topS 13
theorem sc_divisor : FnScope ["one", "other"] ["one", "other"] (defScope s_divisor) := ⟨rfl, rfl, rfl, by decide +kernel, rfl, by decide +kernel, by decide +kernel⟩
abbrev s_lowest : Stmt := topS 14
theorem sc_lowest : FnScope ["top", "base", "part"] ["top", "base"] (defScope s_lowest) := ⟨rfl, rfl, rfl, by decide +kernel, rfl, by decide +kernel, by decide +kernel⟩
abbrev s_is_fraction : Stmt := topS 15
theorem sc_is_fraction : FnScope ["value", "part"] ["value"] (defScope s_is_fraction) := ⟨rfl, rfl, rfl, by decide +kernel, rfl, by decide +kernel, by decide +kernel⟩
abbrev s_check_fraction : Stmt := topS 16
theorem sc_check_fraction : FnScope ["value"] ["value"] (defScope s_check_fraction) := ⟨rfl, rfl, rfl, by decide +kernel, rfl, by decide +kernel, by decide +kernel⟩
abbrev s_check_two : Stmt := topS 17
theorem sc_check_two : FnScope ["one", "other"] ["one", "other"] (defScope s_check_two) := ⟨rfl, rfl, rfl, by decide +kernel, rfl, by decide +kernel, by decide +kernel⟩
abbrev s_low : Stmt := topS 18
theorem sc_low : FnScope ["top", "base"] ["top", "base"] (defScope s_low) := ⟨rfl, rfl, rfl, by decide +kernel, rfl, by decide +kernel, by decide +kernel⟩
abbrev s_plus : Stmt := topS 19
theorem sc_plus : FnScope ["one", "other"] ["one", "other"] (defScope s_plus) := ⟨rfl, rfl, rfl, by decide +kernel, rfl, by decide +kernel, by decide +kernel⟩
abbrev s_minus : Stmt := topS 20
theorem sc_minus : FnScope ["one", "other"] ["one", "other"] (defScope s_minus) := ⟨rfl, rfl, rfl, by decide +kernel, rfl, by decide +kernel, by decide +kernel⟩
abbrev s_times : Stmt := topS 21
theorem sc_times : FnScope ["one", "other"] ["one", "other"] (defScope s_times) := ⟨rfl, rfl, rfl, by decide +kernel, rfl, by decide +kernel, by decide +kernel⟩
abbrev s_over : Stmt := topS 22
theorem sc_over : FnScope ["one", "other"] ["one", "other"] (defScope s_over) := ⟨rfl, rfl, rfl, by decide +kernel, rfl, by decide +kernel, by decide +kernel⟩
abbrev s_compared : Stmt := topS 23
theorem sc_compared : FnScope ["one", "other", "left", "right"] ["one", "other"] (defScope s_compared) := ⟨rfl, rfl, rfl, by decide +kernel, rfl, by decide +kernel, by decide +kernel⟩
abbrev s_floor_of : Stmt := topS 24
theorem sc_floor_of : FnScope ["fraction"] ["fraction"] (defScope s_floor_of) := ⟨rfl, rfl, rfl, by decide +kernel, rfl, by decide +kernel, by decide +kernel⟩
abbrev s_ceiling_of : Stmt := topS 25
theorem sc_ceiling_of : FnScope ["fraction"] ["fraction"] (defScope s_ceiling_of) := ⟨rfl, rfl, rfl, by decide +kernel, rfl, by decide +kernel, by decide +kernel⟩
abbrev s_text_of : Stmt := topS 26
theorem sc_text_of : FnScope ["fraction"] ["fraction"] (defScope s_text_of) := ⟨rfl, rfl, rfl, by decide +kernel, rfl, by decide +kernel, by decide +kernel⟩
abbrev s_fraction_in : Stmt := topS 27
theorem sc_fraction_in : FnScope ["text", "parts", "part", "found"] ["text"] (defScope s_fraction_in) := ⟨rfl, rfl, rfl, by decide +kernel, rfl, by decide +kernel, by decide +kernel⟩
abbrev s_fraction_text : Stmt := topS 28
theorem sc_fraction_text : FnScope ["fraction"] ["fraction"] (defScope s_fraction_text) := ⟨rfl, rfl, rfl, by decide +kernel, rfl, by decide +kernel, by decide +kernel⟩
abbrev s_read_fraction : Stmt := topS 29
theorem sc_read_fraction : FnScope ["text", "found"] ["text"] (defScope s_read_fraction) := ⟨rfl, rfl, rfl, by decide +kernel, rfl, by decide +kernel, by decide +kernel⟩
abbrev s_check_fractions : Stmt := topS 30
theorem sc_check_fractions : FnScope ["fractions", "value"] ["fractions"] (defScope s_check_fractions) := ⟨rfl, rfl, rfl, by decide +kernel, rfl, by decide +kernel, by decide +kernel⟩
abbrev s_base_of : Stmt := topS 31
theorem sc_base_of : FnScope ["fractions", "base", "fraction"] ["fractions"] (defScope s_base_of) := ⟨rfl, rfl, rfl, by decide +kernel, rfl, by decide +kernel, by decide +kernel⟩
abbrev s_common_base : Stmt := topS 32
theorem sc_common_base : FnScope ["fractions", "base", "top", "part"] ["fractions"] (defScope s_common_base) := ⟨rfl, rfl, rfl, by decide +kernel, rfl, by decide +kernel, by decide +kernel⟩
abbrev s_total_of : Stmt := topS 33
theorem sc_total_of : FnScope ["fractions", "base", "tops"] ["fractions"] (defScope s_total_of) := ⟨rfl, rfl, rfl, by decide +kernel, rfl, by decide +kernel, by decide +kernel⟩
abbrev s__law_cell : Stmt := topS 35
theorem sc__law_cell : FnScope ["script", "k"] ["script", "k"] (defScope s__law_cell) := ⟨rfl, rfl, rfl, by decide +kernel, rfl, by decide +kernel, by decide +kernel⟩
abbrev s__law_box : Stmt := topS 36
theorem sc__law_box : FnScope ["great"] ["great"] (defScope s__law_box) := ⟨rfl, rfl, rfl, by decide +kernel, rfl, by decide +kernel, by decide +kernel⟩
abbrev s__law_take : Stmt := topS 37
theorem sc__law_take : FnScope ["box", "many", "digit", "mixed"] ["box", "many"] (defScope s__law_take) := ⟨rfl, rfl, rfl, by decide +kernel, rfl, by decide +kernel, by decide +kernel⟩
abbrev s__law_same : Stmt := topS 38
theorem sc__law_same : FnScope ["told", "due", "k", "key"] ["told", "due"] (defScope s__law_same) := ⟨rfl, rfl, rfl, by decide +kernel, rfl, by decide +kernel, by decide +kernel⟩
abbrev s__law_divisor : Stmt := topS 39
theorem sc__law_divisor : FnScope ["one", "other"] ["one", "other"] (defScope s__law_divisor) := ⟨rfl, rfl, rfl, by decide +kernel, rfl, by decide +kernel, by decide +kernel⟩
abbrev s__law_low : Stmt := topS 40
theorem sc__law_low : FnScope ["top", "base", "part"] ["top", "base"] (defScope s__law_low) := ⟨rfl, rfl, rfl, by decide +kernel, rfl, by decide +kernel, by decide +kernel⟩
abbrev s__law_beside : Stmt := topS 41
theorem sc__law_beside : FnScope ["box", "limit", "widest", "first", "one", "other", "turn", "digit", "further"] ["box"] (defScope s__law_beside) := ⟨rfl, rfl, rfl, by decide +kernel, rfl, by decide +kernel, by decide +kernel⟩
abbrev s__law_some : Stmt := topS 42
theorem sc__law_some : FnScope ["box", "one", "other", "found", "base", "number", "top"] ["box"] (defScope s__law_some) := ⟨rfl, rfl, rfl, by decide +kernel, rfl, by decide +kernel, by decide +kernel⟩
abbrev s__law_asked : Stmt := topS 43
theorem sc__law_asked : FnScope ["word", "one", "other", "named"] ["word", "one", "other", "named"] (defScope s__law_asked) := ⟨rfl, rfl, rfl, by decide +kernel, rfl, by decide +kernel, by decide +kernel⟩
abbrev s__law_pairs_right : Stmt := topS 44
theorem sc__law_pairs_right : FnScope ["some", "named", "one", "other", "left", "right", "top"] ["some", "named"] (defScope s__law_pairs_right) := ⟨rfl, rfl, rfl, by decide +kernel, rfl, by decide +kernel, by decide +kernel⟩
abbrev s__law_each_right : Stmt := topS 45
theorem sc__law_each_right : FnScope ["some", "named", "one", "due", "told", "base", "tops"] ["some", "named"] (defScope s__law_each_right) := ⟨rfl, rfl, rfl, by decide +kernel, rfl, by decide +kernel, by decide +kernel⟩
abbrev s__law_divisors_right : Stmt := topS 46
theorem sc__law_divisors_right : FnScope ["box", "named", "great", "top", "base", "sign", "due", "wide", "text", "e", "one", "other", "less", "rows", "word", "first", "second", "answer"] ["box", "named"] (defScope s__law_divisors_right) := ⟨rfl, rfl, rfl, by decide +kernel, rfl, by decide +kernel, by decide +kernel⟩
abbrev s_law : Stmt := topS 47
theorem sc_law : FnScope ["script", "k", "box", "named", "turn", "some"] ["script"] (defScope s_law) := ⟨rfl, rfl, rfl, by decide +kernel, rfl, by decide +kernel, by decide +kernel⟩
structure Md (K : PySem.W.Frag) (mg : Str → Option Value) : Prop where
  d_is_integer : Df K mg "is_integer" s_is_integer
  d_is_list : Df K mg "is_list" s_is_list
  d_is_plain : Df K mg "is_plain" s_is_plain
  d_divisor : Df K mg "divisor" s_divisor
  d_lowest : Df K mg "lowest" s_lowest
  d_is_fraction : Df K mg "is_fraction" s_is_fraction
  d_check_fraction : Df K mg "check_fraction" s_check_fraction
  d_check_two : Df K mg "check_two" s_check_two
  d_low : Df K mg "low" s_low
  d_plus : Df K mg "plus" s_plus
  d_minus : Df K mg "minus" s_minus
  d_times : Df K mg "times" s_times
  d_over : Df K mg "over" s_over
  d_compared : Df K mg "compared" s_compared
  d_floor_of : Df K mg "floor_of" s_floor_of
  d_ceiling_of : Df K mg "ceiling_of" s_ceiling_of
  d_text_of : Df K mg "text_of" s_text_of
  d_fraction_in : Df K mg "fraction_in" s_fraction_in
  d_fraction_text : Df K mg "fraction_text" s_fraction_text
  d_read_fraction : Df K mg "read_fraction" s_read_fraction
  d_check_fractions : Df K mg "check_fractions" s_check_fractions
  d_base_of : Df K mg "base_of" s_base_of
  d_common_base : Df K mg "common_base" s_common_base
  d_total_of : Df K mg "total_of" s_total_of
  d__law_cell : Df K mg "_law_cell" s__law_cell
  d__law_box : Df K mg "_law_box" s__law_box
  d__law_take : Df K mg "_law_take" s__law_take
  d__law_same : Df K mg "_law_same" s__law_same
  d__law_divisor : Df K mg "_law_divisor" s__law_divisor
  d__law_low : Df K mg "_law_low" s__law_low
  d__law_beside : Df K mg "_law_beside" s__law_beside
  d__law_some : Df K mg "_law_some" s__law_some
  d__law_asked : Df K mg "_law_asked" s__law_asked
  d__law_pairs_right : Df K mg "_law_pairs_right" s__law_pairs_right
  d__law_each_right : Df K mg "_law_each_right" s__law_each_right
  d__law_divisors_right : Df K mg "_law_divisors_right" s__law_divisors_right
  d_law : Df K mg "law" s_law
  n_abs : mg "abs" = none
  n_all : mg "all" = none
  n_bool : mg "bool" = none
  n_dict : mg "dict" = none
  n_int : mg "int" = none
  n_isinstance : mg "isinstance" = none
  n_len : mg "len" = none
  n_list : mg "list" = none
  n_max : mg "max" = none
  n_min : mg "min" = none
  n_range : mg "range" = none
  n_str : mg "str" = none
  n_sum : mg "sum" = none
  n_tuple : mg "tuple" = none
  c_DIGITS : Gc ⟨K, mg⟩ "DIGITS" c_DIGITS
  c_ZERO : Gc ⟨K, mg⟩ "ZERO" c_ZERO
  e_InvalidText : Er K mg "InvalidText"
  k_InvalidText : Ec K mg "InvalidText"
set_option maxHeartbeats 4000000
def t_is_integer : XRS := (retS (andV (callA tIsi (consA (rd 0) (consA (kT (.ty .int)) nilA))) (notV (callA tIsi (consA (rd 0) (consA (kT (.ty .bl)) nilA))))))
def g_is_integer : Fn := runFn 1 t_is_integer
theorem kf_is_integer {P : Program} {w : World} {K : PySem.W.Frag} {mg : Str → Option Value} {base : Heap} (M : Md K mg) {f : Addr} {fd : FuncData} (F : Fun K "is_integer" "is_integer" s_is_integer f fd) : FnT P w K mg base 1 f fd ["value"] g_is_integer :=
  Fun.okT (τ := t_is_integer) F sc_is_integer (fun cdv A outer s H E b => 
    (xss_one (xs_ret (xe_and (xe_isi rfl M.n_isinstance (xa_cons (xe_name 0) (xa_cons (xe_ty .int rfl M.n_int) xa_nil))) (xe_one (xe_not (xe_isi rfl M.n_isinstance (xa_cons (xe_name 0) (xa_cons (xe_ty .bl rfl M.n_bool) xa_nil))))))))) runFn_spec (by decide)
theorem kn_is_integer {P : Program} {w : World} {K : PySem.W.Frag} {mg : Str → Option Value} {base : Heap} (M : Md K mg) : Kn P w K mg base 1 "is_integer" 1 g_is_integer :=
  Kn.mk' (ps := ["value"]) M.d_is_integer rfl (fun f fd F => kf_is_integer M F) (fun _ _ _ _ _ _ us hl => match us, hl with | [_], _ => rfl)
def t_is_list : XRS := (retS (e1 (tIsi2 .lst .tup) (rd 0)))
def g_is_list : Fn := runFn 1 t_is_list
theorem kf_is_list {P : Program} {w : World} {K : PySem.W.Frag} {mg : Str → Option Value} {base : Heap} (M : Md K mg) {f : Addr} {fd : FuncData} (F : Fun K "is_list" "is_list" s_is_list f fd) : FnT P w K mg base 1 f fd ["value"] g_is_list :=
  Fun.okT (τ := t_is_list) F sc_is_list (fun cdv A outer s H E b => 
    (xss_one (xs_ret (xe_isi2 .lst .tup rfl M.n_isinstance (xe_name 0) rfl M.n_list rfl M.n_tuple)))) runFn_spec (by decide)
theorem kn_is_list {P : Program} {w : World} {K : PySem.W.Frag} {mg : Str → Option Value} {base : Heap} (M : Md K mg) : Kn P w K mg base 1 "is_list" 1 g_is_list :=
  Kn.mk' (ps := ["value"]) M.d_is_list rfl (fun f fd F => kf_is_list M F) (fun _ _ _ _ _ _ us hl => match us, hl with | [_], _ => rfl)
def t_is_plain : XRS := (seqS (setS 1 (ifE (cmpB tEq (slcN 0 noP (asP (kT (.int 1)))) (kT (.str "-"))) (slcN 0 (asP (kT (.int 1))) noP) (rd 0)))
    (seqS (ifS (orB (cmpB tEq (rd 1) (kT (.str ""))) (notB (b1 tTru (callA tAll (consA (gives (lcS (seqI (rd 1)) (gN 2) yesB (e2 tInS (rd 2) (kT c_DIGITS)) [2])) nilA))))) (retS (kT (.bl false))) nextS)
    (retS (orV (e2 tNe (slIx 1 (kT (.int 0))) (kT (.str "0"))) (e2 tEq (rd 0) (kT (.str "0")))))))
def g_is_plain : Fn := runFn 3 t_is_plain
theorem kf_is_plain {P : Program} {w : World} {K : PySem.W.Frag} {mg : Str → Option Value} {base : Heap} (M : Md K mg) {f : Addr} {fd : FuncData} (F : Fun K "is_plain" "is_plain" s_is_plain f fd) : FnT P w K mg base 1 f fd ["text"] g_is_plain :=
  Fun.okT (τ := t_is_plain) F sc_is_plain (fun cdv A outer s H E b => 
    (xss_cons (xs_set 1 sc_is_plain.nd (xe_if (xt_eq b.units (xe_slN 0 xp_none (xp_some xe_int)) xe_str) (xe_slN 0 (xp_some xe_int) xp_none) (xe_name 0)))
    (xss_cons (xs_if (xt_w (xw_or (xt_eq b.units (xe_name 1) xe_str) (xw_or1 (xt_not (xt_truth (xe_all rfl rfl M.n_all (xa_cons (xe_o (xo_lc rfl sc_is_plain.nd (xi_seq (xe_name 1)) (own := [("sign", 2)]) (blk_of (by rfl) (by first | rfl | kernel_rfl)) (fun _ _ _ _ _ => (xg_name 2 sc_is_plain.nd)) (fun _ _ _ _ _ => (xe_inS (xe_name 2) (xe_gc M.c_DIGITS))))) xa_nil))))))) (xss_one (xs_ret xe_bl)) xss_nil)
    (xss_one (xs_ret (xe_or (xe_ne b.units (xe_ixN 1 xe_int) xe_str) (xe_one (xe_eq b.units (xe_name 0) xe_str)))))))) runFn_spec (by decide)
theorem kn_is_plain {P : Program} {w : World} {K : PySem.W.Frag} {mg : Str → Option Value} {base : Heap} (M : Md K mg) : Kn P w K mg base 1 "is_plain" 1 g_is_plain :=
  Kn.mk' (ps := ["text"]) M.d_is_plain rfl (fun f fd F => kf_is_plain M F) (fun _ _ _ _ _ _ us hl => match us, hl with | [_], _ => rfl)
def t_divisor : XRS := (seqS (parS [0, 1] (consMv (callA tAbs (consA (rd 0) nilA)) (consMv (callA tAbs (consA (rd 1) nilA)) nilM)))
    (seqS (whileS fuel2 (cmpB tNe (rd 1) (kT (.int 0))) (parS [0, 1] (consMv (rd 1) (consMv (e2 tMod (rd 0) (rd 1)) nilM))))
    (retS (rd 0))))
def g_divisor : Fn := runFn 2 t_divisor
theorem kf_divisor {P : Program} {w : World} {K : PySem.W.Frag} {mg : Str → Option Value} {base : Heap} (M : Md K mg) {f : Addr} {fd : FuncData} (F : Fun K "divisor" "divisor" s_divisor f fd) : FnT P w K mg base 1 f fd ["one", "other"] g_divisor :=
  Fun.okT (τ := t_divisor) F sc_divisor (fun cdv A outer s H E b => 
    (xss_cons (xs_par 0 1 rfl sc_divisor.nd (xm_v (xe_abs rfl M.n_abs (xa_cons (xe_name 0) xa_nil)) (xm_v (xe_abs rfl M.n_abs (xa_cons (xe_name 1) xa_nil)) xm_nil)))
    (xss_cons (xs_while fuel2 b.own (xt_ne b.units (xe_name 1) xe_int) (xss_one (xs_par 0 1 rfl sc_divisor.nd (xm_v (xe_name 1) (xm_v (xe_mod (xe_name 0) (xe_name 1)) xm_nil)))))
    (xss_one (xs_ret (xe_name 0)))))) runFn_spec (by decide)
theorem kn_divisor {P : Program} {w : World} {K : PySem.W.Frag} {mg : Str → Option Value} {base : Heap} (M : Md K mg) : Kn P w K mg base 1 "divisor" 2 g_divisor :=
  Kn.mk' (ps := ["one", "other"]) M.d_divisor rfl (fun f fd F => kf_divisor M F) (fun _ _ _ _ _ _ us hl => match us, hl with | [_, _], _ => rfl)
def t_lowest : XRS := (seqS (setS 2 (ifE (cmpB tGt (rd 1) (kT (.int 0))) (asT (callR g_divisor (consA (rd 0) (consA (rd 1) nilA)))) (e1 tNeg (asT (callR g_divisor (consA (rd 0) (consA (rd 1) nilA)))))))
    (retS (tupE (consA (e2 tDiv (rd 0) (rd 2)) (consA (e2 tDiv (rd 1) (rd 2)) nilA)))))
def g_lowest : Fn := runFn 3 t_lowest
theorem kf_lowest {P : Program} {w : World} {K : PySem.W.Frag} {mg : Str → Option Value} {base : Heap} (M : Md K mg) (h_divisor : Kn P w K mg base 1 "divisor" 2 g_divisor) {f : Addr} {fd : FuncData} (F : Fun K "lowest" "lowest" s_lowest f fd) : FnT P w K mg base 2 f fd ["top", "base"] g_lowest :=
  Fun.okT (τ := t_lowest) F sc_lowest (fun cdv A outer s H E b => 
    (xss_cons (xs_set 2 sc_lowest.nd (xe_if (xt_gt (xe_name 1) xe_int) (XV.toE (xv_call (h_divisor.cal b.room) b.tk (xa_cons (xe_name 0) (xa_cons (xe_name 1) xa_nil)) (len_cons (len_cons len_nil)))) (xe_neg (XV.toE (xv_call (h_divisor.cal b.room) b.tk (xa_cons (xe_name 0) (xa_cons (xe_name 1) xa_nil)) (len_cons (len_cons len_nil)))))))
    (xss_one (xs_ret (xe_tup (xa_cons (xe_div (xe_name 0) (xe_name 2)) (xa_cons (xe_div (xe_name 1) (xe_name 2)) xa_nil))))))) runFn_spec (by decide)
theorem kn_lowest {P : Program} {w : World} {K : PySem.W.Frag} {mg : Str → Option Value} {base : Heap} (M : Md K mg) (h_divisor : Kn P w K mg base 1 "divisor" 2 g_divisor) : Kn P w K mg base 2 "lowest" 2 g_lowest :=
  Kn.mk' (ps := ["top", "base"]) M.d_lowest rfl (fun f fd F => kf_lowest M h_divisor F) (fun _ _ _ _ _ _ us hl => match us, hl with | [_, _], _ => rfl)
def t_is_fraction : XRS := (seqS (ifS (orB (notB (b1 tTru (callA tIsi (consA (rd 0) (consA (kT (.ty .tup)) nilA))))) (orB (cmpB tNe (slLen 0) (kT (.int 2))) (notB (b1 tTru (callA tAll (consA (gives (lcS (seqI (rd 0)) (gN 1) yesB (asT (callR g_is_integer (consA (rd 1) nilA))) [1])) nilA)))))) (retS (kT (.bl false))) nextS)
    (retS (andV (e2 tGt (slIx 0 (kT (.int 1))) (kT (.int 0))) (e2 tEq (asT (callR g_divisor (consA (slIx 0 (kT (.int 0))) (consA (slIx 0 (kT (.int 1))) nilA)))) (kT (.int 1))))))
def g_is_fraction : Fn := runFn 2 t_is_fraction
theorem kf_is_fraction {P : Program} {w : World} {K : PySem.W.Frag} {mg : Str → Option Value} {base : Heap} (M : Md K mg) (h_is_integer : Kn P w K mg base 1 "is_integer" 1 g_is_integer) (h_divisor : Kn P w K mg base 1 "divisor" 2 g_divisor) {f : Addr} {fd : FuncData} (F : Fun K "is_fraction" "is_fraction" s_is_fraction f fd) : FnT P w K mg base 2 f fd ["value"] g_is_fraction :=
  Fun.okT (τ := t_is_fraction) F sc_is_fraction (fun cdv A outer s H E b => 
    (xss_cons (xs_if (xt_w (xw_or (xt_not (xt_truth (xe_isi rfl M.n_isinstance (xa_cons (xe_name 0) (xa_cons (xe_ty .tup rfl M.n_tuple) xa_nil))))) (xw_or (xt_ne b.units (xe_lenN 0 rfl M.n_len) xe_int) (xw_or1 (xt_not (xt_truth (xe_all rfl rfl M.n_all (xa_cons (xe_o (xo_lc rfl sc_is_fraction.nd (xi_seq (xe_name 0)) (own := [("part", 1)]) (blk_of (by rfl) (by first | rfl | kernel_rfl)) (fun _ _ _ _ _ => (xg_name 1 sc_is_fraction.nd)) (fun _ _ _ _ _ => (XV.toE (xv_call (h_is_integer.cal b.room) takesF (xa_cons (xe_name 1) xa_nil) (len_cons len_nil)))))) xa_nil)))))))) (xss_one (xs_ret xe_bl)) xss_nil)
    (xss_one (xs_ret (xe_and (xe_gt (xe_ixN 0 xe_int) xe_int) (xe_one (xe_eq b.units (XV.toE (xv_call (h_divisor.cal b.room) b.tk (xa_cons (xe_ixN 0 xe_int) (xa_cons (xe_ixN 0 xe_int) xa_nil)) (len_cons (len_cons len_nil)))) xe_int))))))) runFn_spec (by decide)
theorem kn_is_fraction {P : Program} {w : World} {K : PySem.W.Frag} {mg : Str → Option Value} {base : Heap} (M : Md K mg) (h_is_integer : Kn P w K mg base 1 "is_integer" 1 g_is_integer) (h_divisor : Kn P w K mg base 1 "divisor" 2 g_divisor) : Kn P w K mg base 2 "is_fraction" 1 g_is_fraction :=
  Kn.mk' (ps := ["value"]) M.d_is_fraction rfl (fun f fd F => kf_is_fraction M h_is_integer h_divisor F) (fun _ _ _ _ _ _ us hl => match us, hl with | [_], _ => rfl)
theorem knk_is_fraction_value {P : Program} {w : World} {K : PySem.W.Frag} {mg : Str → Option Value} {base : Heap} (M : Md K mg) (h_is_integer : Kn P w K mg base 1 "is_integer" 1 g_is_integer) (h_divisor : Kn P w K mg base 1 "divisor" 2 g_divisor) : KnK P w K mg base 2 "is_fraction" 1 ["value"] pmI g_is_fraction :=
  KnK.mk' (ps := ["value"]) M.d_is_fraction rfl (fun f fd F => kf_is_fraction M h_is_integer h_divisor F) (fun _ _ _ _ _ _ ws hl => match ws, hl with | [_], _ => rfl)
def t_check_fraction : XRS := (ifS (notB (b1 tTru (asT (callR g_is_fraction (consA (rd 0) nilA))))) (fun _ => .bad) nextS)
def g_check_fraction : Fn := runFn 1 t_check_fraction
theorem kf_check_fraction {P : Program} {w : World} {K : PySem.W.Frag} {mg : Str → Option Value} {base : Heap} (M : Md K mg) (h_is_fraction : Kn P w K mg base 2 "is_fraction" 1 g_is_fraction) {f : Addr} {fd : FuncData} (F : Fun K "check_fraction" "check_fraction" s_check_fraction f fd) : FnT P w K mg base 3 f fd ["value"] g_check_fraction :=
  Fun.okT (τ := t_check_fraction) F sc_check_fraction (fun cdv A outer s H E b => 
    (xss_one (xs_if (xt_not (xt_truth (XV.toE (xv_call (h_is_fraction.cal b.room) b.tk (xa_cons (xe_name 0) xa_nil) (len_cons len_nil))))) xss_never xss_nil))) runFn_spec (by decide)
theorem kn_check_fraction {P : Program} {w : World} {K : PySem.W.Frag} {mg : Str → Option Value} {base : Heap} (M : Md K mg) (h_is_fraction : Kn P w K mg base 2 "is_fraction" 1 g_is_fraction) : Kn P w K mg base 3 "check_fraction" 1 g_check_fraction :=
  Kn.mk' (ps := ["value"]) M.d_check_fraction rfl (fun f fd F => kf_check_fraction M h_is_fraction F) (fun _ _ _ _ _ _ us hl => match us, hl with | [_], _ => rfl)
def t_check_two : XRS := (seqS (dropS (asT (callR g_check_fraction (consA (rd 0) nilA))))
    (dropS (asT (callR g_check_fraction (consA (rd 1) nilA)))))
def g_check_two : Fn := runFn 2 t_check_two
theorem kf_check_two {P : Program} {w : World} {K : PySem.W.Frag} {mg : Str → Option Value} {base : Heap} (M : Md K mg) (h_check_fraction : Kn P w K mg base 3 "check_fraction" 1 g_check_fraction) {f : Addr} {fd : FuncData} (F : Fun K "check_two" "check_two" s_check_two f fd) : FnT P w K mg base 4 f fd ["one", "other"] g_check_two :=
  Fun.okT (τ := t_check_two) F sc_check_two (fun cdv A outer s H E b => 
    (xss_cons (xs_expr (XV.toE (xv_call (h_check_fraction.cal b.room) b.tk (xa_cons (xe_name 0) xa_nil) (len_cons len_nil))))
    (xss_one (xs_expr (XV.toE (xv_call (h_check_fraction.cal b.room) b.tk (xa_cons (xe_name 1) xa_nil) (len_cons len_nil))))))) runFn_spec (by decide)
theorem kn_check_two {P : Program} {w : World} {K : PySem.W.Frag} {mg : Str → Option Value} {base : Heap} (M : Md K mg) (h_check_fraction : Kn P w K mg base 3 "check_fraction" 1 g_check_fraction) : Kn P w K mg base 4 "check_two" 2 g_check_two :=
  Kn.mk' (ps := ["one", "other"]) M.d_check_two rfl (fun f fd F => kf_check_two M h_check_fraction F) (fun _ _ _ _ _ _ us hl => match us, hl with | [_, _], _ => rfl)
def t_low : XRS := (seqS (ifS (notB (b1 tTru (asT (callR g_is_integer (consA (rd 0) nilA))))) (fun _ => .bad) nextS)
    (seqS (ifS (orB (notB (b1 tTru (asT (callR g_is_integer (consA (rd 1) nilA))))) (cmpB tEq (rd 1) (kT (.int 0)))) (fun _ => .bad) nextS)
    (retS (asT (callR g_lowest (consA (rd 0) (consA (rd 1) nilA)))))))
def g_low : Fn := runFn 2 t_low
theorem kf_low {P : Program} {w : World} {K : PySem.W.Frag} {mg : Str → Option Value} {base : Heap} (M : Md K mg) (h_is_integer : Kn P w K mg base 1 "is_integer" 1 g_is_integer) (h_lowest : Kn P w K mg base 2 "lowest" 2 g_lowest) {f : Addr} {fd : FuncData} (F : Fun K "low" "low" s_low f fd) : FnT P w K mg base 3 f fd ["top", "base"] g_low :=
  Fun.okT (τ := t_low) F sc_low (fun cdv A outer s H E b => 
    (xss_cons (xs_if (xt_not (xt_truth (XV.toE (xv_call (h_is_integer.cal b.room) b.tk (xa_cons (xe_name 0) xa_nil) (len_cons len_nil))))) xss_never xss_nil)
    (xss_cons (xs_if (xt_w (xw_or (xt_not (xt_truth (XV.toE (xv_call (h_is_integer.cal b.room) b.tk (xa_cons (xe_name 1) xa_nil) (len_cons len_nil))))) (xw_or1 (xt_eq b.units (xe_name 1) xe_int)))) xss_never xss_nil)
    (xss_one (xs_ret (XV.toE (xv_call (h_lowest.cal b.room) b.tk (xa_cons (xe_name 0) (xa_cons (xe_name 1) xa_nil)) (len_cons (len_cons len_nil))))))))) runFn_spec (by decide)
theorem kn_low {P : Program} {w : World} {K : PySem.W.Frag} {mg : Str → Option Value} {base : Heap} (M : Md K mg) (h_is_integer : Kn P w K mg base 1 "is_integer" 1 g_is_integer) (h_lowest : Kn P w K mg base 2 "lowest" 2 g_lowest) : Kn P w K mg base 3 "low" 2 g_low :=
  Kn.mk' (ps := ["top", "base"]) M.d_low rfl (fun f fd F => kf_low M h_is_integer h_lowest F) (fun _ _ _ _ _ _ us hl => match us, hl with | [_, _], _ => rfl)
theorem knk_low_base_top {P : Program} {w : World} {K : PySem.W.Frag} {mg : Str → Option Value} {base : Heap} (M : Md K mg) (h_is_integer : Kn P w K mg base 1 "is_integer" 1 g_is_integer) (h_lowest : Kn P w K mg base 2 "lowest" 2 g_lowest) : KnK P w K mg base 3 "low" 2 ["base", "top"] pmS g_low :=
  KnK.mk' (ps := ["top", "base"]) M.d_low rfl (fun f fd F => kf_low M h_is_integer h_lowest F) (fun _ _ _ _ _ _ ws hl => match ws, hl with | [_, _], _ => rfl)
def t_plus : XRS := (seqS (dropS (asT (callR g_check_two (consA (rd 0) (consA (rd 1) nilA)))))
    (retS (asT (callR g_lowest (consA (e2 tAdd (e2 tMul (slIx 0 (kT (.int 0))) (slIx 1 (kT (.int 1)))) (e2 tMul (slIx 1 (kT (.int 0))) (slIx 0 (kT (.int 1))))) (consA (e2 tMul (slIx 0 (kT (.int 1))) (slIx 1 (kT (.int 1)))) nilA))))))
def g_plus : Fn := runFn 2 t_plus
theorem kf_plus {P : Program} {w : World} {K : PySem.W.Frag} {mg : Str → Option Value} {base : Heap} (M : Md K mg) (h_check_two : Kn P w K mg base 4 "check_two" 2 g_check_two) (h_lowest : Kn P w K mg base 2 "lowest" 2 g_lowest) {f : Addr} {fd : FuncData} (F : Fun K "plus" "plus" s_plus f fd) : FnT P w K mg base 5 f fd ["one", "other"] g_plus :=
  Fun.okT (τ := t_plus) F sc_plus (fun cdv A outer s H E b => 
    (xss_cons (xs_expr (XV.toE (xv_call (h_check_two.cal b.room) b.tk (xa_cons (xe_name 0) (xa_cons (xe_name 1) xa_nil)) (len_cons (len_cons len_nil)))))
    (xss_one (xs_ret (XV.toE (xv_call (h_lowest.cal b.room) b.tk (xa_cons (xe_add (xe_mul (xe_ixN 0 xe_int) (xe_ixN 1 xe_int)) (xe_mul (xe_ixN 1 xe_int) (xe_ixN 0 xe_int))) (xa_cons (xe_mul (xe_ixN 0 xe_int) (xe_ixN 1 xe_int)) xa_nil)) (len_cons (len_cons len_nil)))))))) runFn_spec (by decide)
theorem kn_plus {P : Program} {w : World} {K : PySem.W.Frag} {mg : Str → Option Value} {base : Heap} (M : Md K mg) (h_check_two : Kn P w K mg base 4 "check_two" 2 g_check_two) (h_lowest : Kn P w K mg base 2 "lowest" 2 g_lowest) : Kn P w K mg base 5 "plus" 2 g_plus :=
  Kn.mk' (ps := ["one", "other"]) M.d_plus rfl (fun f fd F => kf_plus M h_check_two h_lowest F) (fun _ _ _ _ _ _ us hl => match us, hl with | [_, _], _ => rfl)
theorem knk_plus_other_one {P : Program} {w : World} {K : PySem.W.Frag} {mg : Str → Option Value} {base : Heap} (M : Md K mg) (h_check_two : Kn P w K mg base 4 "check_two" 2 g_check_two) (h_lowest : Kn P w K mg base 2 "lowest" 2 g_lowest) : KnK P w K mg base 5 "plus" 2 ["other", "one"] pmS g_plus :=
  KnK.mk' (ps := ["one", "other"]) M.d_plus rfl (fun f fd F => kf_plus M h_check_two h_lowest F) (fun _ _ _ _ _ _ ws hl => match ws, hl with | [_, _], _ => rfl)
def t_minus : XRS := (seqS (dropS (asT (callR g_check_two (consA (rd 0) (consA (rd 1) nilA)))))
    (retS (asT (callR g_lowest (consA (e2 tSub (e2 tMul (slIx 0 (kT (.int 0))) (slIx 1 (kT (.int 1)))) (e2 tMul (slIx 1 (kT (.int 0))) (slIx 0 (kT (.int 1))))) (consA (e2 tMul (slIx 0 (kT (.int 1))) (slIx 1 (kT (.int 1)))) nilA))))))
def g_minus : Fn := runFn 2 t_minus
theorem kf_minus {P : Program} {w : World} {K : PySem.W.Frag} {mg : Str → Option Value} {base : Heap} (M : Md K mg) (h_check_two : Kn P w K mg base 4 "check_two" 2 g_check_two) (h_lowest : Kn P w K mg base 2 "lowest" 2 g_lowest) {f : Addr} {fd : FuncData} (F : Fun K "minus" "minus" s_minus f fd) : FnT P w K mg base 5 f fd ["one", "other"] g_minus :=
  Fun.okT (τ := t_minus) F sc_minus (fun cdv A outer s H E b => 
    (xss_cons (xs_expr (XV.toE (xv_call (h_check_two.cal b.room) b.tk (xa_cons (xe_name 0) (xa_cons (xe_name 1) xa_nil)) (len_cons (len_cons len_nil)))))
    (xss_one (xs_ret (XV.toE (xv_call (h_lowest.cal b.room) b.tk (xa_cons (xe_sub (xe_mul (xe_ixN 0 xe_int) (xe_ixN 1 xe_int)) (xe_mul (xe_ixN 1 xe_int) (xe_ixN 0 xe_int))) (xa_cons (xe_mul (xe_ixN 0 xe_int) (xe_ixN 1 xe_int)) xa_nil)) (len_cons (len_cons len_nil)))))))) runFn_spec (by decide)
theorem kn_minus {P : Program} {w : World} {K : PySem.W.Frag} {mg : Str → Option Value} {base : Heap} (M : Md K mg) (h_check_two : Kn P w K mg base 4 "check_two" 2 g_check_two) (h_lowest : Kn P w K mg base 2 "lowest" 2 g_lowest) : Kn P w K mg base 5 "minus" 2 g_minus :=
  Kn.mk' (ps := ["one", "other"]) M.d_minus rfl (fun f fd F => kf_minus M h_check_two h_lowest F) (fun _ _ _ _ _ _ us hl => match us, hl with | [_, _], _ => rfl)
theorem knk_minus_other_one {P : Program} {w : World} {K : PySem.W.Frag} {mg : Str → Option Value} {base : Heap} (M : Md K mg) (h_check_two : Kn P w K mg base 4 "check_two" 2 g_check_two) (h_lowest : Kn P w K mg base 2 "lowest" 2 g_lowest) : KnK P w K mg base 5 "minus" 2 ["other", "one"] pmS g_minus :=
  KnK.mk' (ps := ["one", "other"]) M.d_minus rfl (fun f fd F => kf_minus M h_check_two h_lowest F) (fun _ _ _ _ _ _ ws hl => match ws, hl with | [_, _], _ => rfl)
def t_times : XRS := (seqS (dropS (asT (callR g_check_two (consA (rd 0) (consA (rd 1) nilA)))))
    (retS (asT (callR g_lowest (consA (e2 tMul (slIx 0 (kT (.int 0))) (slIx 1 (kT (.int 0)))) (consA (e2 tMul (slIx 0 (kT (.int 1))) (slIx 1 (kT (.int 1)))) nilA))))))
def g_times : Fn := runFn 2 t_times
theorem kf_times {P : Program} {w : World} {K : PySem.W.Frag} {mg : Str → Option Value} {base : Heap} (M : Md K mg) (h_check_two : Kn P w K mg base 4 "check_two" 2 g_check_two) (h_lowest : Kn P w K mg base 2 "lowest" 2 g_lowest) {f : Addr} {fd : FuncData} (F : Fun K "times" "times" s_times f fd) : FnT P w K mg base 5 f fd ["one", "other"] g_times :=
  Fun.okT (τ := t_times) F sc_times (fun cdv A outer s H E b => 
    (xss_cons (xs_expr (XV.toE (xv_call (h_check_two.cal b.room) b.tk (xa_cons (xe_name 0) (xa_cons (xe_name 1) xa_nil)) (len_cons (len_cons len_nil)))))
    (xss_one (xs_ret (XV.toE (xv_call (h_lowest.cal b.room) b.tk (xa_cons (xe_mul (xe_ixN 0 xe_int) (xe_ixN 1 xe_int)) (xa_cons (xe_mul (xe_ixN 0 xe_int) (xe_ixN 1 xe_int)) xa_nil)) (len_cons (len_cons len_nil)))))))) runFn_spec (by decide)
theorem kn_times {P : Program} {w : World} {K : PySem.W.Frag} {mg : Str → Option Value} {base : Heap} (M : Md K mg) (h_check_two : Kn P w K mg base 4 "check_two" 2 g_check_two) (h_lowest : Kn P w K mg base 2 "lowest" 2 g_lowest) : Kn P w K mg base 5 "times" 2 g_times :=
  Kn.mk' (ps := ["one", "other"]) M.d_times rfl (fun f fd F => kf_times M h_check_two h_lowest F) (fun _ _ _ _ _ _ us hl => match us, hl with | [_, _], _ => rfl)
theorem knk_times_other_one {P : Program} {w : World} {K : PySem.W.Frag} {mg : Str → Option Value} {base : Heap} (M : Md K mg) (h_check_two : Kn P w K mg base 4 "check_two" 2 g_check_two) (h_lowest : Kn P w K mg base 2 "lowest" 2 g_lowest) : KnK P w K mg base 5 "times" 2 ["other", "one"] pmS g_times :=
  KnK.mk' (ps := ["one", "other"]) M.d_times rfl (fun f fd F => kf_times M h_check_two h_lowest F) (fun _ _ _ _ _ _ ws hl => match ws, hl with | [_, _], _ => rfl)
def t_over : XRS := (seqS (dropS (asT (callR g_check_two (consA (rd 0) (consA (rd 1) nilA)))))
    (seqS (ifS (cmpB tEq (rd 1) (kT c_ZERO)) (fun _ => .bad) nextS)
    (retS (asT (callR g_lowest (consA (e2 tMul (slIx 0 (kT (.int 0))) (slIx 1 (kT (.int 1)))) (consA (e2 tMul (slIx 0 (kT (.int 1))) (slIx 1 (kT (.int 0)))) nilA)))))))
def g_over : Fn := runFn 2 t_over
theorem kf_over {P : Program} {w : World} {K : PySem.W.Frag} {mg : Str → Option Value} {base : Heap} (M : Md K mg) (h_check_two : Kn P w K mg base 4 "check_two" 2 g_check_two) (h_lowest : Kn P w K mg base 2 "lowest" 2 g_lowest) {f : Addr} {fd : FuncData} (F : Fun K "over" "over" s_over f fd) : FnT P w K mg base 5 f fd ["one", "other"] g_over :=
  Fun.okT (τ := t_over) F sc_over (fun cdv A outer s H E b => 
    (xss_cons (xs_expr (XV.toE (xv_call (h_check_two.cal b.room) b.tk (xa_cons (xe_name 0) (xa_cons (xe_name 1) xa_nil)) (len_cons (len_cons len_nil)))))
    (xss_cons (xs_if (xt_eq b.units (xe_name 1) (xe_gc M.c_ZERO)) xss_never xss_nil)
    (xss_one (xs_ret (XV.toE (xv_call (h_lowest.cal b.room) b.tk (xa_cons (xe_mul (xe_ixN 0 xe_int) (xe_ixN 1 xe_int)) (xa_cons (xe_mul (xe_ixN 0 xe_int) (xe_ixN 1 xe_int)) xa_nil)) (len_cons (len_cons len_nil))))))))) runFn_spec (by decide)
theorem kn_over {P : Program} {w : World} {K : PySem.W.Frag} {mg : Str → Option Value} {base : Heap} (M : Md K mg) (h_check_two : Kn P w K mg base 4 "check_two" 2 g_check_two) (h_lowest : Kn P w K mg base 2 "lowest" 2 g_lowest) : Kn P w K mg base 5 "over" 2 g_over :=
  Kn.mk' (ps := ["one", "other"]) M.d_over rfl (fun f fd F => kf_over M h_check_two h_lowest F) (fun _ _ _ _ _ _ us hl => match us, hl with | [_, _], _ => rfl)
theorem knk_over_other_one {P : Program} {w : World} {K : PySem.W.Frag} {mg : Str → Option Value} {base : Heap} (M : Md K mg) (h_check_two : Kn P w K mg base 4 "check_two" 2 g_check_two) (h_lowest : Kn P w K mg base 2 "lowest" 2 g_lowest) : KnK P w K mg base 5 "over" 2 ["other", "one"] pmS g_over :=
  KnK.mk' (ps := ["one", "other"]) M.d_over rfl (fun f fd F => kf_over M h_check_two h_lowest F) (fun _ _ _ _ _ _ ws hl => match ws, hl with | [_, _], _ => rfl)
def t_compared : XRS := (seqS (dropS (asT (callR g_check_two (consA (rd 0) (consA (rd 1) nilA)))))
    (seqS (parS [2, 3] (consMv (e2 tMul (slIx 0 (kT (.int 0))) (slIx 1 (kT (.int 1)))) (consMv (e2 tMul (slIx 1 (kT (.int 0))) (slIx 0 (kT (.int 1)))) nilM)))
    (retS (e2 tSub (callA tInt (consA (e2 tGt (rd 2) (rd 3)) nilA)) (callA tInt (consA (e2 tLt (rd 2) (rd 3)) nilA))))))
def g_compared : Fn := runFn 4 t_compared
theorem kf_compared {P : Program} {w : World} {K : PySem.W.Frag} {mg : Str → Option Value} {base : Heap} (M : Md K mg) (h_check_two : Kn P w K mg base 4 "check_two" 2 g_check_two) {f : Addr} {fd : FuncData} (F : Fun K "compared" "compared" s_compared f fd) : FnT P w K mg base 5 f fd ["one", "other"] g_compared :=
  Fun.okT (τ := t_compared) F sc_compared (fun cdv A outer s H E b => 
    (xss_cons (xs_expr (XV.toE (xv_call (h_check_two.cal b.room) b.tk (xa_cons (xe_name 0) (xa_cons (xe_name 1) xa_nil)) (len_cons (len_cons len_nil)))))
    (xss_cons (xs_par 2 3 rfl sc_compared.nd (xm_v (xe_mul (xe_ixN 0 xe_int) (xe_ixN 1 xe_int)) (xm_v (xe_mul (xe_ixN 1 xe_int) (xe_ixN 0 xe_int)) xm_nil)))
    (xss_one (xs_ret (xe_sub (xe_intC rfl M.n_int (xa_cons (xe_gt (xe_name 2) (xe_name 3)) xa_nil)) (xe_intC rfl M.n_int (xa_cons (xe_lt (xe_name 2) (xe_name 3)) xa_nil)))))))) runFn_spec (by decide)
theorem kn_compared {P : Program} {w : World} {K : PySem.W.Frag} {mg : Str → Option Value} {base : Heap} (M : Md K mg) (h_check_two : Kn P w K mg base 4 "check_two" 2 g_check_two) : Kn P w K mg base 5 "compared" 2 g_compared :=
  Kn.mk' (ps := ["one", "other"]) M.d_compared rfl (fun f fd F => kf_compared M h_check_two F) (fun _ _ _ _ _ _ us hl => match us, hl with | [_, _], _ => rfl)
theorem knk_compared_other_one {P : Program} {w : World} {K : PySem.W.Frag} {mg : Str → Option Value} {base : Heap} (M : Md K mg) (h_check_two : Kn P w K mg base 4 "check_two" 2 g_check_two) : KnK P w K mg base 5 "compared" 2 ["other", "one"] pmS g_compared :=
  KnK.mk' (ps := ["one", "other"]) M.d_compared rfl (fun f fd F => kf_compared M h_check_two F) (fun _ _ _ _ _ _ ws hl => match ws, hl with | [_, _], _ => rfl)
def t_floor_of : XRS := (seqS (dropS (asT (callR g_check_fraction (consA (rd 0) nilA))))
    (retS (e2 tDiv (slIx 0 (kT (.int 0))) (slIx 0 (kT (.int 1))))))
def g_floor_of : Fn := runFn 1 t_floor_of
theorem kf_floor_of {P : Program} {w : World} {K : PySem.W.Frag} {mg : Str → Option Value} {base : Heap} (M : Md K mg) (h_check_fraction : Kn P w K mg base 3 "check_fraction" 1 g_check_fraction) {f : Addr} {fd : FuncData} (F : Fun K "floor_of" "floor_of" s_floor_of f fd) : FnT P w K mg base 4 f fd ["fraction"] g_floor_of :=
  Fun.okT (τ := t_floor_of) F sc_floor_of (fun cdv A outer s H E b => 
    (xss_cons (xs_expr (XV.toE (xv_call (h_check_fraction.cal b.room) b.tk (xa_cons (xe_name 0) xa_nil) (len_cons len_nil))))
    (xss_one (xs_ret (xe_div (xe_ixN 0 xe_int) (xe_ixN 0 xe_int)))))) runFn_spec (by decide)
theorem kn_floor_of {P : Program} {w : World} {K : PySem.W.Frag} {mg : Str → Option Value} {base : Heap} (M : Md K mg) (h_check_fraction : Kn P w K mg base 3 "check_fraction" 1 g_check_fraction) : Kn P w K mg base 4 "floor_of" 1 g_floor_of :=
  Kn.mk' (ps := ["fraction"]) M.d_floor_of rfl (fun f fd F => kf_floor_of M h_check_fraction F) (fun _ _ _ _ _ _ us hl => match us, hl with | [_], _ => rfl)
theorem knk_floor_of_fraction {P : Program} {w : World} {K : PySem.W.Frag} {mg : Str → Option Value} {base : Heap} (M : Md K mg) (h_check_fraction : Kn P w K mg base 3 "check_fraction" 1 g_check_fraction) : KnK P w K mg base 4 "floor_of" 1 ["fraction"] pmI g_floor_of :=
  KnK.mk' (ps := ["fraction"]) M.d_floor_of rfl (fun f fd F => kf_floor_of M h_check_fraction F) (fun _ _ _ _ _ _ ws hl => match ws, hl with | [_], _ => rfl)
def t_ceiling_of : XRS := (seqS (dropS (asT (callR g_check_fraction (consA (rd 0) nilA))))
    (retS (e1 tNeg (e2 tDiv (e1 tNeg (slIx 0 (kT (.int 0)))) (slIx 0 (kT (.int 1)))))))
def g_ceiling_of : Fn := runFn 1 t_ceiling_of
theorem kf_ceiling_of {P : Program} {w : World} {K : PySem.W.Frag} {mg : Str → Option Value} {base : Heap} (M : Md K mg) (h_check_fraction : Kn P w K mg base 3 "check_fraction" 1 g_check_fraction) {f : Addr} {fd : FuncData} (F : Fun K "ceiling_of" "ceiling_of" s_ceiling_of f fd) : FnT P w K mg base 4 f fd ["fraction"] g_ceiling_of :=
  Fun.okT (τ := t_ceiling_of) F sc_ceiling_of (fun cdv A outer s H E b => 
    (xss_cons (xs_expr (XV.toE (xv_call (h_check_fraction.cal b.room) b.tk (xa_cons (xe_name 0) xa_nil) (len_cons len_nil))))
    (xss_one (xs_ret (xe_neg (xe_div (xe_neg (xe_ixN 0 xe_int)) (xe_ixN 0 xe_int))))))) runFn_spec (by decide)
theorem kn_ceiling_of {P : Program} {w : World} {K : PySem.W.Frag} {mg : Str → Option Value} {base : Heap} (M : Md K mg) (h_check_fraction : Kn P w K mg base 3 "check_fraction" 1 g_check_fraction) : Kn P w K mg base 4 "ceiling_of" 1 g_ceiling_of :=
  Kn.mk' (ps := ["fraction"]) M.d_ceiling_of rfl (fun f fd F => kf_ceiling_of M h_check_fraction F) (fun _ _ _ _ _ _ us hl => match us, hl with | [_], _ => rfl)
theorem knk_ceiling_of_fraction {P : Program} {w : World} {K : PySem.W.Frag} {mg : Str → Option Value} {base : Heap} (M : Md K mg) (h_check_fraction : Kn P w K mg base 3 "check_fraction" 1 g_check_fraction) : KnK P w K mg base 4 "ceiling_of" 1 ["fraction"] pmI g_ceiling_of :=
  KnK.mk' (ps := ["fraction"]) M.d_ceiling_of rfl (fun f fd F => kf_ceiling_of M h_check_fraction F) (fun _ _ _ _ _ _ ws hl => match ws, hl with | [_], _ => rfl)
def t_text_of : XRS := (retS (ifE (cmpB tEq (slIx 0 (kT (.int 1))) (kT (.int 1))) (callA tStr (consA (slIx 0 (kT (.int 0))) nilA)) (e2 tAdd (e2 tAdd (callA tStr (consA (slIx 0 (kT (.int 0))) nilA)) (kT (.str "/"))) (callA tStr (consA (slIx 0 (kT (.int 1))) nilA)))))
def g_text_of : Fn := runFn 1 t_text_of
theorem kf_text_of {P : Program} {w : World} {K : PySem.W.Frag} {mg : Str → Option Value} {base : Heap} (M : Md K mg) {f : Addr} {fd : FuncData} (F : Fun K "text_of" "text_of" s_text_of f fd) : FnT P w K mg base 1 f fd ["fraction"] g_text_of :=
  Fun.okT (τ := t_text_of) F sc_text_of (fun cdv A outer s H E b => 
    (xss_one (xs_ret (xe_if (xt_eq b.units (xe_ixN 0 xe_int) xe_int) (xe_strC rfl M.n_str (xa_cons (xe_ixN 0 xe_int) xa_nil)) (xe_add (xe_add (xe_strC rfl M.n_str (xa_cons (xe_ixN 0 xe_int) xa_nil)) xe_str) (xe_strC rfl M.n_str (xa_cons (xe_ixN 0 xe_int) xa_nil))))))) runFn_spec (by decide)
theorem kn_text_of {P : Program} {w : World} {K : PySem.W.Frag} {mg : Str → Option Value} {base : Heap} (M : Md K mg) : Kn P w K mg base 1 "text_of" 1 g_text_of :=
  Kn.mk' (ps := ["fraction"]) M.d_text_of rfl (fun f fd F => kf_text_of M F) (fun _ _ _ _ _ _ us hl => match us, hl with | [_], _ => rfl)
def t_fraction_in : XRS := (seqS (setO 1 (splitO (rd 0) (kT (.str "/"))))
    (seqS (ifS (orB (cmpB tGt (slLen 1) (kT (.int 2))) (notB (b1 tTru (callA tAll (consA (gives (lcS (seqI (rd 1)) (gN 2) yesB (asT (callR g_is_plain (consA (rd 2) nilA))) [2])) nilA))))) (retS (kT .non)) nextS)
    (seqS (setS 3 (tupE (consA (callA tInt (consA (slIx 1 (kT (.int 0))) nilA)) (consA (ifE (cmpB tEq (slLen 1) (kT (.int 2))) (callA tInt (consA (slIx 1 (e1 tNeg (kT (.int 1)))) nilA)) (kT (.int 1))) nilA))))
    (retS (ifE (andB (b1 tTru (asT (callR g_is_fraction (consA (rd 3) nilA)))) (cmpB tEq (asT (callR g_text_of (consA (rd 3) nilA))) (rd 0))) (rd 3) (kT .non))))))
def g_fraction_in : Fn := runFn 4 t_fraction_in
theorem kf_fraction_in {P : Program} {w : World} {K : PySem.W.Frag} {mg : Str → Option Value} {base : Heap} (M : Md K mg) (h_is_plain : Kn P w K mg base 1 "is_plain" 1 g_is_plain) (h_text_of : Kn P w K mg base 1 "text_of" 1 g_text_of) (h_is_fraction : Kn P w K mg base 2 "is_fraction" 1 g_is_fraction) {f : Addr} {fd : FuncData} (F : Fun K "fraction_in" "fraction_in" s_fraction_in f fd) : FnT P w K mg base 3 f fd ["text"] g_fraction_in :=
  Fun.okT (τ := t_fraction_in) F sc_fraction_in (fun cdv A outer s H E b => 
    (xss_cons (xs_setO 1 sc_fraction_in.nd (xo_split (xe_name 0) xe_str))
    (xss_cons (xs_if (xt_w (xw_or (xt_gt (xe_lenN 1 rfl M.n_len) xe_int) (xw_or1 (xt_not (xt_truth (xe_all rfl rfl M.n_all (xa_cons (xe_o (xo_lc rfl sc_fraction_in.nd (xi_seq (xe_name 1)) (own := [("part", 2)]) (blk_of (by rfl) (by first | rfl | kernel_rfl)) (fun _ _ _ _ _ => (xg_name 2 sc_fraction_in.nd)) (fun _ _ _ _ _ => (XV.toE (xv_call (h_is_plain.cal b.room) takesF (xa_cons (xe_name 2) xa_nil) (len_cons len_nil)))))) xa_nil))))))) (xss_one (xs_ret xe_non)) xss_nil)
    (xss_cons (xs_set 3 sc_fraction_in.nd (xe_tup (xa_cons (xe_intC rfl M.n_int (xa_cons (xe_ixN 1 xe_int) xa_nil)) (xa_cons (xe_if (xt_eq b.units (xe_lenN 1 rfl M.n_len) xe_int) (xe_intC rfl M.n_int (xa_cons (xe_ixN 1 (xe_neg xe_int)) xa_nil)) xe_int) xa_nil))))
    (xss_one (xs_ret (xe_if (xt_w (xw_and (xt_truth (XV.toE (xv_call (h_is_fraction.cal b.room) b.tk (xa_cons (xe_name 3) xa_nil) (len_cons len_nil)))) (xw_and1 (xt_eq b.units (XV.toE (xv_call (h_text_of.cal b.room) b.tk (xa_cons (xe_name 3) xa_nil) (len_cons len_nil))) (xe_name 0))))) (xe_name 3) xe_non))))))) runFn_spec (by decide)
theorem kn_fraction_in {P : Program} {w : World} {K : PySem.W.Frag} {mg : Str → Option Value} {base : Heap} (M : Md K mg) (h_is_plain : Kn P w K mg base 1 "is_plain" 1 g_is_plain) (h_text_of : Kn P w K mg base 1 "text_of" 1 g_text_of) (h_is_fraction : Kn P w K mg base 2 "is_fraction" 1 g_is_fraction) : Kn P w K mg base 3 "fraction_in" 1 g_fraction_in :=
  Kn.mk' (ps := ["text"]) M.d_fraction_in rfl (fun f fd F => kf_fraction_in M h_is_plain h_text_of h_is_fraction F) (fun _ _ _ _ _ _ us hl => match us, hl with | [_], _ => rfl)
def t_fraction_text : XRS := (seqS (dropS (asT (callR g_check_fraction (consA (rd 0) nilA))))
    (retS (asT (callR g_text_of (consA (rd 0) nilA)))))
def g_fraction_text : Fn := runFn 1 t_fraction_text
theorem kf_fraction_text {P : Program} {w : World} {K : PySem.W.Frag} {mg : Str → Option Value} {base : Heap} (M : Md K mg) (h_check_fraction : Kn P w K mg base 3 "check_fraction" 1 g_check_fraction) (h_text_of : Kn P w K mg base 1 "text_of" 1 g_text_of) {f : Addr} {fd : FuncData} (F : Fun K "fraction_text" "fraction_text" s_fraction_text f fd) : FnT P w K mg base 4 f fd ["fraction"] g_fraction_text :=
  Fun.okT (τ := t_fraction_text) F sc_fraction_text (fun cdv A outer s H E b => 
    (xss_cons (xs_expr (XV.toE (xv_call (h_check_fraction.cal b.room) b.tk (xa_cons (xe_name 0) xa_nil) (len_cons len_nil))))
    (xss_one (xs_ret (XV.toE (xv_call (h_text_of.cal b.room) b.tk (xa_cons (xe_name 0) xa_nil) (len_cons len_nil))))))) runFn_spec (by decide)
theorem kn_fraction_text {P : Program} {w : World} {K : PySem.W.Frag} {mg : Str → Option Value} {base : Heap} (M : Md K mg) (h_check_fraction : Kn P w K mg base 3 "check_fraction" 1 g_check_fraction) (h_text_of : Kn P w K mg base 1 "text_of" 1 g_text_of) : Kn P w K mg base 4 "fraction_text" 1 g_fraction_text :=
  Kn.mk' (ps := ["fraction"]) M.d_fraction_text rfl (fun f fd F => kf_fraction_text M h_check_fraction h_text_of F) (fun _ _ _ _ _ _ us hl => match us, hl with | [_], _ => rfl)
theorem knk_fraction_text_fraction {P : Program} {w : World} {K : PySem.W.Frag} {mg : Str → Option Value} {base : Heap} (M : Md K mg) (h_check_fraction : Kn P w K mg base 3 "check_fraction" 1 g_check_fraction) (h_text_of : Kn P w K mg base 1 "text_of" 1 g_text_of) : KnK P w K mg base 4 "fraction_text" 1 ["fraction"] pmI g_fraction_text :=
  KnK.mk' (ps := ["fraction"]) M.d_fraction_text rfl (fun f fd F => kf_fraction_text M h_check_fraction h_text_of F) (fun _ _ _ _ _ _ ws hl => match ws, hl with | [_], _ => rfl)
def t_read_fraction : XRS := (seqS (setS 1 (ifE (b1 tTru (callA tIsi (consA (rd 0) (consA (kT (.ty .str)) nilA)))) (asT (callR g_fraction_in (consA (rd 0) nilA))) (kT .non)))
    (seqS (ifS (cmpB tIsN (rd 1) (kT .non)) (raiseS "InvalidText" (consA (rd 0) nilA)) nextS)
    (retS (rd 1))))
def g_read_fraction : Fn := runFn 2 t_read_fraction
theorem kf_read_fraction {P : Program} {w : World} {K : PySem.W.Frag} {mg : Str → Option Value} {base : Heap} (M : Md K mg) (h_fraction_in : Kn P w K mg base 3 "fraction_in" 1 g_fraction_in) {f : Addr} {fd : FuncData} (F : Fun K "read_fraction" "read_fraction" s_read_fraction f fd) : FnT P w K mg base 4 f fd ["text"] g_read_fraction :=
  Fun.okT (τ := t_read_fraction) F sc_read_fraction (fun cdv A outer s H E b => 
    (xss_cons (xs_set 1 sc_read_fraction.nd (xe_if (xt_truth (xe_isi rfl M.n_isinstance (xa_cons (xe_name 0) (xa_cons (xe_ty .str rfl M.n_str) xa_nil)))) (XV.toE (xv_call (h_fraction_in.cal b.room) b.tk (xa_cons (xe_name 0) xa_nil) (len_cons len_nil))) xe_non))
    (xss_cons (xs_if (xt_isN (xe_name 1) xe_non) (xss_one (xs_raise rfl b.tk (M.e_InvalidText.errs b.room) (xa_cons (xe_name 0) xa_nil))) xss_nil)
    (xss_one (xs_ret (xe_name 1)))))) runFn_spec (by decide)
theorem kn_read_fraction {P : Program} {w : World} {K : PySem.W.Frag} {mg : Str → Option Value} {base : Heap} (M : Md K mg) (h_fraction_in : Kn P w K mg base 3 "fraction_in" 1 g_fraction_in) : Kn P w K mg base 4 "read_fraction" 1 g_read_fraction :=
  Kn.mk' (ps := ["text"]) M.d_read_fraction rfl (fun f fd F => kf_read_fraction M h_fraction_in F) (fun _ _ _ _ _ _ us hl => match us, hl with | [_], _ => rfl)
theorem knk_read_fraction_text {P : Program} {w : World} {K : PySem.W.Frag} {mg : Str → Option Value} {base : Heap} (M : Md K mg) (h_fraction_in : Kn P w K mg base 3 "fraction_in" 1 g_fraction_in) : KnK P w K mg base 4 "read_fraction" 1 ["text"] pmI g_read_fraction :=
  KnK.mk' (ps := ["text"]) M.d_read_fraction rfl (fun f fd F => kf_read_fraction M h_fraction_in F) (fun _ _ _ _ _ _ ws hl => match ws, hl with | [_], _ => rfl)
def t_check_fractions : XRS := (ifS (orB (notB (b1 tTru (asT (callR g_is_list (consA (rd 0) nilA))))) (notB (b1 tTru (callA tAll (consA (gives (lcS (seqI (rd 0)) (gN 1) yesB (asT (callR g_is_fraction (consA (rd 1) nilA))) [1])) nilA))))) (fun _ => .bad) nextS)
def g_check_fractions : Fn := runFn 2 t_check_fractions
theorem kf_check_fractions {P : Program} {w : World} {K : PySem.W.Frag} {mg : Str → Option Value} {base : Heap} (M : Md K mg) (h_is_fraction : Kn P w K mg base 2 "is_fraction" 1 g_is_fraction) (h_is_list : Kn P w K mg base 1 "is_list" 1 g_is_list) {f : Addr} {fd : FuncData} (F : Fun K "check_fractions" "check_fractions" s_check_fractions f fd) : FnT P w K mg base 3 f fd ["fractions"] g_check_fractions :=
  Fun.okT (τ := t_check_fractions) F sc_check_fractions (fun cdv A outer s H E b => 
    (xss_one (xs_if (xt_w (xw_or (xt_not (xt_truth (XV.toE (xv_call (h_is_list.cal b.room) b.tk (xa_cons (xe_name 0) xa_nil) (len_cons len_nil))))) (xw_or1 (xt_not (xt_truth (xe_all rfl rfl M.n_all (xa_cons (xe_o (xo_lc rfl sc_check_fractions.nd (xi_seq (xe_name 0)) (own := [("value", 1)]) (blk_of (by rfl) (by first | rfl | kernel_rfl)) (fun _ _ _ _ _ => (xg_name 1 sc_check_fractions.nd)) (fun _ _ _ _ _ => (XV.toE (xv_call (h_is_fraction.cal b.room) takesF (xa_cons (xe_name 1) xa_nil) (len_cons len_nil)))))) xa_nil))))))) xss_never xss_nil))) runFn_spec (by decide)
theorem kn_check_fractions {P : Program} {w : World} {K : PySem.W.Frag} {mg : Str → Option Value} {base : Heap} (M : Md K mg) (h_is_fraction : Kn P w K mg base 2 "is_fraction" 1 g_is_fraction) (h_is_list : Kn P w K mg base 1 "is_list" 1 g_is_list) : Kn P w K mg base 3 "check_fractions" 1 g_check_fractions :=
  Kn.mk' (ps := ["fractions"]) M.d_check_fractions rfl (fun f fd F => kf_check_fractions M h_is_fraction h_is_list F) (fun _ _ _ _ _ _ us hl => match us, hl with | [_], _ => rfl)
def t_base_of : XRS := (seqS (setS 1 (kT (.int 1)))
    (seqS (forS (seqI (rd 0)) (gN 2) (setS 1 (e2 tDiv (e2 tMul (rd 1) (slIx 2 (kT (.int 1)))) (asT (callR g_divisor (consA (rd 1) (consA (slIx 2 (kT (.int 1))) nilA)))))))
    (retS (rd 1))))
def g_base_of : Fn := runFn 3 t_base_of
theorem kf_base_of {P : Program} {w : World} {K : PySem.W.Frag} {mg : Str → Option Value} {base : Heap} (M : Md K mg) (h_divisor : Kn P w K mg base 1 "divisor" 2 g_divisor) {f : Addr} {fd : FuncData} (F : Fun K "base_of" "base_of" s_base_of f fd) : FnT P w K mg base 2 f fd ["fractions"] g_base_of :=
  Fun.okT (τ := t_base_of) F sc_base_of (fun cdv A outer s H E b => 
    (xss_cons (xs_set 1 sc_base_of.nd xe_int)
    (xss_cons (xs_for b.own rfl (xi_seq (xe_name 0)) (xg_name 2 sc_base_of.nd) (xss_one (xs_set 1 sc_base_of.nd (xe_div (xe_mul (xe_name 1) (xe_ixN 2 xe_int)) (XV.toE (xv_call (h_divisor.cal b.room) b.tk (xa_cons (xe_name 1) (xa_cons (xe_ixN 2 xe_int) xa_nil)) (len_cons (len_cons len_nil))))))))
    (xss_one (xs_ret (xe_name 1)))))) runFn_spec (by decide)
theorem kn_base_of {P : Program} {w : World} {K : PySem.W.Frag} {mg : Str → Option Value} {base : Heap} (M : Md K mg) (h_divisor : Kn P w K mg base 1 "divisor" 2 g_divisor) : Kn P w K mg base 2 "base_of" 1 g_base_of :=
  Kn.mk' (ps := ["fractions"]) M.d_base_of rfl (fun f fd F => kf_base_of M h_divisor F) (fun _ _ _ _ _ _ us hl => match us, hl with | [_], _ => rfl)
def t_common_base : XRS := (seqS (dropS (asT (callR g_check_fractions (consA (rd 0) nilA))))
    (seqS (setS 1 (asT (callR g_base_of (consA (rd 0) nilA))))
    (retS (tupE (consA (rd 1) (consA (gives (lcS (seqI (rd 0)) (gTu 2 (gCons (gN 2) (gCons (gN 3) gNil))) yesB (e2 tMul (rd 2) (e2 tDiv (rd 1) (rd 3))) [2, 3])) nilA))))))
def g_common_base : Fn := runFn 4 t_common_base
theorem kf_common_base {P : Program} {w : World} {K : PySem.W.Frag} {mg : Str → Option Value} {base : Heap} (M : Md K mg) (h_check_fractions : Kn P w K mg base 3 "check_fractions" 1 g_check_fractions) (h_base_of : Kn P w K mg base 2 "base_of" 1 g_base_of) {f : Addr} {fd : FuncData} (F : Fun K "common_base" "common_base" s_common_base f fd) : FnT P w K mg base 4 f fd ["fractions"] g_common_base :=
  Fun.okT (τ := t_common_base) F sc_common_base (fun cdv A outer s H E b => 
    (xss_cons (xs_expr (XV.toE (xv_call (h_check_fractions.cal b.room) b.tk (xa_cons (xe_name 0) xa_nil) (len_cons len_nil))))
    (xss_cons (xs_set 1 sc_common_base.nd (XV.toE (xv_call (h_base_of.cal b.room) b.tk (xa_cons (xe_name 0) xa_nil) (len_cons len_nil))))
    (xss_one (xs_ret (xe_tup (xa_cons (xe_name 1) (xa_cons (xe_o (xo_lc rfl sc_common_base.nd (xi_seq (xe_name 0)) (own := [("top", 2), ("part", 3)]) (blk_of (by rfl) (by first | rfl | kernel_rfl)) (fun _ _ _ _ _ => (xg_tup rfl (xgs_cons (xg_name 2 sc_common_base.nd) (xgs_cons (xg_name 3 sc_common_base.nd) xgs_nil)))) (fun _ _ _ _ _ => (xe_mul (xe_name 2) (xe_div (xe_name 1) (xe_name 3)))))) xa_nil)))))))) runFn_spec (by decide)
theorem kn_common_base {P : Program} {w : World} {K : PySem.W.Frag} {mg : Str → Option Value} {base : Heap} (M : Md K mg) (h_check_fractions : Kn P w K mg base 3 "check_fractions" 1 g_check_fractions) (h_base_of : Kn P w K mg base 2 "base_of" 1 g_base_of) : Kn P w K mg base 4 "common_base" 1 g_common_base :=
  Kn.mk' (ps := ["fractions"]) M.d_common_base rfl (fun f fd F => kf_common_base M h_check_fractions h_base_of F) (fun _ _ _ _ _ _ us hl => match us, hl with | [_], _ => rfl)
theorem knk_common_base_fractions {P : Program} {w : World} {K : PySem.W.Frag} {mg : Str → Option Value} {base : Heap} (M : Md K mg) (h_check_fractions : Kn P w K mg base 3 "check_fractions" 1 g_check_fractions) (h_base_of : Kn P w K mg base 2 "base_of" 1 g_base_of) : KnK P w K mg base 4 "common_base" 1 ["fractions"] pmI g_common_base :=
  KnK.mk' (ps := ["fractions"]) M.d_common_base rfl (fun f fd F => kf_common_base M h_check_fractions h_base_of F) (fun _ _ _ _ _ _ ws hl => match ws, hl with | [_], _ => rfl)
def t_total_of : XRS := (seqS (asgS (asT (callR g_common_base (consA (rd 0) nilA))) (gTu 2 (gCons (gN 1) (gCons (gN 2) gNil))))
    (retS (asT (callR g_lowest (consA (callA tSum (consA (rd 2) nilA)) (consA (rd 1) nilA))))))
def g_total_of : Fn := runFn 3 t_total_of
theorem kf_total_of {P : Program} {w : World} {K : PySem.W.Frag} {mg : Str → Option Value} {base : Heap} (M : Md K mg) (h_common_base : Kn P w K mg base 4 "common_base" 1 g_common_base) (h_lowest : Kn P w K mg base 2 "lowest" 2 g_lowest) {f : Addr} {fd : FuncData} (F : Fun K "total_of" "total_of" s_total_of f fd) : FnT P w K mg base 5 f fd ["fractions"] g_total_of :=
  Fun.okT (τ := t_total_of) F sc_total_of (fun cdv A outer s H E b => 
    (xss_cons (xs_asg (XV.toE (xv_call (h_common_base.cal b.room) b.tk (xa_cons (xe_name 0) xa_nil) (len_cons len_nil))) (xg_tup rfl (xgs_cons (xg_name 1 sc_total_of.nd) (xgs_cons (xg_name 2 sc_total_of.nd) xgs_nil))))
    (xss_one (xs_ret (XV.toE (xv_call (h_lowest.cal b.room) b.tk (xa_cons (xe_sum rfl rfl M.n_sum (xa_cons (xe_name 2) xa_nil)) (xa_cons (xe_name 1) xa_nil)) (len_cons (len_cons len_nil)))))))) runFn_spec (by decide)
theorem kn_total_of {P : Program} {w : World} {K : PySem.W.Frag} {mg : Str → Option Value} {base : Heap} (M : Md K mg) (h_common_base : Kn P w K mg base 4 "common_base" 1 g_common_base) (h_lowest : Kn P w K mg base 2 "lowest" 2 g_lowest) : Kn P w K mg base 5 "total_of" 1 g_total_of :=
  Kn.mk' (ps := ["fractions"]) M.d_total_of rfl (fun f fd F => kf_total_of M h_common_base h_lowest F) (fun _ _ _ _ _ _ us hl => match us, hl with | [_], _ => rfl)
theorem knk_total_of_fractions {P : Program} {w : World} {K : PySem.W.Frag} {mg : Str → Option Value} {base : Heap} (M : Md K mg) (h_common_base : Kn P w K mg base 4 "common_base" 1 g_common_base) (h_lowest : Kn P w K mg base 2 "lowest" 2 g_lowest) : KnK P w K mg base 5 "total_of" 1 ["fractions"] pmI g_total_of :=
  KnK.mk' (ps := ["fractions"]) M.d_total_of rfl (fun f fd F => kf_total_of M h_common_base h_lowest F) (fun _ _ _ _ _ _ ws hl => match ws, hl with | [_], _ => rfl)
def t__law_cell : XRS := (retS (ifE (cmpB tLt (rd 1) (slLen 0)) (slIx 0 (rd 1)) (e2 tAdd (e2 tMul (kT (.int 8123)) (rd 1)) (e2 tMod (callA tInt (consA (callA tSum (consA (slcN 0 noP (asP (kT (.int 1)))) nilA)) nilA)) (kT (.int 1000033))))))
def g__law_cell : Fn := runFn 2 t__law_cell
theorem kf__law_cell {P : Program} {w : World} {K : PySem.W.Frag} {mg : Str → Option Value} {base : Heap} (M : Md K mg) {f : Addr} {fd : FuncData} (F : Fun K "_law_cell" "_law_cell" s__law_cell f fd) : FnT P w K mg base 1 f fd ["script", "k"] g__law_cell :=
  Fun.okT (τ := t__law_cell) F sc__law_cell (fun cdv A outer s H E b => 
    (xss_one (xs_ret (xe_if (xt_lt (xe_name 1) (xe_lenN 0 rfl M.n_len)) (xe_ixN 0 (xe_name 1)) (xe_add (xe_mul xe_int (xe_name 1)) (xe_mod (xe_intC rfl M.n_int (xa_cons (xe_sum rfl rfl M.n_sum (xa_cons (xe_slN 0 xp_none (xp_some xe_int)) xa_nil)) xa_nil)) xe_int)))))) runFn_spec (by decide)
theorem kn__law_cell {P : Program} {w : World} {K : PySem.W.Frag} {mg : Str → Option Value} {base : Heap} (M : Md K mg) : Kn P w K mg base 1 "_law_cell" 2 g__law_cell :=
  Kn.mk' (ps := ["script", "k"]) M.d__law_cell rfl (fun f fd F => kf__law_cell M F) (fun _ _ _ _ _ _ us hl => match us, hl with | [_, _], _ => rfl)
def t__law_box : XRS := (retO (lstO (consA (callA tAbs (consA (rd 0) nilA)) (consA (e2 tGe (callA tAbs (consA (rd 0) nilA)) (e2 tPow (kT (.int 10)) (kT (.int 18)))) (consA (e2 tMod (callA tInt (consA (callA tAbs (consA (rd 0) nilA)) nilA)) (kT (.int 2147483629))) (consA (kT (.int 0)) nilA))))))
def g__law_box : Fn := runFn 1 t__law_box
theorem kf__law_box {P : Program} {w : World} {K : PySem.W.Frag} {mg : Str → Option Value} {base : Heap} (M : Md K mg) {f : Addr} {fd : FuncData} (F : Fun K "_law_box" "_law_box" s__law_box f fd) : FnT P w K mg base 1 f fd ["great"] g__law_box :=
  Fun.okT (τ := t__law_box) F sc__law_box (fun cdv A outer s H E b => 
    (xss_one (xs_retO (xo_lst (xa_cons (xe_abs rfl M.n_abs (xa_cons (xe_name 0) xa_nil)) (xa_cons (xe_ge (xe_abs rfl M.n_abs (xa_cons (xe_name 0) xa_nil)) (xe_pow xe_int xe_int)) (xa_cons (xe_mod (xe_intC rfl M.n_int (xa_cons (xe_abs rfl M.n_abs (xa_cons (xe_name 0) xa_nil)) xa_nil)) xe_int) (xa_cons xe_int xa_nil)))))))) runFn_spec (by decide)
theorem kn__law_box {P : Program} {w : World} {K : PySem.W.Frag} {mg : Str → Option Value} {base : Heap} (M : Md K mg) : Kn P w K mg base 1 "_law_box" 1 g__law_box :=
  Kn.mk' (ps := ["great"]) M.d__law_box rfl (fun f fd F => kf__law_box M F) (fun _ _ _ _ _ _ us hl => match us, hl with | [_], _ => rfl)
def t__law_take : XRS := (seqS (ifS (andB (b1 tTru (slIx 0 (kT (.int 1)))) (cmpB tGt (slIx 0 (kT (.int 0))) (kT (.int 0)))) (seqS (setS 2 (e2 tMod (callA tInt (consA (slIx 0 (kT (.int 0))) nilA)) (rd 1)))
    (seqS (stS 0 (kT (.int 0)) (e2 tDiv (slIx 0 (kT (.int 0))) (rd 1)))
    (retS (rd 2)))) nextS)
    (seqS (stS 0 (kT (.int 3)) (e2 tAdd (slIx 0 (kT (.int 3))) (kT (.int 1))))
    (seqS (setS 3 (e2 tMod (callA tInt (consA (e2 tPow (e2 tAdd (e2 tAdd (slIx 0 (kT (.int 2))) (e2 tMul (kT (.int 15491027)) (slIx 0 (kT (.int 3))))) (kT (.int 179424731))) (kT (.int 5))) nilA)) (kT (.int 2147483647))))
    (retS (e2 tMod (callA tInt (consA (e2 tDiv (e2 tMod (callA tInt (consA (e2 tPow (e2 tAdd (e2 tMul (rd 3) (kT (.int 48271))) (e2 tMul (kT (.int 104743)) (slIx 0 (kT (.int 3))))) (kT (.int 3))) nilA)) (kT (.int 2147483587))) (kT (.int 64))) nilA)) (rd 1))))))
def g__law_take : Fn := runFn 4 t__law_take
theorem kf__law_take {P : Program} {w : World} {K : PySem.W.Frag} {mg : Str → Option Value} {base : Heap} (M : Md K mg) {f : Addr} {fd : FuncData} (F : Fun K "_law_take" "_law_take" s__law_take f fd) : FnT P w K mg base 1 f fd ["box", "many"] g__law_take :=
  Fun.okT (τ := t__law_take) F sc__law_take (fun cdv A outer s H E b => 
    (xss_cons (xs_if (xt_w (xw_and (xt_truth (xe_ixN 0 xe_int)) (xw_and1 (xt_gt (xe_ixN 0 xe_int) xe_int)))) (xss_cons (xs_set 2 sc__law_take.nd (xe_mod (xe_intC rfl M.n_int (xa_cons (xe_ixN 0 xe_int) xa_nil)) (xe_name 1)))
    (xss_cons (xs_store 0 (xe_div (xe_ixN 0 xe_int) (xe_name 1)) xe_int)
    (xss_one (xs_ret (xe_name 2))))) xss_nil)
    (xss_cons (xs_store 0 (xe_add (xe_ixN 0 xe_int) xe_int) xe_int)
    (xss_cons (xs_set 3 sc__law_take.nd (xe_mod (xe_intC rfl M.n_int (xa_cons (xe_pow (xe_add (xe_add (xe_ixN 0 xe_int) (xe_mul xe_int (xe_ixN 0 xe_int))) xe_int) xe_int) xa_nil)) xe_int))
    (xss_one (xs_ret (xe_mod (xe_intC rfl M.n_int (xa_cons (xe_div (xe_mod (xe_intC rfl M.n_int (xa_cons (xe_pow (xe_add (xe_mul (xe_name 3) xe_int) (xe_mul xe_int (xe_ixN 0 xe_int))) xe_int) xa_nil)) xe_int) xe_int) xa_nil)) (xe_name 1)))))))) runFn_spec (by decide)
theorem kn__law_take {P : Program} {w : World} {K : PySem.W.Frag} {mg : Str → Option Value} {base : Heap} (M : Md K mg) : Kn P w K mg base 1 "_law_take" 2 g__law_take :=
  Kn.mk' (ps := ["box", "many"]) M.d__law_take rfl (fun f fd F => kf__law_take M F) (fun _ _ _ _ _ _ us hl => match us, hl with | [_, _], _ => rfl)
def t__law_same (g : Fn) : XRS := (seqS (ifS (orB (cmpB tIsN (rd 1) (kT .non)) (b1 tTru (callA tIsi (consA (rd 1) (consA (kT (.ty .bl)) nilA))))) (retS (ifE (cmpB tIsN (rd 1) (kT .non)) (e2 tIsN (rd 0) (kT .non)) (andV (callA tIsi (consA (rd 0) (consA (kT (.ty .bl)) nilA))) (e2 tEq (e2 tIsB (rd 0) (kT (.bl true))) (e2 tIsB (rd 1) (kT (.bl true))))))) nextS)
    (seqS (ifS (b1 tTru (callA tIsi (consA (rd 1) (consA (kT (.ty .int)) nilA)))) (retS (andV (callA tIsi (consA (rd 0) (consA (kT (.ty .int)) nilA))) (andV (notV (callA tIsi (consA (rd 0) (consA (kT (.ty .bl)) nilA)))) (e2 tEq (e2 tSub (callA tInt (consA (rd 0) nilA)) (rd 1)) (kT (.int 0)))))) nextS)
    (seqS (ifS (b1 tTru (callA tIsi (consA (rd 1) (consA (kT (.ty .str)) nilA)))) (retS (andV (callA tIsi (consA (rd 0) (consA (kT (.ty .str)) nilA))) (andV (e2 tEq (slLen 0) (slLen 1)) (e2 tEq (gives (lcS (rngI range1 (consA (slLen 1) nilA)) (gN 2) (cmpB tNe (slcN 0 (asP (rd 2)) (asP (e2 tAdd (rd 2) (kT (.int 1))))) (slIx 1 (rd 2))) (rd 2) [2])) (gives (lstO nilA)))))) nextS)
    (seqS (ifS (b1 tTru (callA tIsi (consA (rd 1) (consA (kT (.ty .dic)) nilA)))) (fun _ => .bad) nextS)
    (seqS (ifS (orB (notB (b1 tTru (e1 (tIsi2 .lst .tup) (rd 1)))) (notB (b1 tTru (e1 (tIsi2 .lst .tup) (rd 0))))) (retS (kT (.bl false))) nextS)
    (seqS (ifS (orB (cmpB tNe (callA tIsi (consA (rd 0) (consA (kT (.ty .lst)) nilA))) (callA tIsi (consA (rd 1) (consA (kT (.ty .lst)) nilA)))) (cmpB tNe (slLen 0) (slLen 1))) (retS (kT (.bl false))) nextS)
    (retS (e2 tEq (gives (lcS (rngI range1 (consA (slLen 1) nilA)) (gN 2) (notB (b1 tTru (asT (callR g (consA (slIx 0 (rd 2)) (consA (slIx 1 (rd 2)) nilA)))))) (rd 2) [2])) (gives (lstO nilA))))))))))
def gr__law_same : Nat → Fn
  | 0 => fun _ => .bad
  | k + 1 => runFn 4 (t__law_same (gr__law_same k))
abbrev g__law_same : Fn := gr__law_same 5
theorem kf__law_same {P : Program} {w : World} {K : PySem.W.Frag} {mg : Str → Option Value} {base : Heap} (M : Md K mg) (k : Nat) (h__law_same : Kn P w K mg base k "_law_same" 2 (gr__law_same k)) {f : Addr} {fd : FuncData} (F : Fun K "_law_same" "_law_same" s__law_same f fd) : FnT P w K mg base (k + 1) f fd ["told", "due"] (gr__law_same (k + 1)) :=
  Fun.okT (τ := t__law_same (gr__law_same k)) F sc__law_same (fun cdv A outer s H E b => 
    (xss_cons (xs_if (xt_w (xw_or (xt_isN (xe_name 1) xe_non) (xw_or1 (xt_truth (xe_isi rfl M.n_isinstance (xa_cons (xe_name 1) (xa_cons (xe_ty .bl rfl M.n_bool) xa_nil))))))) (xss_one (xs_ret (xe_if (xt_isN (xe_name 1) xe_non) (xe_isN (xe_name 0) xe_non) (xe_and (xe_isi rfl M.n_isinstance (xa_cons (xe_name 0) (xa_cons (xe_ty .bl rfl M.n_bool) xa_nil))) (xe_one (xe_eq b.units (xe_isB (xe_name 0) xe_bl) (xe_isB (xe_name 1) xe_bl))))))) xss_nil)
    (xss_cons (xs_if (xt_truth (xe_isi rfl M.n_isinstance (xa_cons (xe_name 1) (xa_cons (xe_ty .int rfl M.n_int) xa_nil)))) (xss_one (xs_ret (xe_and (xe_isi rfl M.n_isinstance (xa_cons (xe_name 0) (xa_cons (xe_ty .int rfl M.n_int) xa_nil))) (xe_and (xe_not (xe_isi rfl M.n_isinstance (xa_cons (xe_name 0) (xa_cons (xe_ty .bl rfl M.n_bool) xa_nil)))) (xe_one (xe_eq b.units (xe_sub (xe_intC rfl M.n_int (xa_cons (xe_name 0) xa_nil)) (xe_name 1)) xe_int)))))) xss_nil)
    (xss_cons (xs_if (xt_truth (xe_isi rfl M.n_isinstance (xa_cons (xe_name 1) (xa_cons (xe_ty .str rfl M.n_str) xa_nil)))) (xss_one (xs_ret (xe_and (xe_isi rfl M.n_isinstance (xa_cons (xe_name 0) (xa_cons (xe_ty .str rfl M.n_str) xa_nil))) (xe_and (xe_eq b.units (xe_lenN 0 rfl M.n_len) (xe_lenN 1 rfl M.n_len)) (xe_one (xe_eq b.units (xe_o (xo_lcIf rfl sc__law_same.nd (xi_range1 rfl M.n_range (xa_cons (xe_lenN 1 rfl M.n_len) xa_nil)) (own := [("k", 2)]) (blk_of (by rfl) (by first | rfl | kernel_rfl)) (fun _ _ _ _ _ => (xg_name 2 sc__law_same.nd)) (fun _ _ _ _ _ => (xt_ne b.units (xe_slN 0 (xp_some (xe_name 2)) (xp_some (xe_add (xe_name 2) xe_int))) (xe_ixN 1 (xe_name 2)))) (fun _ _ _ _ _ => (xe_name 2)))) (xe_o (xo_lst xa_nil)))))))) xss_nil)
    (xss_cons (xs_if (xt_truth (xe_isi rfl M.n_isinstance (xa_cons (xe_name 1) (xa_cons (xe_ty .dic rfl M.n_dict) xa_nil)))) xss_never xss_nil)
    (xss_cons (xs_if (xt_w (xw_or (xt_not (xt_truth (xe_isi2 .lst .tup rfl M.n_isinstance (xe_name 1) rfl M.n_list rfl M.n_tuple))) (xw_or1 (xt_not (xt_truth (xe_isi2 .lst .tup rfl M.n_isinstance (xe_name 0) rfl M.n_list rfl M.n_tuple)))))) (xss_one (xs_ret xe_bl)) xss_nil)
    (xss_cons (xs_if (xt_w (xw_or (xt_ne b.units (xe_isi rfl M.n_isinstance (xa_cons (xe_name 0) (xa_cons (xe_ty .lst rfl M.n_list) xa_nil))) (xe_isi rfl M.n_isinstance (xa_cons (xe_name 1) (xa_cons (xe_ty .lst rfl M.n_list) xa_nil)))) (xw_or1 (xt_ne b.units (xe_lenN 0 rfl M.n_len) (xe_lenN 1 rfl M.n_len))))) (xss_one (xs_ret xe_bl)) xss_nil)
    (xss_one (xs_ret (xe_eq b.units (xe_o (xo_lcIf rfl sc__law_same.nd (xi_range1 rfl M.n_range (xa_cons (xe_lenN 1 rfl M.n_len) xa_nil)) (own := [("k", 2)]) (blk_of (by rfl) (by first | rfl | kernel_rfl)) (fun _ _ _ _ _ => (xg_name 2 sc__law_same.nd)) (fun _ _ _ _ _ => (xt_not (xt_truth (XV.toE (xv_call (h__law_same.cal b.room (Nat.le_refl _)) takesF (xa_cons (xe_ixN 0 (xe_name 2)) (xa_cons (xe_ixN 1 (xe_name 2)) xa_nil)) (len_cons (len_cons len_nil))))))) (fun _ _ _ _ _ => (xe_name 2)))) (xe_o (xo_lst xa_nil)))))))))))) runFn_spec (by decide)
theorem kn__law_same {P : Program} {w : World} {K : PySem.W.Frag} {mg : Str → Option Value} {base : Heap} (M : Md K mg) : ∀ k, Kn P w K mg base k "_law_same" 2 (gr__law_same k)
  | 0 => Kn.zero (ps := ["told", "due"]) M.d__law_same (fun _ _ _ _ _ _ us hl => match us, hl with | [_, _], _ => rfl)
  | k + 1 => Kn.mk' (ps := ["told", "due"]) M.d__law_same rfl (fun f fd F => kf__law_same M k (kn__law_same M k) F) (fun _ _ _ _ _ _ us hl => match us, hl with | [_, _], _ => rfl)
def th__law_same : XRS := (seqS (ifS (orB (cmpB tIsN (rd 1) (kT .non)) (b1 tTru (callA tIsi (consA (rd 1) (consA (kT (.ty .bl)) nilA))))) (fun _ => .bad) nextS)
    (seqS (ifS (b1 tTru (callA tIsi (consA (rd 1) (consA (kT (.ty .int)) nilA)))) (fun _ => .bad) nextS)
    (seqS (ifS (b1 tTru (callA tIsi (consA (rd 1) (consA (kT (.ty .str)) nilA)))) (retS (andV (callA tIsi (consA (rd 0) (consA (kT (.ty .str)) nilA))) (andV (e2 tEq (slLen 0) (slLen 1)) (e2 tEq (gives (lcS (rngI range1 (consA (slLen 1) nilA)) (gN 2) (cmpB tNe (slcN 0 (asP (rd 2)) (asP (e2 tAdd (rd 2) (kT (.int 1))))) (slIx 1 (rd 2))) (rd 2) [2])) (gives (lstO nilA)))))) nextS)
    (fun _ => .bad))))
def gh__law_same : Fn := runFn 4 th__law_same
theorem kh__law_same {P : Program} {w : World} {K : PySem.W.Frag} {mg : Str → Option Value} {base : Heap} (M : Md K mg) : KnH P w K mg base 1 "_law_same" 2 gh__law_same :=
  KnH.mk' (ps := ["told", "due"]) M.d__law_same rfl (fun f fd F => Fun.okTH (τ := th__law_same) F sc__law_same (fun cdv A outer s H E p b => 
    (xss_cons (xs_if (xt_w (xw_or (xt_isN (xe_name 1) xe_non) (xw_or1 (xt_truth (xe_isi rfl M.n_isinstance (xa_cons (xe_name 1) (xa_cons (xe_ty .bl rfl M.n_bool) xa_nil))))))) xss_never xss_nil)
    (xss_cons (xs_if (xt_truth (xe_isi rfl M.n_isinstance (xa_cons (xe_name 1) (xa_cons (xe_ty .int rfl M.n_int) xa_nil)))) xss_never xss_nil)
    (xss_cons (xs_if (xt_truth (xe_isi rfl M.n_isinstance (xa_cons (xe_name 1) (xa_cons (xe_ty .str rfl M.n_str) xa_nil)))) (xss_one (xs_ret (xe_and (xe_isi rfl M.n_isinstance (xa_cons (xe_name 0) (xa_cons (xe_ty .str rfl M.n_str) xa_nil))) (xe_and (xe_eq b.units (xe_lenN 0 rfl M.n_len) (xe_lenN 1 rfl M.n_len)) (xe_one (xe_eq b.units (xe_o (xo_lcIfH b.hot sc__law_same.nd (xi_range1H rfl M.n_range (xa_cons (xe_lenN 1 rfl M.n_len) xa_nil)) (own := [("k", 2)]) (blk_of (by rfl) (by first | rfl | kernel_rfl)) (fun _ _ _ _ _ => (xg_name 2 sc__law_same.nd)) (fun _ _ _ _ _ => (xt_ne b.units (xe_slN 0 (xp_some (xe_name 2)) (xp_some (xe_add (xe_name 2) xe_int))) (xe_ixN 1 (xe_name 2)))) (fun _ _ _ _ _ => (xe_name 2)))) (xe_o (xo_lst xa_nil)))))))) xss_nil)
    xss_never)))) runFn_spec (by decide)) (fun _ _ _ _ _ _ us hl => match us, hl with | [_, _], _ => rfl)
def t__law_divisor : XRS := (seqS (parS [0, 1] (consMv (callA tAbs (consA (rd 0) nilA)) (consMv (callA tAbs (consA (rd 1) nilA)) nilM)))
    (seqS (whileS fuel2 (cmpB tNe (rd 1) (kT (.int 0))) (parS [0, 1] (consMv (rd 1) (consMv (e2 tMod (callA tInt (consA (rd 0) nilA)) (rd 1)) nilM))))
    (retS (rd 0))))
def g__law_divisor : Fn := runFn 2 t__law_divisor
theorem kf__law_divisor {P : Program} {w : World} {K : PySem.W.Frag} {mg : Str → Option Value} {base : Heap} (M : Md K mg) {f : Addr} {fd : FuncData} (F : Fun K "_law_divisor" "_law_divisor" s__law_divisor f fd) : FnT P w K mg base 1 f fd ["one", "other"] g__law_divisor :=
  Fun.okT (τ := t__law_divisor) F sc__law_divisor (fun cdv A outer s H E b => 
    (xss_cons (xs_par 0 1 rfl sc__law_divisor.nd (xm_v (xe_abs rfl M.n_abs (xa_cons (xe_name 0) xa_nil)) (xm_v (xe_abs rfl M.n_abs (xa_cons (xe_name 1) xa_nil)) xm_nil)))
    (xss_cons (xs_while fuel2 b.own (xt_ne b.units (xe_name 1) xe_int) (xss_one (xs_par 0 1 rfl sc__law_divisor.nd (xm_v (xe_name 1) (xm_v (xe_mod (xe_intC rfl M.n_int (xa_cons (xe_name 0) xa_nil)) (xe_name 1)) xm_nil)))))
    (xss_one (xs_ret (xe_name 0)))))) runFn_spec (by decide)
theorem kn__law_divisor {P : Program} {w : World} {K : PySem.W.Frag} {mg : Str → Option Value} {base : Heap} (M : Md K mg) : Kn P w K mg base 1 "_law_divisor" 2 g__law_divisor :=
  Kn.mk' (ps := ["one", "other"]) M.d__law_divisor rfl (fun f fd F => kf__law_divisor M F) (fun _ _ _ _ _ _ us hl => match us, hl with | [_, _], _ => rfl)
def t__law_low : XRS := (seqS (setS 2 (e2 tMul (asT (callR g__law_divisor (consA (rd 0) (consA (rd 1) nilA)))) (ifE (cmpB tGt (rd 1) (kT (.int 0))) (kT (.int 1)) (e1 tNeg (kT (.int 1))))))
    (retS (tupE (consA (e2 tDiv (rd 0) (rd 2)) (consA (e2 tDiv (rd 1) (rd 2)) nilA)))))
def g__law_low : Fn := runFn 3 t__law_low
theorem kf__law_low {P : Program} {w : World} {K : PySem.W.Frag} {mg : Str → Option Value} {base : Heap} (M : Md K mg) (h__law_divisor : Kn P w K mg base 1 "_law_divisor" 2 g__law_divisor) {f : Addr} {fd : FuncData} (F : Fun K "_law_low" "_law_low" s__law_low f fd) : FnT P w K mg base 2 f fd ["top", "base"] g__law_low :=
  Fun.okT (τ := t__law_low) F sc__law_low (fun cdv A outer s H E b => 
    (xss_cons (xs_set 2 sc__law_low.nd (xe_mul (XV.toE (xv_call (h__law_divisor.cal b.room) b.tk (xa_cons (xe_name 0) (xa_cons (xe_name 1) xa_nil)) (len_cons (len_cons len_nil)))) (xe_if (xt_gt (xe_name 1) xe_int) xe_int (xe_neg xe_int))))
    (xss_one (xs_ret (xe_tup (xa_cons (xe_div (xe_name 0) (xe_name 2)) (xa_cons (xe_div (xe_name 1) (xe_name 2)) xa_nil))))))) runFn_spec (by decide)
theorem kn__law_low {P : Program} {w : World} {K : PySem.W.Frag} {mg : Str → Option Value} {base : Heap} (M : Md K mg) (h__law_divisor : Kn P w K mg base 1 "_law_divisor" 2 g__law_divisor) : Kn P w K mg base 2 "_law_low" 2 g__law_low :=
  Kn.mk' (ps := ["top", "base"]) M.d__law_low rfl (fun f fd F => kf__law_low M h__law_divisor F) (fun _ _ _ _ _ _ us hl => match us, hl with | [_, _], _ => rfl)
def t__law_beside : XRS := (seqS (parS [1, 2] (consMv (e2 tPow (kT (.int 10)) (kT (.int 20))) (consMv (e2 tIx (gives (lstO (consA (e2 tPow (kT (.int 10)) (kT (.int 3))) (consA (e2 tPow (kT (.int 10)) (kT (.int 6))) (consA (e2 tPow (kT (.int 10)) (kT (.int 11))) (consA (e2 tPow (kT (.int 10)) (kT (.int 19))) (consA (e2 tPow (kT (.int 10)) (kT (.int 20))) nilA))))))) (asT (callRB g__law_take 0 (consA (kT (.int 5)) nilA)))) nilM)))
    (seqS (setS 3 (e2 tAdd (kT (.int 1)) (asT (callRB g__law_take 0 (consA (kT (.int 40)) nilA)))))
    (seqS (parS [4, 5] (consMv (tupE (consA (asT (callRB g__law_take 0 (consA (kT (.int 30)) nilA))) (consA (kT (.int 1)) nilA))) (consMv (tupE (consA (kT (.int 0)) (consA (kT (.int 1)) nilA))) nilM)))
    (seqS (setS 5 (tupE (consA (e2 tAdd (e2 tMul (slIx 4 (kT (.int 0))) (rd 3)) (kT (.int 1))) (consA (rd 3) nilA))))
    (seqS (forS (rngI range1 (consA (kT (.int 110)) nilA)) (gN 6) (seqS (setS 7 (e2 tAdd (kT (.int 1)) (asT (callRB g__law_take 0 (consA (e2 tIx (gives (lstO (consA (kT (.int 2)) (consA (kT (.int 9)) (consA (kT (.int 60)) nilA))))) (asT (callRB g__law_take 0 (consA (kT (.int 3)) nilA)))) nilA)))))
    (seqS (setS 8 (tupE (consA (e2 tAdd (e2 tMul (rd 7) (slIx 5 (kT (.int 0)))) (slIx 4 (kT (.int 0)))) (consA (e2 tAdd (e2 tMul (rd 7) (slIx 5 (kT (.int 1)))) (slIx 4 (kT (.int 1)))) nilA))))
    (seqS (ifS (cmpB tGe (callA tMaxT (consA (rd 8) nilA)) (callA tMin2 (consA (rd 2) (consA (rd 1) nilA)))) (fun ev => .ok (.brk, ev)) nextS)
    (parS [4, 5] (consMv (rd 5) (consMv (rd 8) nilM)))))))
    (retS (tupE (consA (rd 4) (consA (rd 5) nilA)))))))))
def g__law_beside : Fn := runFn 9 t__law_beside
theorem kf__law_beside {P : Program} {w : World} {K : PySem.W.Frag} {mg : Str → Option Value} {base : Heap} (M : Md K mg) (h__law_take : Kn P w K mg base 1 "_law_take" 2 g__law_take) {f : Addr} {fd : FuncData} (F : Fun K "_law_beside" "_law_beside" s__law_beside f fd) : FnT P w K mg base 2 f fd ["box"] g__law_beside :=
  Fun.okT (τ := t__law_beside) F sc__law_beside (fun cdv A outer s H E b => 
    (xss_cons (xs_par 1 2 rfl sc__law_beside.nd (xm_v (xe_pow xe_int xe_int) (xm_v (xe_ix (xe_o (xo_lst (xa_cons (xe_pow xe_int xe_int) (xa_cons (xe_pow xe_int xe_int) (xa_cons (xe_pow xe_int xe_int) (xa_cons (xe_pow xe_int xe_int) (xa_cons (xe_pow xe_int xe_int) xa_nil))))))) (XV.toE (xv_callB 0 (h__law_take.cal b.room) b.tk (xa_cons xe_int xa_nil) (len_cons len_nil).plus))) xm_nil)))
    (xss_cons (xs_set 3 sc__law_beside.nd (xe_add xe_int (XV.toE (xv_callB 0 (h__law_take.cal b.room) b.tk (xa_cons xe_int xa_nil) (len_cons len_nil).plus))))
    (xss_cons (xs_par 4 5 rfl sc__law_beside.nd (xm_v (xe_tup (xa_cons (XV.toE (xv_callB 0 (h__law_take.cal b.room) b.tk (xa_cons xe_int xa_nil) (len_cons len_nil).plus)) (xa_cons xe_int xa_nil))) (xm_v (xe_tup (xa_cons xe_int (xa_cons xe_int xa_nil))) xm_nil)))
    (xss_cons (xs_set 5 sc__law_beside.nd (xe_tup (xa_cons (xe_add (xe_mul (xe_ixN 4 xe_int) (xe_name 3)) xe_int) (xa_cons (xe_name 3) xa_nil))))
    (xss_cons (xs_for b.own rfl (xi_range1 rfl M.n_range (xa_cons xe_int xa_nil)) (xg_name 6 sc__law_beside.nd) (xss_cons (xs_set 7 sc__law_beside.nd (xe_add xe_int (XV.toE (xv_callB 0 (h__law_take.cal b.room) b.tk (xa_cons (xe_ix (xe_o (xo_lst (xa_cons xe_int (xa_cons xe_int (xa_cons xe_int xa_nil))))) (XV.toE (xv_callB 0 (h__law_take.cal b.room) b.tk (xa_cons xe_int xa_nil) (len_cons len_nil).plus))) xa_nil) (len_cons len_nil).plus))))
    (xss_cons (xs_set 8 sc__law_beside.nd (xe_tup (xa_cons (xe_add (xe_mul (xe_name 7) (xe_ixN 5 xe_int)) (xe_ixN 4 xe_int)) (xa_cons (xe_add (xe_mul (xe_name 7) (xe_ixN 5 xe_int)) (xe_ixN 4 xe_int)) xa_nil))))
    (xss_cons (xs_if (xt_ge (xe_maxT rfl rfl M.n_max (xa_cons (xe_name 8) xa_nil)) (xe_min2 rfl rfl M.n_min (xa_cons (xe_name 2) (xa_cons (xe_name 1) xa_nil)))) (xss_one xs_break) xss_nil)
    (xss_one (xs_par 4 5 rfl sc__law_beside.nd (xm_v (xe_name 5) (xm_v (xe_name 8) xm_nil))))))))
    (xss_one (xs_ret (xe_tup (xa_cons (xe_name 4) (xa_cons (xe_name 5) xa_nil))))))))))) runFn_spec (by decide)
theorem kn__law_beside {P : Program} {w : World} {K : PySem.W.Frag} {mg : Str → Option Value} {base : Heap} (M : Md K mg) (h__law_take : Kn P w K mg base 1 "_law_take" 2 g__law_take) : Kn P w K mg base 2 "_law_beside" 1 g__law_beside :=
  Kn.mk' (ps := ["box"]) M.d__law_beside rfl (fun f fd F => kf__law_beside M h__law_take F) (fun _ _ _ _ _ _ us hl => match us, hl with | [_], _ => rfl)
def t__law_some : XRS := (seqS (asgS (asT (callRB g__law_beside 0 nilA)) (gTu 2 (gCons (gN 1) (gCons (gN 2) gNil))))
    (seqS (setO 3 (lstO (consA (rd 1) (consA (rd 2) (consA (tupE (consA (e1 tNeg (slIx 1 (kT (.int 0)))) (consA (slIx 1 (kT (.int 1))) nilA))) (consA (tupE (consA (e1 tNeg (slIx 2 (kT (.int 0)))) (consA (slIx 2 (kT (.int 1))) nilA))) nilA))))))
    (seqS (ifS (andB (cmpB tLt (e2 tAdd (slIx 1 (kT (.int 0))) (slIx 2 (kT (.int 0)))) (e2 tPow (kT (.int 10)) (kT (.int 20)))) (cmpB tLt (e2 tAdd (slIx 1 (kT (.int 1))) (slIx 2 (kT (.int 1)))) (e2 tPow (kT (.int 10)) (kT (.int 20))))) (dropS (apS 3 (tupE (consA (e2 tAdd (slIx 1 (kT (.int 0))) (slIx 2 (kT (.int 0)))) (consA (e2 tAdd (slIx 1 (kT (.int 1))) (slIx 2 (kT (.int 1)))) nilA))))) nextS)
    (seqS (parS [4, 5] (consMv (e2 tIx (gives (lstO (consA (e2 tAdd (kT (.int 1)) (asT (callRB g__law_take 0 (consA (kT (.int 9)) nilA)))) (consA (e2 tAdd (kT (.int 2)) (asT (callRB g__law_take 0 (consA (e2 tPow (kT (.int 10)) (kT (.int 9))) nilA)))) nilA)))) (asT (callRB g__law_take 0 (consA (kT (.int 2)) nilA)))) (consMv (e2 tSub (asT (callRB g__law_take 0 (consA (e2 tPow (kT (.int 10)) (kT (.int 9))) nilA))) (e2 tMul (kT (.int 5)) (e2 tPow (kT (.int 10)) (kT (.int 8))))) nilM)))
    (seqS (forS (seqI (tupE (consA (e2 tSub (e2 tMul (rd 5) (rd 4)) (kT (.int 1))) (consA (e2 tMul (rd 5) (rd 4)) (consA (e2 tAdd (e2 tMul (rd 5) (rd 4)) (kT (.int 1))) nilA))))) (gN 6) (dropS (apS 3 (asT (callR g__law_low (consA (rd 6) (consA (rd 4) nilA)))))))
    (retS (e2 tAdd (rd 3) (gives (lstO (consA (slc (e2 tAdd (slIx 3 (asT (callRB g__law_take 0 (consA (slLen 3) nilA)))) (tupE (consA (kT (.int 0)) nilA))) noP (asP (kT (.int 2)))) nilA))))))))))
def g__law_some : Fn := runFn 7 t__law_some
theorem kf__law_some {P : Program} {w : World} {K : PySem.W.Frag} {mg : Str → Option Value} {base : Heap} (M : Md K mg) (h__law_beside : Kn P w K mg base 2 "_law_beside" 1 g__law_beside) (h__law_take : Kn P w K mg base 1 "_law_take" 2 g__law_take) (h__law_low : Kn P w K mg base 2 "_law_low" 2 g__law_low) {f : Addr} {fd : FuncData} (F : Fun K "_law_some" "_law_some" s__law_some f fd) : FnT P w K mg base 3 f fd ["box"] g__law_some :=
  Fun.okT (τ := t__law_some) F sc__law_some (fun cdv A outer s H E b => 
    (xss_cons (xs_asg (XV.toE (xv_callB 0 (h__law_beside.cal b.room) b.tk xa_nil len_nil.plus)) (xg_tup rfl (xgs_cons (xg_name 1 sc__law_some.nd) (xgs_cons (xg_name 2 sc__law_some.nd) xgs_nil))))
    (xss_cons (xs_setO 3 sc__law_some.nd (xo_lst (xa_cons (xe_name 1) (xa_cons (xe_name 2) (xa_cons (xe_tup (xa_cons (xe_neg (xe_ixN 1 xe_int)) (xa_cons (xe_ixN 1 xe_int) xa_nil))) (xa_cons (xe_tup (xa_cons (xe_neg (xe_ixN 2 xe_int)) (xa_cons (xe_ixN 2 xe_int) xa_nil))) xa_nil))))))
    (xss_cons (xs_if (xt_w (xw_and (xt_lt (xe_add (xe_ixN 1 xe_int) (xe_ixN 2 xe_int)) (xe_pow xe_int xe_int)) (xw_and1 (xt_lt (xe_add (xe_ixN 1 xe_int) (xe_ixN 2 xe_int)) (xe_pow xe_int xe_int))))) (xss_one (xs_expr (xe_append 3 (xe_tup (xa_cons (xe_add (xe_ixN 1 xe_int) (xe_ixN 2 xe_int)) (xa_cons (xe_add (xe_ixN 1 xe_int) (xe_ixN 2 xe_int)) xa_nil)))))) xss_nil)
    (xss_cons (xs_par 4 5 rfl sc__law_some.nd (xm_v (xe_ix (xe_o (xo_lst (xa_cons (xe_add xe_int (XV.toE (xv_callB 0 (h__law_take.cal b.room) b.tk (xa_cons xe_int xa_nil) (len_cons len_nil).plus))) (xa_cons (xe_add xe_int (XV.toE (xv_callB 0 (h__law_take.cal b.room) b.tk (xa_cons (xe_pow xe_int xe_int) xa_nil) (len_cons len_nil).plus))) xa_nil)))) (XV.toE (xv_callB 0 (h__law_take.cal b.room) b.tk (xa_cons xe_int xa_nil) (len_cons len_nil).plus))) (xm_v (xe_sub (XV.toE (xv_callB 0 (h__law_take.cal b.room) b.tk (xa_cons (xe_pow xe_int xe_int) xa_nil) (len_cons len_nil).plus)) (xe_mul xe_int (xe_pow xe_int xe_int))) xm_nil)))
    (xss_cons (xs_for b.own rfl (xi_seq (xe_tup (xa_cons (xe_sub (xe_mul (xe_name 5) (xe_name 4)) xe_int) (xa_cons (xe_mul (xe_name 5) (xe_name 4)) (xa_cons (xe_add (xe_mul (xe_name 5) (xe_name 4)) xe_int) xa_nil))))) (xg_name 6 sc__law_some.nd) (xss_one (xs_expr (xe_append 3 (XV.toE (xv_call (h__law_low.cal b.room) b.tk (xa_cons (xe_name 6) (xa_cons (xe_name 4) xa_nil)) (len_cons (len_cons len_nil))))))))
    (xss_one (xs_ret (xe_add (xe_name 3) (xe_o (xo_lst (xa_cons (xe_sl (xe_add (xe_ixN 3 (XV.toE (xv_callB 0 (h__law_take.cal b.room) b.tk (xa_cons (xe_lenN 3 rfl M.n_len) xa_nil) (len_cons len_nil).plus))) (xe_tup (xa_cons xe_int xa_nil))) xp_none (xp_some xe_int)) xa_nil)))))))))))) runFn_spec (by decide)
theorem kn__law_some {P : Program} {w : World} {K : PySem.W.Frag} {mg : Str → Option Value} {base : Heap} (M : Md K mg) (h__law_beside : Kn P w K mg base 2 "_law_beside" 1 g__law_beside) (h__law_take : Kn P w K mg base 1 "_law_take" 2 g__law_take) (h__law_low : Kn P w K mg base 2 "_law_low" 2 g__law_low) : Kn P w K mg base 3 "_law_some" 1 g__law_some :=
  Kn.mk' (ps := ["box"]) M.d__law_some rfl (fun f fd F => kf__law_some M h__law_beside h__law_take h__law_low F) (fun _ _ _ _ _ _ us hl => match us, hl with | [_], _ => rfl)
def t__law_asked : XRS := (seqS (ifS (cmpB tEq (rd 0) (kT (.str "low"))) (retS (ifE (b1 tTru (rd 3)) (asT (callRK g_low pmS (consA (rd 2) (consA (rd 1) nilA)))) (asT (callR g_low (consA (rd 1) (consA (rd 2) nilA)))))) nextS)
    (seqS (ifS (cmpB tEq (rd 0) (kT (.str "plus"))) (retS (ifE (b1 tTru (rd 3)) (asT (callRK g_plus pmS (consA (rd 2) (consA (rd 1) nilA)))) (asT (callR g_plus (consA (rd 1) (consA (rd 2) nilA)))))) nextS)
    (seqS (ifS (cmpB tEq (rd 0) (kT (.str "minus"))) (retS (ifE (b1 tTru (rd 3)) (asT (callRK g_minus pmS (consA (rd 2) (consA (rd 1) nilA)))) (asT (callR g_minus (consA (rd 1) (consA (rd 2) nilA)))))) nextS)
    (seqS (ifS (cmpB tEq (rd 0) (kT (.str "times"))) (retS (ifE (b1 tTru (rd 3)) (asT (callRK g_times pmS (consA (rd 2) (consA (rd 1) nilA)))) (asT (callR g_times (consA (rd 1) (consA (rd 2) nilA)))))) nextS)
    (seqS (ifS (cmpB tEq (rd 0) (kT (.str "over"))) (retS (ifE (b1 tTru (rd 3)) (asT (callRK g_over pmS (consA (rd 2) (consA (rd 1) nilA)))) (asT (callR g_over (consA (rd 1) (consA (rd 2) nilA)))))) nextS)
    (retS (ifE (b1 tTru (rd 3)) (asT (callRK g_compared pmS (consA (rd 2) (consA (rd 1) nilA)))) (asT (callR g_compared (consA (rd 1) (consA (rd 2) nilA)))))))))))
def g__law_asked : Fn := runFn 4 t__law_asked
theorem kf__law_asked {P : Program} {w : World} {K : PySem.W.Frag} {mg : Str → Option Value} {base : Heap} (M : Md K mg) (h_low : Kn P w K mg base 3 "low" 2 g_low) (hk_low_base_top : KnK P w K mg base 3 "low" 2 ["base", "top"] pmS g_low) (h_plus : Kn P w K mg base 5 "plus" 2 g_plus) (hk_plus_other_one : KnK P w K mg base 5 "plus" 2 ["other", "one"] pmS g_plus) (h_minus : Kn P w K mg base 5 "minus" 2 g_minus) (hk_minus_other_one : KnK P w K mg base 5 "minus" 2 ["other", "one"] pmS g_minus) (h_times : Kn P w K mg base 5 "times" 2 g_times) (hk_times_other_one : KnK P w K mg base 5 "times" 2 ["other", "one"] pmS g_times) (h_over : Kn P w K mg base 5 "over" 2 g_over) (hk_over_other_one : KnK P w K mg base 5 "over" 2 ["other", "one"] pmS g_over) (h_compared : Kn P w K mg base 5 "compared" 2 g_compared) (hk_compared_other_one : KnK P w K mg base 5 "compared" 2 ["other", "one"] pmS g_compared) {f : Addr} {fd : FuncData} (F : Fun K "_law_asked" "_law_asked" s__law_asked f fd) : FnT P w K mg base 6 f fd ["word", "one", "other", "named"] g__law_asked :=
  Fun.okT (τ := t__law_asked) F sc__law_asked (fun cdv A outer s H E b => 
    (xss_cons (xs_if (xt_eq b.units (xe_name 0) xe_str) (xss_one (xs_ret (xe_if (xt_truth (xe_name 3)) (XV.toE (xv_callK ((hk_low_base_top).cal b.room) b.tk pmS_ok (xk_cons (xe_name 2) (xk_cons (xe_name 1) xk_nil)) (len_cons (len_cons len_nil)).kS)) (XV.toE (xv_call (h_low.cal b.room) b.tk (xa_cons (xe_name 1) (xa_cons (xe_name 2) xa_nil)) (len_cons (len_cons len_nil))))))) xss_nil)
    (xss_cons (xs_if (xt_eq b.units (xe_name 0) xe_str) (xss_one (xs_ret (xe_if (xt_truth (xe_name 3)) (XV.toE (xv_callK ((hk_plus_other_one).cal b.room) b.tk pmS_ok (xk_cons (xe_name 2) (xk_cons (xe_name 1) xk_nil)) (len_cons (len_cons len_nil)).kS)) (XV.toE (xv_call (h_plus.cal b.room) b.tk (xa_cons (xe_name 1) (xa_cons (xe_name 2) xa_nil)) (len_cons (len_cons len_nil))))))) xss_nil)
    (xss_cons (xs_if (xt_eq b.units (xe_name 0) xe_str) (xss_one (xs_ret (xe_if (xt_truth (xe_name 3)) (XV.toE (xv_callK ((hk_minus_other_one).cal b.room) b.tk pmS_ok (xk_cons (xe_name 2) (xk_cons (xe_name 1) xk_nil)) (len_cons (len_cons len_nil)).kS)) (XV.toE (xv_call (h_minus.cal b.room) b.tk (xa_cons (xe_name 1) (xa_cons (xe_name 2) xa_nil)) (len_cons (len_cons len_nil))))))) xss_nil)
    (xss_cons (xs_if (xt_eq b.units (xe_name 0) xe_str) (xss_one (xs_ret (xe_if (xt_truth (xe_name 3)) (XV.toE (xv_callK ((hk_times_other_one).cal b.room) b.tk pmS_ok (xk_cons (xe_name 2) (xk_cons (xe_name 1) xk_nil)) (len_cons (len_cons len_nil)).kS)) (XV.toE (xv_call (h_times.cal b.room) b.tk (xa_cons (xe_name 1) (xa_cons (xe_name 2) xa_nil)) (len_cons (len_cons len_nil))))))) xss_nil)
    (xss_cons (xs_if (xt_eq b.units (xe_name 0) xe_str) (xss_one (xs_ret (xe_if (xt_truth (xe_name 3)) (XV.toE (xv_callK ((hk_over_other_one).cal b.room) b.tk pmS_ok (xk_cons (xe_name 2) (xk_cons (xe_name 1) xk_nil)) (len_cons (len_cons len_nil)).kS)) (XV.toE (xv_call (h_over.cal b.room) b.tk (xa_cons (xe_name 1) (xa_cons (xe_name 2) xa_nil)) (len_cons (len_cons len_nil))))))) xss_nil)
    (xss_one (xs_ret (xe_if (xt_truth (xe_name 3)) (XV.toE (xv_callK ((hk_compared_other_one).cal b.room) b.tk pmS_ok (xk_cons (xe_name 2) (xk_cons (xe_name 1) xk_nil)) (len_cons (len_cons len_nil)).kS)) (XV.toE (xv_call (h_compared.cal b.room) b.tk (xa_cons (xe_name 1) (xa_cons (xe_name 2) xa_nil)) (len_cons (len_cons len_nil))))))))))))) runFn_spec (by decide)
theorem kn__law_asked {P : Program} {w : World} {K : PySem.W.Frag} {mg : Str → Option Value} {base : Heap} (M : Md K mg) (h_low : Kn P w K mg base 3 "low" 2 g_low) (hk_low_base_top : KnK P w K mg base 3 "low" 2 ["base", "top"] pmS g_low) (h_plus : Kn P w K mg base 5 "plus" 2 g_plus) (hk_plus_other_one : KnK P w K mg base 5 "plus" 2 ["other", "one"] pmS g_plus) (h_minus : Kn P w K mg base 5 "minus" 2 g_minus) (hk_minus_other_one : KnK P w K mg base 5 "minus" 2 ["other", "one"] pmS g_minus) (h_times : Kn P w K mg base 5 "times" 2 g_times) (hk_times_other_one : KnK P w K mg base 5 "times" 2 ["other", "one"] pmS g_times) (h_over : Kn P w K mg base 5 "over" 2 g_over) (hk_over_other_one : KnK P w K mg base 5 "over" 2 ["other", "one"] pmS g_over) (h_compared : Kn P w K mg base 5 "compared" 2 g_compared) (hk_compared_other_one : KnK P w K mg base 5 "compared" 2 ["other", "one"] pmS g_compared) : Kn P w K mg base 6 "_law_asked" 4 g__law_asked :=
  Kn.mk' (ps := ["word", "one", "other", "named"]) M.d__law_asked rfl (fun f fd F => kf__law_asked M h_low hk_low_base_top h_plus hk_plus_other_one h_minus hk_minus_other_one h_times hk_times_other_one h_over hk_over_other_one h_compared hk_compared_other_one F) (fun _ _ _ _ _ _ us hl => match us, hl with | [_, _, _, _], _ => rfl)
def t__law_pairs_right : XRS := (seqS (forS (seqI (rd 0)) (gN 2) (forS (seqI (rd 0)) (gN 3) (seqS (parS [4, 5] (consMv (e2 tMul (slIx 2 (kT (.int 0))) (slIx 3 (kT (.int 1)))) (consMv (e2 tMul (slIx 3 (kT (.int 0))) (slIx 2 (kT (.int 1)))) nilM)))
    (seqS (ifS (notB (b1 tTru (asT (callR g__law_same (consA (asT (callR g__law_asked (consA (kT (.str "compared")) (consA (rd 2) (consA (rd 3) (consA (rd 1) nilA)))))) (consA (e2 tSub (callA tInt (consA (e2 tGt (rd 4) (rd 5)) nilA)) (callA tInt (consA (e2 tLt (rd 4) (rd 5)) nilA))) nilA)))))) (retS (kT (.bl false))) nextS)
    (setS 1 (notV (rd 1)))))))
    (seqS (forS (seqI (gives (lstO (consA (tupE (consA (slIx 0 (kT (.int 0))) (consA (slIx 0 (kT (.int 1))) nilA))) (consA (tupE (consA (slIx 0 (kT (.int 1))) (consA (slIx 0 (kT (.int 0))) nilA))) (consA (tupE (consA (slIx 0 (kT (.int 2))) (consA (slIx 0 (kT (.int 3))) nilA))) nilA)))))) (gTu 2 (gCons (gN 2) (gCons (gN 3) gNil))) (seqS (setS 6 (e2 tSub (e2 tMul (slIx 2 (kT (.int 0))) (slIx 3 (kT (.int 1)))) (e2 tMul (slIx 3 (kT (.int 0))) (slIx 2 (kT (.int 1))))))
    (seqS (ifS (orB (notB (b1 tTru (asT (callR g__law_same (consA (asT (callR g__law_asked (consA (kT (.str "minus")) (consA (rd 2) (consA (rd 3) (consA (rd 1) nilA)))))) (consA (tupE (consA (rd 6) (consA (e2 tMul (slIx 2 (kT (.int 1))) (slIx 3 (kT (.int 1)))) nilA))) nilA)))))) (cmpB tNe (callA tAbs (consA (rd 6) nilA)) (kT (.int 1)))) (retS (kT (.bl false))) nextS)
    (setS 1 (notV (rd 1))))))
    (retS (kT (.bl true)))))
def g__law_pairs_right : Fn := runFn 7 t__law_pairs_right
theorem kf__law_pairs_right {P : Program} {w : World} {K : PySem.W.Frag} {mg : Str → Option Value} {base : Heap} (M : Md K mg) (h__law_same : Kn P w K mg base 5 "_law_same" 2 g__law_same) (h__law_asked : Kn P w K mg base 6 "_law_asked" 4 g__law_asked) {f : Addr} {fd : FuncData} (F : Fun K "_law_pairs_right" "_law_pairs_right" s__law_pairs_right f fd) : FnT P w K mg base 7 f fd ["some", "named"] g__law_pairs_right :=
  Fun.okT (τ := t__law_pairs_right) F sc__law_pairs_right (fun cdv A outer s H E b => 
    (xss_cons (xs_for b.own rfl (xi_seq (xe_name 0)) (xg_name 2 sc__law_pairs_right.nd) (xss_one (xs_for b.own rfl (xi_seq (xe_name 0)) (xg_name 3 sc__law_pairs_right.nd) (xss_cons (xs_par 4 5 rfl sc__law_pairs_right.nd (xm_v (xe_mul (xe_ixN 2 xe_int) (xe_ixN 3 xe_int)) (xm_v (xe_mul (xe_ixN 3 xe_int) (xe_ixN 2 xe_int)) xm_nil)))
    (xss_cons (xs_if (xt_not (xt_truth (XV.toE (xv_call (h__law_same.cal b.room) b.tk (xa_cons (XV.toE (xv_call (h__law_asked.cal b.room) b.tk (xa_cons xe_str (xa_cons (xe_name 2) (xa_cons (xe_name 3) (xa_cons (xe_name 1) xa_nil)))) (len_cons (len_cons (len_cons (len_cons len_nil)))))) (xa_cons (xe_sub (xe_intC rfl M.n_int (xa_cons (xe_gt (xe_name 4) (xe_name 5)) xa_nil)) (xe_intC rfl M.n_int (xa_cons (xe_lt (xe_name 4) (xe_name 5)) xa_nil))) xa_nil)) (len_cons (len_cons len_nil)))))) (xss_one (xs_ret xe_bl)) xss_nil)
    (xss_one (xs_set 1 sc__law_pairs_right.nd (xe_not (xe_name 1)))))))))
    (xss_cons (xs_for b.own rfl (xi_seq (xe_o (xo_lst (xa_cons (xe_tup (xa_cons (xe_ixN 0 xe_int) (xa_cons (xe_ixN 0 xe_int) xa_nil))) (xa_cons (xe_tup (xa_cons (xe_ixN 0 xe_int) (xa_cons (xe_ixN 0 xe_int) xa_nil))) (xa_cons (xe_tup (xa_cons (xe_ixN 0 xe_int) (xa_cons (xe_ixN 0 xe_int) xa_nil))) xa_nil)))))) (xg_tup rfl (xgs_cons (xg_name 2 sc__law_pairs_right.nd) (xgs_cons (xg_name 3 sc__law_pairs_right.nd) xgs_nil))) (xss_cons (xs_set 6 sc__law_pairs_right.nd (xe_sub (xe_mul (xe_ixN 2 xe_int) (xe_ixN 3 xe_int)) (xe_mul (xe_ixN 3 xe_int) (xe_ixN 2 xe_int))))
    (xss_cons (xs_if (xt_w (xw_or (xt_not (xt_truth (XV.toE (xv_call (h__law_same.cal b.room) b.tk (xa_cons (XV.toE (xv_call (h__law_asked.cal b.room) b.tk (xa_cons xe_str (xa_cons (xe_name 2) (xa_cons (xe_name 3) (xa_cons (xe_name 1) xa_nil)))) (len_cons (len_cons (len_cons (len_cons len_nil)))))) (xa_cons (xe_tup (xa_cons (xe_name 6) (xa_cons (xe_mul (xe_ixN 2 xe_int) (xe_ixN 3 xe_int)) xa_nil))) xa_nil)) (len_cons (len_cons len_nil)))))) (xw_or1 (xt_ne b.units (xe_abs rfl M.n_abs (xa_cons (xe_name 6) xa_nil)) xe_int)))) (xss_one (xs_ret xe_bl)) xss_nil)
    (xss_one (xs_set 1 sc__law_pairs_right.nd (xe_not (xe_name 1)))))))
    (xss_one (xs_ret xe_bl))))) runFn_spec (by decide)
theorem kn__law_pairs_right {P : Program} {w : World} {K : PySem.W.Frag} {mg : Str → Option Value} {base : Heap} (M : Md K mg) (h__law_same : Kn P w K mg base 5 "_law_same" 2 g__law_same) (h__law_asked : Kn P w K mg base 6 "_law_asked" 4 g__law_asked) : Kn P w K mg base 7 "_law_pairs_right" 2 g__law_pairs_right :=
  Kn.mk' (ps := ["some", "named"]) M.d__law_pairs_right rfl (fun f fd F => kf__law_pairs_right M h__law_same h__law_asked F) (fun _ _ _ _ _ _ us hl => match us, hl with | [_, _], _ => rfl)
def t__law_each_right : XRS := (seqS (forS (seqI (rd 0)) (gN 2) (seqS (setO 3 (lstO (consA (e2 tDiv (slIx 2 (kT (.int 0))) (slIx 2 (kT (.int 1)))) (consA (e1 tNeg (e2 tDiv (e1 tNeg (slIx 2 (kT (.int 0)))) (slIx 2 (kT (.int 1))))) (consA (e2 tAdd (callA tStr (consA (slIx 2 (kT (.int 0))) nilA)) (ifE (cmpB tEq (slIx 2 (kT (.int 1))) (kT (.int 1))) (kT (.str "")) (e2 tAdd (kT (.str "/")) (callA tStr (consA (slIx 2 (kT (.int 1))) nilA))))) (consA (kT (.bl true)) nilA))))))
    (seqS (setO 4 (lstO (consA (asT (callRK g_floor_of pmI (consA (rd 2) nilA))) (consA (asT (callRK g_ceiling_of pmI (consA (rd 2) nilA))) (consA (asT (callRK g_fraction_text pmI (consA (rd 2) nilA))) (consA (asT (callRK g_is_fraction pmI (consA (rd 2) nilA))) nilA))))))
    (seqS (ifS (notB (b1 tTru (rd 1))) (setO 4 (lstO (consA (asT (callR g_floor_of (consA (rd 2) nilA))) (consA (asT (callR g_ceiling_of (consA (rd 2) nilA))) (consA (asT (callR g_fraction_text (consA (rd 2) nilA))) (consA (asT (callR g_is_fraction (consA (rd 2) nilA))) nilA)))))) nextS)
    (seqS (ifS (orB (notB (b1 tTru (asT (callR g__law_same (consA (rd 4) (consA (rd 3) nilA)))))) (notB (b1 tTru (asT (callR g__law_same (consA (ifE (b1 tTru (rd 1)) (asT (callRK g_read_fraction pmI (consA (slIx 3 (kT (.int 2))) nilA))) (asT (callR g_read_fraction (consA (slIx 3 (kT (.int 2))) nilA)))) (consA (rd 2) nilA))))))) (retS (kT (.bl false))) nextS)
    (setS 1 (notV (rd 1))))))))
    (seqS (setS 5 (kT (.int 1)))
    (seqS (forS (seqI (rd 0)) (gN 2) (setS 5 (e2 tDiv (e2 tMul (rd 5) (slIx 2 (kT (.int 1)))) (asT (callR g__law_divisor (consA (rd 5) (consA (slIx 2 (kT (.int 1))) nilA)))))))
    (seqS (setO 6 (lcS (seqI (rd 0)) (gN 2) yesB (e2 tMul (slIx 2 (kT (.int 0))) (e2 tDiv (rd 5) (slIx 2 (kT (.int 1))))) [2]))
    (seqS (setS 4 (ifE (b1 tTru (rd 1)) (gives (lstO (consA (asT (callRK g_common_base pmI (consA (rd 0) nilA))) (consA (asT (callR g_total_of (consA (rd 0) nilA))) nilA)))) (gives (lstO (consA (asT (callR g_common_base (consA (callA tTup (consA (rd 0) nilA)) nilA))) (consA (asT (callRK g_total_of pmI (consA (rd 0) nilA))) nilA))))))
    (retS (asT (callR g__law_same (consA (rd 4) (consA (gives (lstO (consA (tupE (consA (rd 5) (consA (rd 6) nilA))) (consA (asT (callR g__law_low (consA (callA tSum (consA (rd 6) nilA)) (consA (rd 5) nilA)))) nilA)))) nilA))))))))))
def g__law_each_right : Fn := runFn 7 t__law_each_right
theorem kf__law_each_right {P : Program} {w : World} {K : PySem.W.Frag} {mg : Str → Option Value} {base : Heap} (M : Md K mg) (h_floor_of : Kn P w K mg base 4 "floor_of" 1 g_floor_of) (hk_floor_of_fraction : KnK P w K mg base 4 "floor_of" 1 ["fraction"] pmI g_floor_of) (h_ceiling_of : Kn P w K mg base 4 "ceiling_of" 1 g_ceiling_of) (hk_ceiling_of_fraction : KnK P w K mg base 4 "ceiling_of" 1 ["fraction"] pmI g_ceiling_of) (h_fraction_text : Kn P w K mg base 4 "fraction_text" 1 g_fraction_text) (hk_fraction_text_fraction : KnK P w K mg base 4 "fraction_text" 1 ["fraction"] pmI g_fraction_text) (h_is_fraction : Kn P w K mg base 2 "is_fraction" 1 g_is_fraction) (hk_is_fraction_value : KnK P w K mg base 2 "is_fraction" 1 ["value"] pmI g_is_fraction) (h__law_same : Kn P w K mg base 5 "_law_same" 2 g__law_same) (h_read_fraction : Kn P w K mg base 4 "read_fraction" 1 g_read_fraction) (hk_read_fraction_text : KnK P w K mg base 4 "read_fraction" 1 ["text"] pmI g_read_fraction) (h__law_divisor : Kn P w K mg base 1 "_law_divisor" 2 g__law_divisor) (h_common_base : Kn P w K mg base 4 "common_base" 1 g_common_base) (hk_common_base_fractions : KnK P w K mg base 4 "common_base" 1 ["fractions"] pmI g_common_base) (h_total_of : Kn P w K mg base 5 "total_of" 1 g_total_of) (hk_total_of_fractions : KnK P w K mg base 5 "total_of" 1 ["fractions"] pmI g_total_of) (h__law_low : Kn P w K mg base 2 "_law_low" 2 g__law_low) {f : Addr} {fd : FuncData} (F : Fun K "_law_each_right" "_law_each_right" s__law_each_right f fd) : FnT P w K mg base 6 f fd ["some", "named"] g__law_each_right :=
  Fun.okT (τ := t__law_each_right) F sc__law_each_right (fun cdv A outer s H E b => 
    (xss_cons (xs_for b.own rfl (xi_seq (xe_name 0)) (xg_name 2 sc__law_each_right.nd) (xss_cons (xs_setO 3 sc__law_each_right.nd (xo_lst (xa_cons (xe_div (xe_ixN 2 xe_int) (xe_ixN 2 xe_int)) (xa_cons (xe_neg (xe_div (xe_neg (xe_ixN 2 xe_int)) (xe_ixN 2 xe_int))) (xa_cons (xe_add (xe_strC rfl M.n_str (xa_cons (xe_ixN 2 xe_int) xa_nil)) (xe_if (xt_eq b.units (xe_ixN 2 xe_int) xe_int) xe_str (xe_add xe_str (xe_strC rfl M.n_str (xa_cons (xe_ixN 2 xe_int) xa_nil))))) (xa_cons xe_bl xa_nil))))))
    (xss_cons (xs_setO 4 sc__law_each_right.nd (xo_lst (xa_cons (XV.toE (xv_callK ((hk_floor_of_fraction).cal b.room) b.tk pmI_ok (xk_cons (xe_name 2) xk_nil) (len_cons len_nil).kI)) (xa_cons (XV.toE (xv_callK ((hk_ceiling_of_fraction).cal b.room) b.tk pmI_ok (xk_cons (xe_name 2) xk_nil) (len_cons len_nil).kI)) (xa_cons (XV.toE (xv_callK ((hk_fraction_text_fraction).cal b.room) b.tk pmI_ok (xk_cons (xe_name 2) xk_nil) (len_cons len_nil).kI)) (xa_cons (XV.toE (xv_callK ((hk_is_fraction_value).cal b.room) b.tk pmI_ok (xk_cons (xe_name 2) xk_nil) (len_cons len_nil).kI)) xa_nil))))))
    (xss_cons (xs_if (xt_not (xt_truth (xe_name 1))) (xss_one (xs_setO 4 sc__law_each_right.nd (xo_lst (xa_cons (XV.toE (xv_call (h_floor_of.cal b.room) b.tk (xa_cons (xe_name 2) xa_nil) (len_cons len_nil))) (xa_cons (XV.toE (xv_call (h_ceiling_of.cal b.room) b.tk (xa_cons (xe_name 2) xa_nil) (len_cons len_nil))) (xa_cons (XV.toE (xv_call (h_fraction_text.cal b.room) b.tk (xa_cons (xe_name 2) xa_nil) (len_cons len_nil))) (xa_cons (XV.toE (xv_call (h_is_fraction.cal b.room) b.tk (xa_cons (xe_name 2) xa_nil) (len_cons len_nil))) xa_nil))))))) xss_nil)
    (xss_cons (xs_if (xt_w (xw_or (xt_not (xt_truth (XV.toE (xv_call (h__law_same.cal b.room) b.tk (xa_cons (xe_name 4) (xa_cons (xe_name 3) xa_nil)) (len_cons (len_cons len_nil)))))) (xw_or1 (xt_not (xt_truth (XV.toE (xv_call (h__law_same.cal b.room) b.tk (xa_cons (xe_if (xt_truth (xe_name 1)) (XV.toE (xv_callK ((hk_read_fraction_text).cal b.room) b.tk pmI_ok (xk_cons (xe_ixN 3 xe_int) xk_nil) (len_cons len_nil).kI)) (XV.toE (xv_call (h_read_fraction.cal b.room) b.tk (xa_cons (xe_ixN 3 xe_int) xa_nil) (len_cons len_nil)))) (xa_cons (xe_name 2) xa_nil)) (len_cons (len_cons len_nil))))))))) (xss_one (xs_ret xe_bl)) xss_nil)
    (xss_one (xs_set 1 sc__law_each_right.nd (xe_not (xe_name 1)))))))))
    (xss_cons (xs_set 5 sc__law_each_right.nd xe_int)
    (xss_cons (xs_for b.own rfl (xi_seq (xe_name 0)) (xg_name 2 sc__law_each_right.nd) (xss_one (xs_set 5 sc__law_each_right.nd (xe_div (xe_mul (xe_name 5) (xe_ixN 2 xe_int)) (XV.toE (xv_call (h__law_divisor.cal b.room) b.tk (xa_cons (xe_name 5) (xa_cons (xe_ixN 2 xe_int) xa_nil)) (len_cons (len_cons len_nil))))))))
    (xss_cons (xs_lc 6 rfl sc__law_each_right.nd (xi_seq (xe_name 0)) (own := [("one", 2)]) (blk_of (by rfl) (by first | rfl | kernel_rfl)) (fun _ _ _ _ _ => (xg_name 2 sc__law_each_right.nd)) (fun _ _ _ _ _ => (xe_mul (xe_ixN 2 xe_int) (xe_div (xe_name 5) (xe_ixN 2 xe_int)))) (by rfl))
    (xss_cons (xs_set 4 sc__law_each_right.nd (xe_if (xt_truth (xe_name 1)) (xe_o (xo_lst (xa_cons (XV.toE (xv_callK ((hk_common_base_fractions).cal b.room) b.tk pmI_ok (xk_cons (xe_name 0) xk_nil) (len_cons len_nil).kI)) (xa_cons (XV.toE (xv_call (h_total_of.cal b.room) b.tk (xa_cons (xe_name 0) xa_nil) (len_cons len_nil))) xa_nil)))) (xe_o (xo_lst (xa_cons (XV.toE (xv_call (h_common_base.cal b.room) b.tk (xa_cons (xe_tuple rfl M.n_tuple (xa_cons (xe_name 0) xa_nil)) xa_nil) (len_cons len_nil))) (xa_cons (XV.toE (xv_callK ((hk_total_of_fractions).cal b.room) b.tk pmI_ok (xk_cons (xe_name 0) xk_nil) (len_cons len_nil).kI)) xa_nil))))))
    (xss_one (xs_ret (XV.toE (xv_call (h__law_same.cal b.room) b.tk (xa_cons (xe_name 4) (xa_cons (xe_o (xo_lst (xa_cons (xe_tup (xa_cons (xe_name 5) (xa_cons (xe_name 6) xa_nil))) (xa_cons (XV.toE (xv_call (h__law_low.cal b.room) b.tk (xa_cons (xe_sum rfl rfl M.n_sum (xa_cons (xe_name 6) xa_nil)) (xa_cons (xe_name 5) xa_nil)) (len_cons (len_cons len_nil)))) xa_nil)))) xa_nil)) (len_cons (len_cons len_nil)))))))))))) runFn_spec (by decide)
theorem kn__law_each_right {P : Program} {w : World} {K : PySem.W.Frag} {mg : Str → Option Value} {base : Heap} (M : Md K mg) (h_floor_of : Kn P w K mg base 4 "floor_of" 1 g_floor_of) (hk_floor_of_fraction : KnK P w K mg base 4 "floor_of" 1 ["fraction"] pmI g_floor_of) (h_ceiling_of : Kn P w K mg base 4 "ceiling_of" 1 g_ceiling_of) (hk_ceiling_of_fraction : KnK P w K mg base 4 "ceiling_of" 1 ["fraction"] pmI g_ceiling_of) (h_fraction_text : Kn P w K mg base 4 "fraction_text" 1 g_fraction_text) (hk_fraction_text_fraction : KnK P w K mg base 4 "fraction_text" 1 ["fraction"] pmI g_fraction_text) (h_is_fraction : Kn P w K mg base 2 "is_fraction" 1 g_is_fraction) (hk_is_fraction_value : KnK P w K mg base 2 "is_fraction" 1 ["value"] pmI g_is_fraction) (h__law_same : Kn P w K mg base 5 "_law_same" 2 g__law_same) (h_read_fraction : Kn P w K mg base 4 "read_fraction" 1 g_read_fraction) (hk_read_fraction_text : KnK P w K mg base 4 "read_fraction" 1 ["text"] pmI g_read_fraction) (h__law_divisor : Kn P w K mg base 1 "_law_divisor" 2 g__law_divisor) (h_common_base : Kn P w K mg base 4 "common_base" 1 g_common_base) (hk_common_base_fractions : KnK P w K mg base 4 "common_base" 1 ["fractions"] pmI g_common_base) (h_total_of : Kn P w K mg base 5 "total_of" 1 g_total_of) (hk_total_of_fractions : KnK P w K mg base 5 "total_of" 1 ["fractions"] pmI g_total_of) (h__law_low : Kn P w K mg base 2 "_law_low" 2 g__law_low) : Kn P w K mg base 6 "_law_each_right" 2 g__law_each_right :=
  Kn.mk' (ps := ["some", "named"]) M.d__law_each_right rfl (fun f fd F => kf__law_each_right M h_floor_of hk_floor_of_fraction h_ceiling_of hk_ceiling_of_fraction h_fraction_text hk_fraction_text_fraction h_is_fraction hk_is_fraction_value h__law_same h_read_fraction hk_read_fraction_text h__law_divisor h_common_base hk_common_base_fractions h_total_of hk_total_of_fractions h__law_low F) (fun _ _ _ _ _ _ us hl => match us, hl with | [_, _], _ => rfl)
def t__law_divisors_right : XRS := (seqS (setS 2 (e2 tIx (gives (lstO (consA (e2 tAdd (kT (.int 2)) (asT (callRB g__law_take 0 (consA (e2 tMul (kT (.int 9)) (e2 tPow (kT (.int 10)) (kT (.int 9)))) nilA)))) (consA (e2 tMul (e2 tAdd (kT (.int 2)) (asT (callRB g__law_take 0 (consA (kT (.int 90000)) nilA)))) (e2 tAdd (kT (.int 2)) (asT (callRB g__law_take 0 (consA (kT (.int 90000)) nilA))))) (consA (e2 tAdd (e2 tPow (kT (.int 10)) (kT (.int 9))) (kT (.int 7))) nilA))))) (asT (callRB g__law_take 0 (consA (kT (.int 3)) nilA)))))
    (seqS (parS [3, 4, 5] (consMv (e2 tAdd (kT (.int 1)) (asT (callRB g__law_take 0 (consA (e2 tPow (kT (.int 10)) (kT (.int 9))) nilA)))) (consMv (e2 tAdd (kT (.int 1)) (asT (callRB g__law_take 0 (consA (e2 tPow (kT (.int 10)) (kT (.int 9))) nilA)))) (consMv (e2 tSub (kT (.int 1)) (e2 tMul (kT (.int 2)) (asT (callRB g__law_take 0 (consA (kT (.int 2)) nilA))))) nilM))))
    (seqS (setS 6 (asT (callR g__law_low (consA (e2 tMul (rd 5) (rd 3)) (consA (rd 4) nilA)))))
    (seqS (ifS (notB (b1 tTru (asT (callR g__law_same (consA (asT (callR g__law_asked (consA (kT (.str "low")) (consA (e2 tMul (e2 tMul (rd 5) (rd 3)) (rd 2)) (consA (e2 tMul (rd 4) (rd 2)) (consA (rd 1) nilA)))))) (consA (rd 6) nilA)))))) (retS (kT (.bl false))) nextS)
    (seqS (ifS (notB (b1 tTru (asT (callR g__law_same (consA (asT (callR g__law_asked (consA (kT (.str "low")) (consA (e2 tMul (rd 3) (rd 2)) (consA (e2 tMul (e2 tMul (e1 tNeg (rd 5)) (rd 4)) (rd 2)) (consA (notV (rd 1)) nilA)))))) (consA (tupE (consA (e1 tNeg (slIx 6 (kT (.int 0)))) (consA (slIx 6 (kT (.int 1))) nilA))) nilA)))))) (retS (kT (.bl false))) nextS)
    (seqS (setS 7 (tupE (consA (e2 tMul (slIx 6 (kT (.int 0))) (rd 2)) (consA (e2 tMul (slIx 6 (kT (.int 1))) (rd 2)) nilA))))
    (seqS (ifS (notB (b1 tTru (asT (callR g__law_same (consA (gives (lstO (consA (asT (callR g_is_fraction (consA (rd 7) nilA))) (consA (asT (callRK g_is_fraction pmI (consA (rd 6) nilA))) nilA)))) (consA (gives (lstO (consA (kT (.bl false)) (consA (kT (.bl true)) nilA)))) nilA)))))) (retS (kT (.bl false))) nextS)
    (seqS (setS 8 (e2 tAdd (e2 tAdd (callA tStr (consA (slIx 7 (kT (.int 0))) nilA)) (kT (.str "/"))) (callA tStr (consA (slIx 7 (kT (.int 1))) nilA))))
    (seqS (tryGv "InvalidText" 9 8 gh__law_same (retS (andV (e2 tIsN (asT (callRK g_read_fraction pmI (consA (rd 8) nilA))) (kT .non)) (kT (.bl false)))))
    (seqS (parS [10, 11, 12] (consMv (asT (callR g__law_low (consA (rd 3) (consA (rd 2) nilA)))) (consMv (asT (callR g__law_low (consA (rd 2) (consA (rd 4) nilA)))) (consMv (asT (callR g__law_low (consA (e2 tSub (rd 2) (rd 3)) (consA (rd 2) nilA)))) nilM))))
    (seqS (setO 13 (lstO (consA (tupE (consA (kT (.str "times")) (consA (rd 10) (consA (rd 11) (consA (asT (callR g__law_low (consA (rd 3) (consA (rd 4) nilA)))) nilA))))) (consA (tupE (consA (kT (.str "plus")) (consA (rd 10) (consA (rd 12) (consA (tupE (consA (kT (.int 1)) (consA (kT (.int 1)) nilA))) nilA))))) (consA (tupE (consA (kT (.str "minus")) (consA (rd 10) (consA (tupE (consA (e1 tNeg (slIx 12 (kT (.int 0)))) (consA (slIx 12 (kT (.int 1))) nilA))) (consA (tupE (consA (kT (.int 1)) (consA (kT (.int 1)) nilA))) nilA))))) (consA (tupE (consA (kT (.str "over")) (consA (rd 10) (consA (asT (callR g__law_low (consA (rd 4) (consA (rd 2) nilA)))) (consA (asT (callR g__law_low (consA (rd 3) (consA (rd 4) nilA)))) nilA))))) nilA))))))
    (seqS (dropS (apS 13 (tupE (consA (kT (.str "plus")) (consA (rd 10) (consA (rd 11) (consA (asT (callR g__law_low (consA (e2 tAdd (e2 tMul (rd 3) (rd 4)) (e2 tMul (rd 2) (rd 2))) (consA (e2 tMul (rd 2) (rd 4)) nilA)))) nilA)))))))
    (seqS (forS (seqI (rd 13)) (gTu 4 (gCons (gN 14) (gCons (gN 15) (gCons (gN 16) (gCons (gN 17) gNil))))) (seqS (ifS (notB (b1 tTru (asT (callR g__law_same (consA (asT (callR g__law_asked (consA (rd 14) (consA (rd 15) (consA (rd 16) (consA (rd 1) nilA)))))) (consA (rd 17) nilA)))))) (retS (kT (.bl false))) nextS)
    (setS 1 (notV (rd 1)))))
    (retS (kT (.bl true))))))))))))))))
def g__law_divisors_right : Fn := runFn 18 t__law_divisors_right
theorem kf__law_divisors_right {P : Program} {w : World} {K : PySem.W.Frag} {mg : Str → Option Value} {base : Heap} (M : Md K mg) (h__law_take : Kn P w K mg base 1 "_law_take" 2 g__law_take) (h__law_low : Kn P w K mg base 2 "_law_low" 2 g__law_low) (h__law_same : Kn P w K mg base 5 "_law_same" 2 g__law_same) (h__law_asked : Kn P w K mg base 6 "_law_asked" 4 g__law_asked) (h_is_fraction : Kn P w K mg base 2 "is_fraction" 1 g_is_fraction) (hk_is_fraction_value : KnK P w K mg base 2 "is_fraction" 1 ["value"] pmI g_is_fraction) (h_read_fraction : Kn P w K mg base 4 "read_fraction" 1 g_read_fraction) (hk_read_fraction_text : KnK P w K mg base 4 "read_fraction" 1 ["text"] pmI g_read_fraction) (hh__law_same : KnH P w K mg base 1 "_law_same" 2 gh__law_same) {f : Addr} {fd : FuncData} (F : Fun K "_law_divisors_right" "_law_divisors_right" s__law_divisors_right f fd) : FnT P w K mg base 7 f fd ["box", "named"] g__law_divisors_right :=
  Fun.okT (τ := t__law_divisors_right) F sc__law_divisors_right (fun cdv A outer s H E b => 
    (xss_cons (xs_set 2 sc__law_divisors_right.nd (xe_ix (xe_o (xo_lst (xa_cons (xe_add xe_int (XV.toE (xv_callB 0 (h__law_take.cal b.room) b.tk (xa_cons (xe_mul xe_int (xe_pow xe_int xe_int)) xa_nil) (len_cons len_nil).plus))) (xa_cons (xe_mul (xe_add xe_int (XV.toE (xv_callB 0 (h__law_take.cal b.room) b.tk (xa_cons xe_int xa_nil) (len_cons len_nil).plus))) (xe_add xe_int (XV.toE (xv_callB 0 (h__law_take.cal b.room) b.tk (xa_cons xe_int xa_nil) (len_cons len_nil).plus)))) (xa_cons (xe_add (xe_pow xe_int xe_int) xe_int) xa_nil))))) (XV.toE (xv_callB 0 (h__law_take.cal b.room) b.tk (xa_cons xe_int xa_nil) (len_cons len_nil).plus))))
    (xss_cons (xs_par3 3 4 5 rfl sc__law_divisors_right.nd (xm_v (xe_add xe_int (XV.toE (xv_callB 0 (h__law_take.cal b.room) b.tk (xa_cons (xe_pow xe_int xe_int) xa_nil) (len_cons len_nil).plus))) (xm_v (xe_add xe_int (XV.toE (xv_callB 0 (h__law_take.cal b.room) b.tk (xa_cons (xe_pow xe_int xe_int) xa_nil) (len_cons len_nil).plus))) (xm_v (xe_sub xe_int (xe_mul xe_int (XV.toE (xv_callB 0 (h__law_take.cal b.room) b.tk (xa_cons xe_int xa_nil) (len_cons len_nil).plus)))) xm_nil))))
    (xss_cons (xs_set 6 sc__law_divisors_right.nd (XV.toE (xv_call (h__law_low.cal b.room) b.tk (xa_cons (xe_mul (xe_name 5) (xe_name 3)) (xa_cons (xe_name 4) xa_nil)) (len_cons (len_cons len_nil)))))
    (xss_cons (xs_if (xt_not (xt_truth (XV.toE (xv_call (h__law_same.cal b.room) b.tk (xa_cons (XV.toE (xv_call (h__law_asked.cal b.room) b.tk (xa_cons xe_str (xa_cons (xe_mul (xe_mul (xe_name 5) (xe_name 3)) (xe_name 2)) (xa_cons (xe_mul (xe_name 4) (xe_name 2)) (xa_cons (xe_name 1) xa_nil)))) (len_cons (len_cons (len_cons (len_cons len_nil)))))) (xa_cons (xe_name 6) xa_nil)) (len_cons (len_cons len_nil)))))) (xss_one (xs_ret xe_bl)) xss_nil)
    (xss_cons (xs_if (xt_not (xt_truth (XV.toE (xv_call (h__law_same.cal b.room) b.tk (xa_cons (XV.toE (xv_call (h__law_asked.cal b.room) b.tk (xa_cons xe_str (xa_cons (xe_mul (xe_name 3) (xe_name 2)) (xa_cons (xe_mul (xe_mul (xe_neg (xe_name 5)) (xe_name 4)) (xe_name 2)) (xa_cons (xe_not (xe_name 1)) xa_nil)))) (len_cons (len_cons (len_cons (len_cons len_nil)))))) (xa_cons (xe_tup (xa_cons (xe_neg (xe_ixN 6 xe_int)) (xa_cons (xe_ixN 6 xe_int) xa_nil))) xa_nil)) (len_cons (len_cons len_nil)))))) (xss_one (xs_ret xe_bl)) xss_nil)
    (xss_cons (xs_set 7 sc__law_divisors_right.nd (xe_tup (xa_cons (xe_mul (xe_ixN 6 xe_int) (xe_name 2)) (xa_cons (xe_mul (xe_ixN 6 xe_int) (xe_name 2)) xa_nil))))
    (xss_cons (xs_if (xt_not (xt_truth (XV.toE (xv_call (h__law_same.cal b.room) b.tk (xa_cons (xe_o (xo_lst (xa_cons (XV.toE (xv_call (h_is_fraction.cal b.room) b.tk (xa_cons (xe_name 7) xa_nil) (len_cons len_nil))) (xa_cons (XV.toE (xv_callK ((hk_is_fraction_value).cal b.room) b.tk pmI_ok (xk_cons (xe_name 6) xk_nil) (len_cons len_nil).kI)) xa_nil)))) (xa_cons (xe_o (xo_lst (xa_cons xe_bl (xa_cons xe_bl xa_nil)))) xa_nil)) (len_cons (len_cons len_nil)))))) (xss_one (xs_ret xe_bl)) xss_nil)
    (xss_cons (xs_set 8 sc__law_divisors_right.nd (xe_add (xe_add (xe_strC rfl M.n_str (xa_cons (xe_ixN 7 xe_int) xa_nil)) xe_str) (xe_strC rfl M.n_str (xa_cons (xe_ixN 7 xe_int) xa_nil))))
    (xss_cons (xs_tryGv 9 8 rfl rfl sc__law_divisors_right.nd M.k_InvalidText.errc rfl (by decide) (hh__law_same.cal (L2H.roomH_of b.room)) (fun W pn xe tk po => (xss_one (xs_ret (xe_and (xe_isN (XV.toE (xv_callK ((hk_read_fraction_text).cal b.room) tk pmI_ok (xk_cons (xe_name 8) xk_nil) (len_cons len_nil).kI)) xe_non) (xe_one xe_bl))))) rfl rfl (Or.inl rfl) rfl (Or.inl rfl) (by decide) rfl (by decide) (by decide) (by decide) (by decide) (by decide) rfl rfl rfl rfl (by intro _; rfl))
    (xss_cons (xs_par3 10 11 12 rfl sc__law_divisors_right.nd (xm_v (XV.toE (xv_call (h__law_low.cal b.room) b.tk (xa_cons (xe_name 3) (xa_cons (xe_name 2) xa_nil)) (len_cons (len_cons len_nil)))) (xm_v (XV.toE (xv_call (h__law_low.cal b.room) b.tk (xa_cons (xe_name 2) (xa_cons (xe_name 4) xa_nil)) (len_cons (len_cons len_nil)))) (xm_v (XV.toE (xv_call (h__law_low.cal b.room) b.tk (xa_cons (xe_sub (xe_name 2) (xe_name 3)) (xa_cons (xe_name 2) xa_nil)) (len_cons (len_cons len_nil)))) xm_nil))))
    (xss_cons (xs_setO 13 sc__law_divisors_right.nd (xo_lst (xa_cons (xe_tup (xa_cons xe_str (xa_cons (xe_name 10) (xa_cons (xe_name 11) (xa_cons (XV.toE (xv_call (h__law_low.cal b.room) b.tk (xa_cons (xe_name 3) (xa_cons (xe_name 4) xa_nil)) (len_cons (len_cons len_nil)))) xa_nil))))) (xa_cons (xe_tup (xa_cons xe_str (xa_cons (xe_name 10) (xa_cons (xe_name 12) (xa_cons (xe_tup (xa_cons xe_int (xa_cons xe_int xa_nil))) xa_nil))))) (xa_cons (xe_tup (xa_cons xe_str (xa_cons (xe_name 10) (xa_cons (xe_tup (xa_cons (xe_neg (xe_ixN 12 xe_int)) (xa_cons (xe_ixN 12 xe_int) xa_nil))) (xa_cons (xe_tup (xa_cons xe_int (xa_cons xe_int xa_nil))) xa_nil))))) (xa_cons (xe_tup (xa_cons xe_str (xa_cons (xe_name 10) (xa_cons (XV.toE (xv_call (h__law_low.cal b.room) b.tk (xa_cons (xe_name 4) (xa_cons (xe_name 2) xa_nil)) (len_cons (len_cons len_nil)))) (xa_cons (XV.toE (xv_call (h__law_low.cal b.room) b.tk (xa_cons (xe_name 3) (xa_cons (xe_name 4) xa_nil)) (len_cons (len_cons len_nil)))) xa_nil))))) xa_nil))))))
    (xss_cons (xs_expr (xe_append 13 (xe_tup (xa_cons xe_str (xa_cons (xe_name 10) (xa_cons (xe_name 11) (xa_cons (XV.toE (xv_call (h__law_low.cal b.room) b.tk (xa_cons (xe_add (xe_mul (xe_name 3) (xe_name 4)) (xe_mul (xe_name 2) (xe_name 2))) (xa_cons (xe_mul (xe_name 2) (xe_name 4)) xa_nil)) (len_cons (len_cons len_nil)))) xa_nil)))))))
    (xss_cons (xs_for b.own rfl (xi_seq (xe_name 13)) (xg_tup rfl (xgs_cons (xg_name 14 sc__law_divisors_right.nd) (xgs_cons (xg_name 15 sc__law_divisors_right.nd) (xgs_cons (xg_name 16 sc__law_divisors_right.nd) (xgs_cons (xg_name 17 sc__law_divisors_right.nd) xgs_nil))))) (xss_cons (xs_if (xt_not (xt_truth (XV.toE (xv_call (h__law_same.cal b.room) b.tk (xa_cons (XV.toE (xv_call (h__law_asked.cal b.room) b.tk (xa_cons (xe_name 14) (xa_cons (xe_name 15) (xa_cons (xe_name 16) (xa_cons (xe_name 1) xa_nil)))) (len_cons (len_cons (len_cons (len_cons len_nil)))))) (xa_cons (xe_name 17) xa_nil)) (len_cons (len_cons len_nil)))))) (xss_one (xs_ret xe_bl)) xss_nil)
    (xss_one (xs_set 1 sc__law_divisors_right.nd (xe_not (xe_name 1))))))
    (xss_one (xs_ret xe_bl)))))))))))))))) runFn_spec (by decide)
theorem kn__law_divisors_right {P : Program} {w : World} {K : PySem.W.Frag} {mg : Str → Option Value} {base : Heap} (M : Md K mg) (h__law_take : Kn P w K mg base 1 "_law_take" 2 g__law_take) (h__law_low : Kn P w K mg base 2 "_law_low" 2 g__law_low) (h__law_same : Kn P w K mg base 5 "_law_same" 2 g__law_same) (h__law_asked : Kn P w K mg base 6 "_law_asked" 4 g__law_asked) (h_is_fraction : Kn P w K mg base 2 "is_fraction" 1 g_is_fraction) (hk_is_fraction_value : KnK P w K mg base 2 "is_fraction" 1 ["value"] pmI g_is_fraction) (h_read_fraction : Kn P w K mg base 4 "read_fraction" 1 g_read_fraction) (hk_read_fraction_text : KnK P w K mg base 4 "read_fraction" 1 ["text"] pmI g_read_fraction) (hh__law_same : KnH P w K mg base 1 "_law_same" 2 gh__law_same) : Kn P w K mg base 7 "_law_divisors_right" 2 g__law_divisors_right :=
  Kn.mk' (ps := ["box", "named"]) M.d__law_divisors_right rfl (fun f fd F => kf__law_divisors_right M h__law_take h__law_low h__law_same h__law_asked h_is_fraction hk_is_fraction_value h_read_fraction hk_read_fraction_text hh__law_same F) (fun _ _ _ _ _ _ us hl => match us, hl with | [_, _], _ => rfl)
def t_law : XRS := (seqS (forS (rngI range1 (consA (callA tMax2 (consA (kT (.int 2)) (consA (callA tMin2 (consA (kT (.int 4)) (consA (slLen 0) nilA))) nilA))) nilA)) (gN 1) (seqS (setO 2 (asO (callR g__law_box (consA (asT (callR g__law_cell (consA (rd 0) (consA (rd 1) nilA)))) nilA))))
    (seqS (setS 3 (e2 tEq (asT (callRB g__law_take 2 (consA (kT (.int 2)) nilA))) (kT (.int 0))))
    (forS (rngI range1 (consA (kT (.int 3)) nilA)) (gN 4) (seqS (setS 5 (asT (callRB g__law_some 2 nilA)))
    (seqS (ifS (orB (notB (b1 tTru (asT (callR g__law_pairs_right (consA (rd 5) (consA (rd 3) nilA)))))) (orB (notB (b1 tTru (asT (callR g__law_each_right (consA (rd 5) (consA (notV (rd 3)) nilA)))))) (notB (b1 tTru (asT (callRB g__law_divisors_right 2 (consA (rd 3) nilA))))))) (retS (kT (.bl false))) nextS)
    (setS 3 (notV (rd 3)))))))))
    (retS (kT (.bl true))))
def g_law : Fn := runFn 6 t_law
theorem kf_law {P : Program} {w : World} {K : PySem.W.Frag} {mg : Str → Option Value} {base : Heap} (M : Md K mg) (h__law_box : Kn P w K mg base 1 "_law_box" 1 g__law_box) (h__law_cell : Kn P w K mg base 1 "_law_cell" 2 g__law_cell) (h__law_take : Kn P w K mg base 1 "_law_take" 2 g__law_take) (h__law_some : Kn P w K mg base 3 "_law_some" 1 g__law_some) (h__law_divisors_right : Kn P w K mg base 7 "_law_divisors_right" 2 g__law_divisors_right) (h__law_each_right : Kn P w K mg base 6 "_law_each_right" 2 g__law_each_right) (h__law_pairs_right : Kn P w K mg base 7 "_law_pairs_right" 2 g__law_pairs_right) {f : Addr} {fd : FuncData} (F : Fun K "law" "law" s_law f fd) : FnT P w K mg base 8 f fd ["script"] g_law :=
  Fun.okT (τ := t_law) F sc_law (fun cdv A outer s H E b => 
    (xss_cons (xs_for b.own rfl (xi_range1 rfl M.n_range (xa_cons (xe_max2 rfl rfl M.n_max (xa_cons xe_int (xa_cons (xe_min2 rfl rfl M.n_min (xa_cons xe_int (xa_cons (xe_lenN 0 rfl M.n_len) xa_nil))) xa_nil))) xa_nil)) (xg_name 1 sc_law.nd) (xss_cons (xs_setO 2 sc_law.nd (XV.toO (xv_call (h__law_box.cal b.room) b.tk (xa_cons (XV.toE (xv_call (h__law_cell.cal b.room) b.tk (xa_cons (xe_name 0) (xa_cons (xe_name 1) xa_nil)) (len_cons (len_cons len_nil)))) xa_nil) (len_cons len_nil))))
    (xss_cons (xs_set 3 sc_law.nd (xe_eq b.units (XV.toE (xv_callB 2 (h__law_take.cal b.room) b.tk (xa_cons xe_int xa_nil) (len_cons len_nil).plus)) xe_int))
    (xss_one (xs_for b.own rfl (xi_range1 rfl M.n_range (xa_cons xe_int xa_nil)) (xg_name 4 sc_law.nd) (xss_cons (xs_set 5 sc_law.nd (XV.toE (xv_callB 2 (h__law_some.cal b.room) b.tk xa_nil len_nil.plus)))
    (xss_cons (xs_if (xt_w (xw_or (xt_not (xt_truth (XV.toE (xv_call (h__law_pairs_right.cal b.room) b.tk (xa_cons (xe_name 5) (xa_cons (xe_name 3) xa_nil)) (len_cons (len_cons len_nil)))))) (xw_or (xt_not (xt_truth (XV.toE (xv_call (h__law_each_right.cal b.room) b.tk (xa_cons (xe_name 5) (xa_cons (xe_not (xe_name 3)) xa_nil)) (len_cons (len_cons len_nil)))))) (xw_or1 (xt_not (xt_truth (XV.toE (xv_callB 2 (h__law_divisors_right.cal b.room) b.tk (xa_cons (xe_name 3) xa_nil) (len_cons len_nil).plus)))))))) (xss_one (xs_ret xe_bl)) xss_nil)
    (xss_one (xs_set 3 sc_law.nd (xe_not (xe_name 3)))))))))))
    (xss_one (xs_ret xe_bl)))) runFn_spec (by decide)
theorem kn_law {P : Program} {w : World} {K : PySem.W.Frag} {mg : Str → Option Value} {base : Heap} (M : Md K mg) (h__law_box : Kn P w K mg base 1 "_law_box" 1 g__law_box) (h__law_cell : Kn P w K mg base 1 "_law_cell" 2 g__law_cell) (h__law_take : Kn P w K mg base 1 "_law_take" 2 g__law_take) (h__law_some : Kn P w K mg base 3 "_law_some" 1 g__law_some) (h__law_divisors_right : Kn P w K mg base 7 "_law_divisors_right" 2 g__law_divisors_right) (h__law_each_right : Kn P w K mg base 6 "_law_each_right" 2 g__law_each_right) (h__law_pairs_right : Kn P w K mg base 7 "_law_pairs_right" 2 g__law_pairs_right) : Kn P w K mg base 8 "law" 1 g_law :=
  Kn.mk' (ps := ["script"]) M.d_law rfl (fun f fd F => kf_law M h__law_box h__law_cell h__law_take h__law_some h__law_divisors_right h__law_each_right h__law_pairs_right F) (fun _ _ _ _ _ _ us hl => match us, hl with | [_], _ => rfl)
end PH
set_option Elab.async false
set_option linter.all false
namespace PH
open PySem PySem.Spec PyProof.Rows L2
/-! ### numbers -/
def fr (a b : Int) : T := .tup [.int a, .int b]
def gc (a b : Int) : Int := (Int.gcd a b : Nat)
abbrev Sm (k : Nat) (x : Int) : Prop := x.natAbs < 2 ^ k
theorem Sm.log {k : Nat} {x : Int} (h : Sm k x) (hk : 0 < k) : x.natAbs.log2 < k := by
  by_cases h0 : x.natAbs = 0
  · rw [h0]; simpa using hk
  · exact (Nat.log2_lt h0).mpr h
theorem while_div : ∀ (n a b : Nat), b < n → whileN (cmpB tNe (rd 1) (kT (.int 0))) (parS [0, 1] (consMv (rd 1) (consMv (e2 tMod (rd 0) (rd 1)) nilM))) n [.val (.int (a : Int)), .val (.int (b : Int))]
    = .ok (.nx, [.val (.int (Nat.gcd a b : Nat)), .val (.int 0)])
  | 0, a, b, h => by omega
  | n + 1, a, b, h => by
    unfold whileN
    by_cases hb : b = 0
    · subst hb
      simp
    · have ih := while_div n b (a % b) (by have := Nat.mod_lt a (Nat.pos_of_ne_zero hb); omega)
      have e : tMod (.int (a : Int)) (.int (b : Int)) = some (.int ((a % b : Nat) : Int)) := by
        have : ((a : Int).fmod (b : Int)) = ((a % b : Nat) : Int) := by
          rw [Int.fmod_eq_emod_of_nonneg _ (by omega)]; rfl
        simp [tMod, hb, this]
      have hb' : (b : Int) ≠ 0 := by omega
      simp [hb, e, -Int.natCast_emod, ih]
      rw [Nat.gcd_comm a b, Nat.gcd_rec b a, Nat.gcd_comm]
theorem m_divisor (a b : Int) : g_divisor [.val (.int a), .val (.int b)] = .ok (.v (.int (gc a b)), [.val (.int a), .val (.int b)]) := by
  have := while_div (b.natAbs + 1) a.natAbs b.natAbs (by omega)
  simp [g_divisor, runFn, parE, runB, t_divisor, fuel2, this, outE, gc, Int.gcd]

/-- lowest terms, base not 0 -/
def lowP (a b : Int) : Int × Int := (a.fdiv (if b > 0 then gc a b else -gc a b), b.fdiv (if b > 0 then gc a b else -gc a b))
def frP (p : Int × Int) : T := fr p.1 p.2
theorem gc_pos {a b : Int} (hb : b ≠ 0) : 0 < gc a b := by
  have := Int.gcd_pos_of_ne_zero_right a hb
  unfold gc; omega
theorem gc_le {a b : Int} (hb : b ≠ 0) : (gc a b).natAbs ≤ b.natAbs := by
  have h : Int.gcd a b ∣ b.natAbs := Nat.gcd_dvd_right _ _
  have := Nat.le_of_dvd (by omega) h
  unfold gc; omega
theorem tDiv_i (i j : Int) (hj : j ≠ 0) (hs : Sm 9000 j) : tDiv (.int i) (.int j) = some (.int (i.fdiv j)) := by
  have := Sm.log hs (by omega)
  simp [tDiv, hj, this]
theorem m_lowest (a b : Int) (hb : b ≠ 0) (hs : Sm 9000 b) : g_lowest [.val (.int a), .val (.int b)] = .ok (.v (frP (lowP a b)), [.val (.int a), .val (.int b)]) := by
  have h0 := gc_pos (a := a) hb
  have h1 := gc_le (a := a) hb
  by_cases h : 0 < b
  · have d1 := tDiv_i a (gc a b) (by omega) (by show _ < _; have : b.natAbs < 2 ^ 9000 := hs; omega)
    have d2 := tDiv_i b (gc a b) (by omega) (by show _ < _; have : b.natAbs < 2 ^ 9000 := hs; omega)
    simp [g_lowest, runFn, parE, runB, t_lowest, m_divisor, outE, lowP, frP, fr, h, d1, d2]
  · have d1 := tDiv_i a (-gc a b) (by omega) (by show _ < _; have : b.natAbs < 2 ^ 9000 := hs; omega)
    have d2 := tDiv_i b (-gc a b) (by omega) (by show _ < _; have : b.natAbs < 2 ^ 9000 := hs; omega)
    simp [g_lowest, runFn, parE, runB, t_lowest, m_divisor, outE, lowP, frP, fr, h, d1, d2]

theorem m_is_integer (i : Int) : g_is_integer [.val (.int i)] = .ok (.v (.bl true), [.val (.int i)]) := by
  simp [g_is_integer, runFn, parE, runB, t_is_integer, outE]
theorem m_is_fraction (a b : Int) : g_is_fraction [.val (fr a b)] = .ok (.v (.bl (decide (0 < b) && decide (gc a b = 1))), [.val (fr a b)]) := by
  by_cases h : 0 < b
  · simp [g_is_fraction, runFn, parE, runB, t_is_fraction, outE, fr, lcS, lcL, okV, plainSl, wipeE, backE, m_is_integer, m_divisor, tAll, asBls, h]
  · simp [g_is_fraction, runFn, parE, runB, t_is_fraction, outE, fr, lcS, lcL, okV, plainSl, wipeE, backE, m_is_integer, m_divisor, tAll, asBls, h]

theorem Sm.le {j k : Nat} {x : Int} (h : Sm j x) (hk : j ≤ k) : Sm k x := Nat.lt_of_lt_of_le h (Nat.pow_le_pow_right (by decide) hk)
theorem Sm.mul {j k : Nat} {x y : Int} (h : Sm j x) (h' : Sm k y) : Sm (j + k) (x * y) := by
  show (x * y).natAbs < 2 ^ (j + k)
  rw [Int.natAbs_mul, Nat.pow_add]
  exact Nat.mul_lt_mul_of_lt_of_le h (Nat.le_of_lt h') (Nat.pow_pos (by decide))
theorem Sm.add {k : Nat} {x y : Int} (h : Sm k x) (h' : Sm k y) : Sm (k + 1) (x + y) := by
  have h : x.natAbs < 2 ^ k := h
  have h' : y.natAbs < 2 ^ k := h'
  show (x + y).natAbs < 2 ^ (k + 1)
  rw [Nat.pow_succ]
  omega
theorem Sm.neg {k : Nat} {x : Int} (h : Sm k x) : Sm k (-x) := by
  show (-x).natAbs < 2 ^ k
  rw [Int.natAbs_neg]; exact h
theorem Sm.sub {k : Nat} {x y : Int} (h : Sm k x) (h' : Sm k y) : Sm (k + 1) (x - y) := by
  rw [Int.sub_eq_add_neg]; exact h.add h'.neg
theorem tMul_i (i j : Int) (hi : Sm 9000 i) (hj : Sm 9000 j) : tMul (.int i) (.int j) = some (.int (i * j)) := by
  have h1 := Sm.log hi (by omega)
  have h2 := Sm.log hj (by omega)
  have h : i.natAbs.log2 + j.natAbs.log2 < 1000000 := by omega
  simp [tMul, h]
/-- a fraction of moderate size -/
structure Fr (a b : Int) : Prop where
  pos : 0 < b
  low : gc a b = 1
  top : Sm 100 a
  base : Sm 100 b
theorem m_check_fraction {a b : Int} (h : Fr a b) : g_check_fraction [.val (fr a b)] = .ok (.v .non, [.val (fr a b)]) := by
  simp [g_check_fraction, runFn, parE, runB, t_check_fraction, outE, m_is_fraction, h.pos, h.low]
theorem m_check_two {a b c d : Int} (h : Fr a b) (h' : Fr c d) : g_check_two [.val (fr a b), .val (fr c d)] = .ok (.v .non, [.val (fr a b), .val (fr c d)]) := by
  simp [g_check_two, runFn, parE, runB, t_check_two, outE, m_check_fraction h, m_check_fraction h']
theorem m_low (a b : Int) (hb : b ≠ 0) (hs : Sm 9000 b) : g_low [.val (.int a), .val (.int b)] = .ok (.v (frP (lowP a b)), [.val (.int a), .val (.int b)]) := by
  simp [g_low, runFn, parE, runB, t_low, outE, m_is_integer, hb, m_lowest a b hb hs]
@[simp] theorem tIx_fr0 (a b : Int) : tIx (fr a b) (.int 0) = some (.int a) := by simp [fr]
@[simp] theorem tIx_fr1 (a b : Int) : tIx (fr a b) (.int 1) = some (.int b) := by simp [fr]
theorem tMul_f {a b : Int} (h : Sm 100 a) (h' : Sm 100 b) : tMul (.int a) (.int b) = some (.int (a * b)) := tMul_i a b (h.le (by decide)) (h'.le (by decide))
theorem m_plus {a b c d : Int} (h : Fr a b) (h' : Fr c d) : g_plus [.val (fr a b), .val (fr c d)] = .ok (.v (frP (lowP (a * d + c * b) (b * d))), [.val (fr a b), .val (fr c d)]) := by
  have hbd : b * d ≠ 0 := Int.mul_ne_zero (by have := h.pos; omega) (by have := h'.pos; omega)
  simp [g_plus, runFn, parE, runB, t_plus, outE, m_check_two h h', tMul_f h.top h'.base, tMul_f h'.top h.base, tMul_f h.base h'.base, m_lowest _ _ hbd ((h.base.mul h'.base).le (by decide))]
theorem m_minus {a b c d : Int} (h : Fr a b) (h' : Fr c d) : g_minus [.val (fr a b), .val (fr c d)] = .ok (.v (frP (lowP (a * d - c * b) (b * d))), [.val (fr a b), .val (fr c d)]) := by
  have hbd : b * d ≠ 0 := Int.mul_ne_zero (by have := h.pos; omega) (by have := h'.pos; omega)
  simp [g_minus, runFn, parE, runB, t_minus, outE, m_check_two h h', tMul_f h.top h'.base, tMul_f h'.top h.base, tMul_f h.base h'.base, m_lowest _ _ hbd ((h.base.mul h'.base).le (by decide))]
theorem m_times {a b c d : Int} (h : Fr a b) (h' : Fr c d) : g_times [.val (fr a b), .val (fr c d)] = .ok (.v (frP (lowP (a * c) (b * d))), [.val (fr a b), .val (fr c d)]) := by
  have hbd : b * d ≠ 0 := Int.mul_ne_zero (by have := h.pos; omega) (by have := h'.pos; omega)
  simp [g_times, runFn, parE, runB, t_times, outE, m_check_two h h', tMul_f h.top h'.top, tMul_f h.base h'.base, m_lowest _ _ hbd ((h.base.mul h'.base).le (by decide))]
theorem m_compared {a b c d : Int} (h : Fr a b) (h' : Fr c d) : g_compared [.val (fr a b), .val (fr c d)] = .ok (.v (.int ((if a * d > c * b then 1 else 0) - (if a * d < c * b then 1 else 0))), [.val (fr a b), .val (fr c d)]) := by
  simp [g_compared, runFn, parE, runB, t_compared, outE, m_check_two h h', tMul_f h.top h'.base, tMul_f h'.top h.base]
theorem m_floor_of {a b : Int} (h : Fr a b) : g_floor_of [.val (fr a b)] = .ok (.v (.int (a.fdiv b)), [.val (fr a b)]) := by
  simp [g_floor_of, runFn, parE, runB, t_floor_of, outE, m_check_fraction h, tDiv_i a b (by have := h.pos; omega) (h.base.le (by decide))]
theorem m_ceiling_of {a b : Int} (h : Fr a b) : g_ceiling_of [.val (fr a b)] = .ok (.v (.int (-((-a).fdiv b))), [.val (fr a b)]) := by
  simp [g_ceiling_of, runFn, parE, runB, t_ceiling_of, outE, m_check_fraction h, tDiv_i (-a) b (by have := h.pos; omega) (h.base.le (by decide))]
theorem eqv_zero (a b : Int) (ha : a ≠ 0) : tEq (fr a b) c_ZERO = some (.bl false) := by
  simp [tEq, tEqB, fr, c_ZERO, T.toD, toDs, SeqAt.shaped, PyData.eqv, PyData.eqvAll, PyData.canLay0, PyData.canLayAll0, PyData.depth, PyData.depthAll, ha]
theorem m_over {a b c d : Int} (h : Fr a b) (h' : Fr c d) (hc : 0 < c) : g_over [.val (fr a b), .val (fr c d)] = .ok (.v (frP (lowP (a * d) (b * c))), [.val (fr a b), .val (fr c d)]) := by
  have hbd : b * c ≠ 0 := Int.mul_ne_zero (by have := h.pos; omega) (by omega)
  simp [g_over, runFn, parE, runB, t_over, outE, m_check_two h h', eqv_zero c d (by omega), tMul_f h.top h'.base, tMul_f h.base h'.top, m_lowest _ _ hbd ((h.base.mul h'.top).le (by decide))]
end PH
set_option Elab.async false
set_option linter.all false
set_option maxRecDepth 100000
namespace PH
open PySem PySem.Spec PyProof.Rows L2 TL SX
/-! ### texts of numbers -/
def intL (i : Int) : List Nat := if i < 0 then 45 :: numL i.natAbs else numL i.natAbs
theorem int_S' (i : Int) : (Str.ofString (toString i)) = S (intL i) := by
  unfold intL
  by_cases h : i < 0
  · rw [if_pos h, toString_neg h]
    have e : (0 : Int) - i = ((i.natAbs : Nat) : Int) := by omega
    rw [e]
    have e2 : Str.ofString ("-" ++ toString ((i.natAbs : Nat) : Int)) = Str.ofString "-" ++ Str.ofString (toString ((i.natAbs : Nat) : Int)) := by
      refine TL.ext_tl ?_
      rw [TL.tl_append]
      simp [TL.tl, signs_ofString]
    rw [e2, num_S]
    have e3 : Str.ofString "-" = S [45] := by rfl
    rw [e3, S_cat]
    rfl
  · rw [if_neg h]
    have e : i = ((i.natAbs : Nat) : Int) := by omega
    rw [e, num_S]
    simp
theorem intL_len {i : Int} (h : Sm 100 i) : (intL i).length ≤ 200 := by
  have h1 : i.natAbs < 10 ^ 100 := Nat.lt_of_lt_of_le h (by decide)
  have h2 := numL_len (by decide : 0 < 100) h1
  unfold intL
  split
  · rw [List.length_cons]; omega
  · omega
theorem numL_head {n : Nat} (h : 0 < n) : ∀ c, (numL n)[0]? = some c → c ≠ 48 := by
  induction n using Nat.strongRecOn with
  | _ n ih =>
    intro c hc
    by_cases hn : n < 10
    · rw [numL_lt hn] at hc; simp at hc; omega
    · rw [numL_step (by omega)] at hc
      have hne := numL_ne (n / 10)
      cases e : numL (n / 10) with
      | nil => exact absurd e hne
      | cons d r =>
        rw [e] at hc
        have hc : some d = some c := hc
        exact ih (n / 10) (by omega) (by omega) c (by rw [e]; exact hc)
theorem intText_back {i : Int} (h : Sm 100 i) : intText? (S (intL i)) = some i := by
  have hl := intL_len h
  unfold intL at hl ⊢
  by_cases h0 : i < 0
  · rw [if_pos h0] at hl ⊢
    have := intText_neg (x := S (45 :: numL i.natAbs)) (cs := numL i.natAbs) rfl (numL_digits _) (numL_ne _) (by rw [S_len]; omega)
    rw [this, numL_val]
    congr 1; omega
  · rw [if_neg h0] at hl ⊢
    have := intText_digits (x := S (numL i.natAbs)) (numL_digits _) (numL_ne _) (by rw [S_len]; omega)
    rw [this]
    show some ((NumText.digitsVal (numL i.natAbs) : Nat) : Int) = _
    rw [numL_val]
    congr 1; omega
theorem lcL_all {β : Type} {g : Tg} {τ : XR} {vs : List Nat} {ev0 : Ev} {f : β → T} (tr : β → T) : ∀ (ts : List β) (acc : List T), (∀ t ∈ ts, ∃ ev1, g (tr t) ev0 = some ev1 ∧ τ ev1 = .ok (f t, ev1) ∧ okV ev1 vs = true ∧ wipeE ev1 vs = ev0) → acc.length + ts.length ≤ sizeLine →
    lcL g yesB τ vs (ts.map tr) ev0 acc = .ok (acc ++ ts.map f, ev0)
  | [], acc, _, _ => by simp [lcL]
  | t :: ts, acc, h, hl => by
    obtain ⟨ev1, h1, h2, h3, h4⟩ := h t List.mem_cons_self
    rw [List.length_cons] at hl
    have ih := lcL_all tr ts (acc ++ [f t]) (fun u hu => h u (List.mem_cons_of_mem _ hu)) (by rw [List.length_append]; simp at *; omega)
    have hb : acc.length < sizeLine := by omega
    simp only [List.map_cons, lcL, h1, sx_yesB, sb_ok, if_true, h2, h3, h4, hb, and_self, ih]
    simp
theorem lcL_none {β : Type} {g : Tg} {c : XRB} {τ : XR} {vs : List Nat} {ev0 : Ev} (tr : β → T) : ∀ (ts : List β) (acc : List T), (∀ t ∈ ts, ∃ ev1, g (tr t) ev0 = some ev1 ∧ c ev1 = .ok (false, ev1) ∧ okV ev1 vs = true ∧ wipeE ev1 vs = ev0) →
    lcL g c τ vs (ts.map tr) ev0 acc = .ok (acc, ev0)
  | [], acc, _ => by simp [lcL]
  | t :: ts, acc, h => by
    obtain ⟨ev1, h1, h2, h3, h4⟩ := h t List.mem_cons_self
    have ih := lcL_none (τ := τ) tr ts acc (fun u hu => h u (List.mem_cons_of_mem _ hu))
    simp only [List.map_cons, lcL, h1, sb_ok, h2, Bool.false_eq_true, if_false, h3, h4, if_true, ih]
theorem cutS_1 (l : List Nat) : cutS (S l) none (some 1) = S (l.take 1) := by
  unfold cutS
  have e1 : HT.sIx (S l).length 0 none = 0 := rfl
  have e2 : HT.sIx (S l).length (S l).length (some 1) = min 1 (S l).length := HT.sIx_nat _ _ 1
  rw [e1, e2, S_len]
  cases l with
  | nil => rfl
  | cons a r => simp
theorem cutS_from1 (l : List Nat) : cutS (S l) (some 1) none = S (l.drop 1) := by
  unfold cutS
  have e1 : HT.sIx (S l).length 0 (some 1) = min 1 (S l).length := HT.sIx_nat _ _ 1
  have e2 : HT.sIx (S l).length (S l).length none = (S l).length := rfl
  rw [e1, e2, S_len]
  cases l with
  | nil => rfl
  | cons a r => simp
theorem one_S (c : Nat) : (⟨#[c]⟩ : Str) = S [c] := rfl
theorem m_digits (cs : List Nat) (h : NumText.AllDigits cs) (hl : cs.length ≤ 1000) (x d : Sl) (e2 : Sl) : lcS (seqI (rd 1)) (gN 2) yesB (PH.e2 tInS (rd 2) (kT c_DIGITS)) [2] [x, .val (.str (S cs)), .no] = .ok ((cs.map fun _ => true).map T.bl, [x, .val (.str (S cs)), .no]) := by
  have key := lcL_all (g := gN 2) (τ := PH.e2 tInS (rd 2) (kT c_DIGITS)) (vs := [2]) (ev0 := [x, .val (.str (S cs)), .no]) (f := fun _ : Nat => T.bl true) (fun c => T.str ⟨#[c]⟩) cs [] (fun c hc => by
    have hd := h c hc
    have hin : tInS (.str ⟨#[c]⟩) c_DIGITS = some (.bl true) := by
      show some (T.bl (decide (c ∈ ("0123456789" : Str).cps.toList))) = _
      have : ("0123456789" : Str).cps.toList = [48, 49, 50, 51, 52, 53, 54, 55, 56, 57] := by rfl
      rw [this]
      have hm : c ∈ [48, 49, 50, 51, 52, 53, 54, 55, 56, 57] := by
        simp only [List.mem_cons, List.not_mem_nil, or_false]; omega
      simp [hm]
    refine ⟨[x, .val (.str (S cs)), .val (.str ⟨#[c]⟩)], by simp, ?_, by simp [okV, plainSl], by simp [wipeE]⟩
    simp [hin]) (by have := sizeLine_eq; simp; omega)
  unfold lcS
  simp [okV, plainSl, wipeE] at key ⊢
  rw [key]
  simp [backE]
theorem m_is_plain (i : Int) (h : Sm 100 i) : g_is_plain [.val (.str (S (intL i)))] = .ok (.v (.bl true), [.val (.str (S (intL i)))]) := by
  have hl := intL_len h
  have hsz : ∀ l : List Nat, l.length ≤ 200 → (S l).length ≤ sizeLine := fun l hl => by rw [S_len]; have := sizeLine_eq; omega
  have hsl := hsz _ hl
  have h1 : tSl none (some 1) (.str (S (intL i))) = some (.str (S ((intL i).take 1))) := by
    show (if (S (intL i)).length ≤ sizeLine then _ else _) = _
    rw [if_pos hsl, cutS_1]
  have h2 : tSl (some 1) none (.str (S (intL i))) = some (.str (S ((intL i).drop 1))) := by
    show (if (S (intL i)).length ≤ sizeLine then _ else _) = _
    rw [if_pos hsl, cutS_from1]
  have minus : ("-" : Str) = S [45] := by rfl
  have zero : ("0" : Str) = S [48] := by rfl
  have empt : ("" : Str) = S [] := by rfl
  -- the digits
  have key : ∃ x, (ifE (cmpB tEq (slcN 0 noP (asP (kT (.int 1)))) (kT (.str "-"))) (slcN 0 (asP (kT (.int 1))) noP) (rd 0)) [.val (.str (S (intL i))), .no, .no] = .ok (.str (S (numL i.natAbs)), [.val (.str (S (intL i))), .no, .no]) ∧ x = 0 := by
    refine ⟨0, ?_, rfl⟩
    simp only [sx_ifE, sx_b1, sx_e2, sx_slcN, sx_noP, sx_asP, sx_kT, sb_ok, List.getElem?_cons_zero, slT_val, Option.isSome_some, if_true, Option.bind_some, h1, R.ofO_some, minus, tEq_s, tBool_b, h2]
    unfold intL
    by_cases h0 : i < 0
    · simp [h0]
    · have hne : S ((numL i.natAbs).take 1) ≠ S [45] := fun z => by
        have z := S_inj z
        cases e : numL i.natAbs with
        | nil => exact numL_ne _ e
        | cons c r =>
          rw [e] at z
          have hc : c = 45 := by simpa using z
          have := numL_digits i.natAbs c (by rw [e]; exact List.mem_cons_self)
          omega
      simp [h0, hne]
  obtain ⟨_, key, _⟩ := key
  have hn : (numL i.natAbs).length ≤ 200 := by
    unfold intL at hl
    split at hl
    · rw [List.length_cons] at hl; omega
    · exact hl
  have hdig := m_digits (numL i.natAbs) (numL_digits _) (by omega) (.val (.str (S (intL i)))) .no .no
  obtain ⟨c, r, hc⟩ : ∃ c r, numL i.natAbs = c :: r := by
    cases e : numL i.natAbs with
    | nil => exact absurd e (numL_ne _)
    | cons c r => exact ⟨c, r, rfl⟩
  have hne : S (numL i.natAbs) ≠ S [] := fun z => numL_ne _ (S_inj z)
  have hix : tIx (.str (S (numL i.natAbs))) (.int 0) = some (.str (S [c])) := by
    show (if (S (numL i.natAbs)).length ≤ sizeLine then (atI (S (numL i.natAbs)).cps.toList 0).map _ else none) = _
    rw [if_pos (hsz _ hn), atI_0]
    show ((numL i.natAbs)[0]?).map _ = _
    rw [hc]; rfl
  have hall : ((numL i.natAbs).map fun _ => true).all id = true := by simp
  have run : t_is_plain [.val (.str (S (intL i))), .no, .no] = .ok (.ret (.bl true), [.val (.str (S (intL i))), .val (.str (S (numL i.natAbs))), .no]) := by
    unfold t_is_plain
    rw [sx_seqS, sx_setS, key]
    simp only [sb_ok, sx_putS, List.getElem?_cons_succ, List.getElem?_cons_zero, box_no, Bool.false_eq_true, if_false, List.set_cons_succ, List.set_cons_zero]
    rw [sx_seqS, sx_ifS, sx_orB]
    simp only [sx_b1, sx_e2, sx_rd, List.getElem?_cons_succ, List.getElem?_cons_zero, sb_ok, sx_kT, empt, tEq_s, decide_eq_false hne, R.ofO_some, tBool_b, Bool.false_eq_true, if_false, sx_notB, sx_b1, sx_callA, sx_consA, sx_gives, hdig, sx_nilA, tAll_l, tTru_b, hall, Bool.not_true, sx_nextS]
    simp only [sx_retS, sx_orV, sx_e2, sx_slIx, List.getElem?_cons_succ, List.getElem?_cons_zero, slT_val, Option.isSome_some, if_true, sx_kT, sb_ok, Option.bind_some, hix, R.ofO_some, zero, tNe_s, sx_rd, tEq_s]
    by_cases h48 : c = 48
    · -- the number is 0
      have h0 : i.natAbs = 0 := by
        by_cases hp : 0 < i.natAbs
        · exact absurd h48 (numL_head hp c (by rw [hc]; rfl))
        · omega
      have hi : i = 0 := by omega
      subst hi
      subst h48
      have e0 : intL 0 = [48] := by rfl
      simp [e0]
    · have : S [c] ≠ S [48] := fun z => h48 (by have := S_inj z; simpa using this)
      simp [this]
  simp [g_is_plain, runFn, parE, runB, run, outE]
end PH
set_option Elab.async false
set_option linter.all false
set_option maxRecDepth 100000
namespace PH
open PySem PySem.Spec PyProof.Rows L2 TL SX
def txt2 (a b : Int) : List Nat := intL a ++ 47 :: intL b
def txt (a b : Int) : List Nat := if b = 1 then intL a else txt2 a b
theorem tStr_i {i : Int} (h : Sm 100 i) : tStr [.int i] = some (.str (S (intL i))) := by
  have := Sm.log h (by decide)
  show (if i.natAbs.log2 < 1920 then some (T.str (Str.ofString (toString i))) else none) = _
  rw [if_pos (by omega), int_S']
theorem tAdd_s {a b : List Nat} (h : a.length + b.length ≤ 1000) : tAdd (.str (S a)) (.str (S b)) = some (.str (S (a ++ b))) := by
  show (if (S a).length + (S b).length ≤ sizeLine then some (T.str (S a ++ S b)) else none) = _
  rw [S_len, S_len, if_pos (by have := sizeLine_eq; omega), S_cat]
theorem slash : ("/" : Str) = S [47] := by rfl
theorem txt_sl {a b : Int} (h : Sm 100 a) (h' : Sm 100 b) : (tAdd (.str (S (intL a))) (.str "/")) = some (.str (S (intL a ++ [47]))) ∧ tAdd (.str (S (intL a ++ [47]))) (.str (S (intL b))) = some (.str (S (txt2 a b))) := by
  have := intL_len h
  have := intL_len h'
  rw [slash, tAdd_s (by simp; omega), tAdd_s (by simp; omega)]
  refine ⟨rfl, ?_⟩
  simp [txt2]
theorem m_text_of {a b : Int} (h : Sm 100 a) (h' : Sm 100 b) : g_text_of [.val (fr a b)] = .ok (.v (.str (S (txt a b))), [.val (fr a b)]) := by
  obtain ⟨e1, e2⟩ := txt_sl h h'
  by_cases hb : b = 1
  · subst hb
    simp [g_text_of, runFn, parE, runB, t_text_of, outE, tStr_i h, txt]
  · simp [g_text_of, runFn, parE, runB, t_text_of, outE, tStr_i h, tStr_i h', e1, e2, hb, txt]
theorem no_slash (i : Int) : 47 ∉ intL i := by
  unfold intL
  have := numL_free (n := i.natAbs) (s := 47) (by omega)
  split
  · simp [this]
  · exact this
theorem split1 (a : Int) : Txt.split (S (intL a)) (S [47]) = [S (intL a)] := by
  have := split_join (y := S [47]) (s := 47) (S := []) rfl (all256 (by decide)) (parts := [S (intL a)]) (by simp) (fun p hp => by
    have e : p = S (intL a) := by simpa using hp
    subst e
    exact no_slash a)
  exact this
theorem split2 (a b : Int) : Txt.split (S (txt2 a b)) (S [47]) = [S (intL a), S (intL b)] := by
  have := split_join (y := S [47]) (s := 47) (S := []) rfl (all256 (by decide)) (parts := [S (intL a), S (intL b)]) (by simp) (fun p hp => by
    have e : p = S (intL a) ∨ p = S (intL b) := by simpa using hp
    rcases e with rfl | rfl
    · exact no_slash a
    · exact no_slash b)
  have e : Txt.join (S [47]) [S (intL a), S (intL b)] = S (txt2 a b) := by
    rw [show [S (intL a), S (intL b)] = [intL a, intL b].map S from rfl, join_S]
    rfl
  rw [e] at this
  exact this
theorem tSplit1 {a : Int} (h : Sm 100 a) : tSplit (S (intL a)) (.str "/") = some [.str (S (intL a))] := by
  have := intL_len h
  rw [slash]
  show (if ((S [47]).length == 0) = false ∧ (S (intL a)).length + 2 ≤ sizeLine then some ((Txt.split (S (intL a)) (S [47])).map T.str) else none) = _
  rw [if_pos ⟨by rfl, by rw [S_len]; have := sizeLine_eq; omega⟩, split1]
  rfl
theorem tSplit2 {a b : Int} (h : Sm 100 a) (h' : Sm 100 b) : tSplit (S (txt2 a b)) (.str "/") = some [.str (S (intL a)), .str (S (intL b))] := by
  have := intL_len h
  have := intL_len h'
  rw [slash]
  show (if ((S [47]).length == 0) = false ∧ (S (txt2 a b)).length + 2 ≤ sizeLine then some ((Txt.split (S (txt2 a b)) (S [47])).map T.str) else none) = _
  rw [if_pos ⟨by rfl, by rw [S_len]; have := sizeLine_eq; simp [txt2]; omega⟩, split2]
  rfl
theorem tInt_s {i : Int} (h : Sm 100 i) : tInt [.str (S (intL i))] = some (.int i) := by
  show (if (S (intL i)).length ≤ 640 then (intText? (S (intL i))).map T.int else none) = _
  rw [if_pos (by rw [S_len]; have := intL_len h; omega), intText_back h]
  rfl
theorem atI_m1 {α : Type} (x y : α) : atI [x, y] (-1) = some y := by rfl
theorem gc_one (a : Int) : gc a 1 = 1 := by simp [gc]
theorem m_fraction_in1 {a : Int} (h : Sm 100 a) : g_fraction_in [.val (.str (S (txt a 1)))] = .ok (.v (fr a 1), [.val (.str (S (txt a 1)))]) := by
  have e : txt a 1 = intL a := rfl
  have ht := m_text_of h (show Sm 100 1 by decide)
  have hp := m_is_plain a h
  have hs := tSplit1 h
  have hi := tInt_s h
  have hf := m_is_fraction a 1
  rw [e] at ht
  simp only [e]
  simp [fr] at ht hf
  simp [g_fraction_in, runFn, parE, runB, t_fraction_in, outE, hs, lcS, lcL, okV, plainSl, wipeE, backE, hp, tAll, asBls, hi, hf, ht, fr, gc_one]
theorem m_fraction_in2 {a b : Int} (h : Sm 100 a) (h' : Sm 100 b) (h1 : b ≠ 1) : g_fraction_in [.val (.str (S (txt2 a b)))] = .ok (.v (if 0 < b ∧ gc a b = 1 then fr a b else .non), [.val (.str (S (txt2 a b)))]) := by
  have ht := m_text_of h h'
  have hp := m_is_plain a h
  have hp' := m_is_plain b h'
  have hs := tSplit2 h h'
  have hi := tInt_s h
  have hi' := tInt_s h'
  have hf := m_is_fraction a b
  have e : txt a b = txt2 a b := if_neg h1
  rw [e] at ht
  simp [fr] at ht hf
  by_cases hb : 0 < b
  · by_cases hg : gc a b = 1
    · simp [g_fraction_in, runFn, parE, runB, t_fraction_in, outE, hs, lcS, lcL, okV, plainSl, wipeE, backE, hp, hp', tAll, asBls, hi, hi', hf, ht, fr, atI_m1, hb, hg]
    · simp [g_fraction_in, runFn, parE, runB, t_fraction_in, outE, hs, lcS, lcL, okV, plainSl, wipeE, backE, hp, hp', tAll, asBls, hi, hi', hf, ht, fr, atI_m1, hb, hg]
  · simp [g_fraction_in, runFn, parE, runB, t_fraction_in, outE, hs, lcS, lcL, okV, plainSl, wipeE, backE, hp, hp', tAll, asBls, hi, hi', hf, ht, fr, atI_m1, hb]
theorem m_read_fraction {a b : Int} (h : Fr a b) : g_read_fraction [.val (.str (S (txt a b)))] = .ok (.v (fr a b), [.val (.str (S (txt a b)))]) := by
  have key : g_fraction_in [.val (.str (S (txt a b)))] = .ok (.v (fr a b), [.val (.str (S (txt a b)))]) := by
    by_cases h1 : b = 1
    · subst h1
      exact m_fraction_in1 h.top
    · have := m_fraction_in2 h.top h.base h1
      rw [if_pos ⟨h.pos, h.low⟩] at this
      rw [show txt a b = txt2 a b from if_neg h1]
      exact this
  simp [g_read_fraction, runFn, parE, runB, t_read_fraction, outE, key, fr]
theorem m_read_wide {a b : Int} (h : Sm 100 a) (h' : Sm 100 b) (h1 : b ≠ 1) (hg : gc a b ≠ 1) : g_read_fraction [.val (.str (S (txt2 a b)))] = .exc "InvalidText" [("given", .str (S (txt2 a b)))] [.val (.str (S (txt2 a b)))] := by
  have key := m_fraction_in2 h h' h1
  rw [if_neg (fun z => hg z.2)] at key
  simp [g_read_fraction, runFn, parE, runB, t_read_fraction, outE, key]
theorem m_fraction_text {a b : Int} (h : Fr a b) : g_fraction_text [.val (fr a b)] = .ok (.v (.str (S (txt a b))), [.val (fr a b)]) := by
  simp [g_fraction_text, runFn, parE, runB, t_fraction_text, outE, m_check_fraction h, m_text_of h.top h.base]
end PH
set_option Elab.async false
set_option linter.all false
set_option maxRecDepth 100000
namespace PH
open PySem PySem.Spec PyProof.Rows L2 TL SX
/-! ### lists of fractions -/
abbrev Fs := List (Int × Int)
def FrAll (fs : Fs) : Prop := (∀ p ∈ fs, Fr p.1 p.2) ∧ fs.length ≤ 20
def mF (fs : Fs) : List T := fs.map frP
def baseF : Fs → Int → Int
  | [], acc => acc
  | p :: fs, acc => baseF fs ((acc * p.2).fdiv (gc acc p.2))
def topsF (fs : Fs) (base : Int) : List Int := fs.map fun p => p.1 * base.fdiv p.2
theorem fdiv_sm {k : Nat} {a b : Int} (h : Sm k a) (ha : 0 ≤ a) (hb : 0 < b) : Sm k (a.fdiv b) := by
  rw [Int.fdiv_eq_ediv_of_nonneg _ (by omega)]
  show (a / b).natAbs < 2 ^ k
  have h1 : 0 ≤ a / b := Int.ediv_nonneg ha (by omega)
  have h2 : a / b ≤ a := Int.ediv_le_self b ha
  have h : a.natAbs < 2 ^ k := h
  omega
theorem base_step {k : Nat} {acc b : Int} (hacc : 0 < acc) (hs : Sm k acc) (hb : 0 < b) (hbs : Sm 100 b) : 0 < (acc * b).fdiv (gc acc b) ∧ Sm (k + 100) ((acc * b).fdiv (gc acc b)) := by
  have hg : 0 < gc acc b := gc_pos (by omega)
  have hp : 0 < acc * b := Int.mul_pos hacc hb
  refine ⟨?_, fdiv_sm (hs.mul hbs) (by omega) hg⟩
  rw [Int.fdiv_eq_ediv_of_nonneg _ (by omega)]
  have hd : gc acc b ∣ b := by
    unfold gc
    exact Int.gcd_dvd_right ..
  obtain ⟨c, hc⟩ := hd
  have hc0 : 0 < c := by
    rcases Int.lt_or_le 0 c with h | h
    · exact h
    · exfalso
      have : gc acc b * c ≤ 0 := Int.mul_nonpos_of_nonneg_of_nonpos (by omega) h
      omega
  rw [show acc * b = gc acc b * (acc * c) by rw [hc]; grind, Int.mul_ediv_cancel_left _ (by omega)]
  exact Int.mul_pos hacc hc0
theorem gc_sm {a b : Int} (hb : b ≠ 0) {k : Nat} (h : Sm k b) : Sm k (gc a b) := by
  have := gc_le (a := a) hb
  have h : b.natAbs < 2 ^ k := h
  show (gc a b).natAbs < 2 ^ k
  omega
theorem base_all : ∀ (fs : Fs) (acc : Int) (k : Nat), (∀ p ∈ fs, Fr p.1 p.2) → 0 < acc → Sm k acc → 0 < baseF fs acc ∧ Sm (k + 100 * fs.length) (baseF fs acc)
  | [], acc, k, _, h1, h2 => ⟨h1, h2⟩
  | p :: fs, acc, k, h, h1, h2 => by
    have hp := h p List.mem_cons_self
    obtain ⟨a1, a2⟩ := base_step h1 h2 hp.pos hp.base
    have ih := base_all fs _ (k + 100) (fun q hq => h q (List.mem_cons_of_mem _ hq)) a1 a2
    refine ⟨ih.1, ?_⟩
    have e : k + 100 + 100 * fs.length = k + 100 * (p :: fs).length := by rw [List.length_cons]; omega
    rw [e] at ih
    exact ih.2
theorem base_loop (t : Sl) : ∀ (fs : Fs) (acc : Int) (k : Nat) (x : Sl), (∀ p ∈ fs, Fr p.1 p.2) → 0 < acc → Sm k acc → k + 100 * fs.length ≤ 8000 → isBox (some x) = false →
    ∃ y, isBox (some y) = false ∧ forL (gN 2) (setS 1 (e2 tDiv (e2 tMul (rd 1) (slIx 2 (kT (.int 1)))) (asT (callR g_divisor (consA (rd 1) (consA (slIx 2 (kT (.int 1))) nilA)))))) (mF fs) [t, .val (.int acc), x] = .ok (.nx, [t, .val (.int (baseF fs acc)), y])
  | [], acc, k, x, _, _, _, _, hx => ⟨x, hx, by simp [mF, forL, baseF]⟩
  | p :: fs, acc, k, x, h, h1, h2, hk, hx => by
    have hp := h p List.mem_cons_self
    rw [List.length_cons] at hk
    obtain ⟨a1, a2⟩ := base_step h1 h2 hp.pos hp.base
    obtain ⟨y, hy, e⟩ := base_loop t fs _ (k + 100) (.val (frP p)) (fun q hq => h q (List.mem_cons_of_mem _ hq)) a1 a2 (by omega) rfl
    refine ⟨y, hy, ?_⟩
    have m1 := tMul_i acc p.2 (h2.le (by omega)) (hp.base.le (by decide))
    have d1 := tDiv_i (acc * p.2) (gc acc p.2) (by have := gc_pos (a := acc) (b := p.2) (by have := hp.pos; omega); omega) ((gc_sm (by have := hp.pos; omega) hp.base).le (by decide))
    have e' := e
    simp only [mF, List.map_cons, baseF] at e ⊢
    have i1 : tIx (frP p) (.int 1) = some (.int p.2) := tIx_fr1 _ _
    simp [forL, hx, i1, m1, m_divisor, d1] at e ⊢
    simp [e]
theorem m_base_of {t : T} {fs : Fs} (h : FrAll fs) (ht : t.walk = some (mF fs)) : g_base_of [.val t] = .ok (.v (.int (baseF fs 1)), [.val t]) := by
  obtain ⟨y, _, e⟩ := base_loop (.val t) fs 1 1 .no h.1 (by decide) (by decide) (by have := h.2; omega) rfl
  simp [g_base_of, runFn, parE, runB, t_base_of, outE, ht] at e ⊢
  simp [e, outE]
structure SeqT (t : T) (fs : Fs) : Prop where
  walk : t.walk = some (mF fs)
  lst : tIsi2 .lst .tup t = some (.bl true)
theorem seq_l (fs : Fs) : SeqT (.lst (mF fs)) fs := ⟨rfl, rfl⟩
theorem seq_t (fs : Fs) : SeqT (.tup (mF fs)) fs := ⟨rfl, rfl⟩
theorem m_is_list {t : T} {fs : Fs} (h : SeqT t fs) : g_is_list [.val t] = .ok (.v (.bl true), [.val t]) := by
  simp [g_is_list, runFn, parE, runB, t_is_list, outE, h.lst]
theorem m_check_fractions {t : T} {fs : Fs} (h : FrAll fs) (ht : SeqT t fs) : g_check_fractions [.val t] = .ok (.v .non, [.val t]) := by
  have key := lcL_all (g := gN 1) (τ := asT (callR g_is_fraction (consA (rd 1) nilA))) (vs := [1]) (ev0 := [.val t, .no]) (f := fun _ : Int × Int => T.bl true) frP fs [] (fun p hp => by
    have hq := h.1 p hp
    have m := m_is_fraction p.1 p.2
    refine ⟨[.val t, .val (frP p)], by simp, ?_, by simp [okV, plainSl], by simp [wipeE]⟩
    simp [frP, m, hq.pos, hq.low]) (by have := h.2; simp; omega)
  have e : (fs.map fun _ => T.bl true) = (fs.map fun _ => true).map T.bl := by simp
  simp only [List.nil_append, e] at key
  have hall : (fs.map fun _ => true).all id = true := by simp
  have lc : lcS (seqI (rd 0)) (gN 1) yesB (asT (callR g_is_fraction (consA (rd 1) nilA))) [1] [.val t, .no] = .ok ((fs.map fun _ => true).map T.bl, [.val t, .no]) := by
    unfold lcS
    simp only [sx_seqI, sx_rd, List.getElem?_cons_zero, sb_ok, ht.walk, R.ofO_some]
    have : wipeE [.val t, .no] [1] = [.val t, Sl.no] := by simp [wipeE]
    simp only [this]
    rw [if_pos (by simp [okV, plainSl]), show mF fs = fs.map frP from rfl, key]
    simp [backE]
  simp [g_check_fractions, runFn, parE, runB, t_check_fractions, outE, m_is_list ht, lc, -List.map_map, -List.map_const, -List.map_const', tAll_l]
theorem m_common_base {t : T} {fs : Fs} (h : FrAll fs) (ht : SeqT t fs) : g_common_base [.val t] = .ok (.v (.tup [.int (baseF fs 1), .lst ((topsF fs (baseF fs 1)).map .int)]), [.val t]) := by
  obtain ⟨b1, b2⟩ := base_all fs 1 1 h.1 (by decide) (by decide)
  have b3 : Sm 8000 (baseF fs 1) := b2.le (by have := h.2; omega)
  generalize hB : baseF fs 1 = B at *
  have key := lcL_all (g := gTu 2 (gCons (gN 2) (gCons (gN 3) gNil))) (τ := e2 tMul (rd 2) (e2 tDiv (rd 1) (rd 3))) (vs := [2, 3]) (ev0 := [.val t, .val (.int B), .no, .no]) (f := fun p : Int × Int => T.int (p.1 * B.fdiv p.2)) frP fs [] (fun p hp => by
    have hq := h.1 p hp
    refine ⟨[.val t, .val (.int B), .val (.int p.1), .val (.int p.2)], by simp [frP, fr], ?_, by simp [okV, plainSl], by simp [wipeE]⟩
    have d := tDiv_i B p.2 (by have := hq.pos; omega) (hq.base.le (by decide))
    have m := tMul_i p.1 (B.fdiv p.2) (hq.top.le (by decide)) ((fdiv_sm b3 (by omega) hq.pos).le (by decide))
    simp [d, m]) (by have := h.2; simp; omega)
  have e : (fs.map fun p => T.int (p.1 * B.fdiv p.2)) = (topsF fs B).map .int := by simp [topsF]
  simp only [List.nil_append, e] at key
  have lc : lcS (seqI (rd 0)) (gTu 2 (gCons (gN 2) (gCons (gN 3) gNil))) yesB (e2 tMul (rd 2) (e2 tDiv (rd 1) (rd 3))) [2, 3] [.val t, .val (.int B), .no, .no] = .ok ((topsF fs B).map .int, [.val t, .val (.int B), .no, .no]) := by
    unfold lcS
    simp only [sx_seqI, sx_rd, List.getElem?_cons_zero, sb_ok, ht.walk, R.ofO_some]
    have : wipeE [.val t, .val (.int B), .no, .no] [2, 3] = [.val t, .val (.int B), Sl.no, Sl.no] := by simp [wipeE]
    simp only [this]
    rw [if_pos (by simp [okV, plainSl]), show mF fs = fs.map frP from rfl, key]
    simp [backE]
  have mb := m_base_of h ht.walk
  rw [hB] at mb
  simp [g_common_base, runFn, parE, runB, t_common_base, outE, m_check_fractions h ht, mb, lc]
theorem m_total_of {t : T} {fs : Fs} (h : FrAll fs) (ht : SeqT t fs) : g_total_of [.val t] = .ok (.v (frP (lowP (topsF fs (baseF fs 1)).sum (baseF fs 1))), [.val t]) := by
  obtain ⟨b1, b2⟩ := base_all fs 1 1 h.1 (by decide) (by decide)
  have b3 : Sm 9000 (baseF fs 1) := b2.le (by have := h.2; omega)
  have ml := m_lowest (topsF fs (baseF fs 1)).sum (baseF fs 1) (by omega) b3
  simp [g_total_of, runFn, parE, runB, t_total_of, outE, m_common_base h ht, ml, tSum_l]
end PH
set_option Elab.async false
set_option linter.all false
set_option maxRecDepth 100000
namespace PH
open PySem PySem.Spec PyProof.Rows L2 TL SX
/-! ### the law's own -/
theorem tMod_i (i j : Int) (hj : 0 < j) : tMod (.int i) (.int j) = some (.int (i % j)) := by
  show (if j ≠ 0 then some (T.int (i.fmod j)) else none) = _
  rw [if_pos (by omega), Int.fmod_eq_emod_of_nonneg _ (by omega)]
theorem tPow_i (i : Int) (n : Nat) (hi : Sm 64 i) (hn : n ≤ 1000) : tPow (.int i) (.int (n : Int)) = some (.int (i ^ n)) := by
  show (if 0 ≤ (n : Int) ∧ (n : Int) ≤ 1000000 ∧ i.natAbs < 2 ^ 64 then some (T.int (i ^ (n : Int).toNat)) else none) = _
  rw [if_pos ⟨by omega, by omega, hi⟩]; rfl
theorem pow_18 : tPow (.int 10) (.int 18) = some (.int 1000000000000000000) := by rfl
theorem pow_20 : tPow (.int 10) (.int 20) = some (.int 100000000000000000000) := by rfl
theorem pow_3 : tPow (.int 10) (.int 3) = some (.int 1000) := by rfl
theorem pow_6 : tPow (.int 10) (.int 6) = some (.int 1000000) := by rfl
theorem pow_8 : tPow (.int 10) (.int 8) = some (.int 100000000) := by rfl
theorem pow_9 : tPow (.int 10) (.int 9) = some (.int 1000000000) := by rfl
theorem pow_11 : tPow (.int 10) (.int 11) = some (.int 100000000000) := by rfl
theorem pow_19 : tPow (.int 10) (.int 19) = some (.int 10000000000000000000) := by rfl
theorem tDiv_e (i j : Int) (hj : 0 < j) (hs : Sm 9000 j) : tDiv (.int i) (.int j) = some (.int (i / j)) := by
  rw [tDiv_i i j (by omega) hs, Int.fdiv_eq_ediv_of_nonneg _ (by omega)]
theorem sl_ro (ns : List Int) : tSl none (some 1) (.ro ns) = some (.lst ((cutT ns none (some 1)).map .int)) := rfl
theorem m__law_cell (ns : List Int) (k : Nat) (hk : k < 1000) : ∃ c, g__law_cell [.val (.ro ns), .val (.int (k : Int))] = .ok (.v (.int c), [.val (.ro ns), .val (.int (k : Int))]) := by
  by_cases h : k < ns.length
  · refine ⟨ns[k], ?_⟩
    have ha : atI ns (k : Int) = some ns[k] := by rw [atI_nat', List.getElem?_eq_getElem h]
    simp [g__law_cell, runFn, parE, runB, t__law_cell, outE, h, ha]
  · have hm := tMul_i 8123 (k : Int) (by decide) (by show _ < _; have : (2 : Nat) ^ 10 ≤ 2 ^ 9000 := Nat.pow_le_pow_right (by decide) (by decide); omega)
    refine ⟨8123 * (k : Int) + (cutT ns none (some 1)).sum % 1000033, ?_⟩
    simp [g__law_cell, runFn, parE, runB, t__law_cell, outE, h, hm, sl_ro, tSum_l, tMod_i]
structure BoxOk (n : Nat) (ts : List T) : Prop where
  ex : ∃ (h : Int) (b : Bool) (r c : Int), ts = [.int h, .bl b, .int r, .int c] ∧ 0 ≤ h ∧ 0 ≤ r ∧ r < 2147483629 ∧ 0 ≤ c ∧ c ≤ n
theorem BoxOk.mono {m n : Nat} {ts : List T} (h : BoxOk m ts) (hn : m ≤ n) : BoxOk n ts := by
  obtain ⟨a, b, r, c, rfl, h1, h2, h3, h4, h5⟩ := h.ex
  exact ⟨a, b, r, c, rfl, h1, h2, h3, h4, by omega⟩
theorem m__law_box (c : Int) : ∃ ts, g__law_box [.val (.int c)] = .ok (.o ts, [.val (.int c)]) ∧ BoxOk 0 ts := by
  refine ⟨[.int c.natAbs, .bl (decide (1000000000000000000 ≤ (c.natAbs : Int))), .int ((c.natAbs : Int) % 2147483629), .int 0], ?_, ⟨_, _, _, _, rfl, by omega, by omega, by omega, by omega, by omega⟩⟩
  simp [g__law_box, runFn, parE, runB, t__law_box, outE, pow_18, tMod_i]
theorem sm_of {x : Int} {k : Nat} (h : -(2 ^ k : Int) < x) (h' : x < 2 ^ k) : Sm k x := by
  show x.natAbs < 2 ^ k
  have e : ((2 : Int) ^ k) = ((2 ^ k : Nat) : Int) := by simp
  rw [e] at h h'
  omega
theorem m__law_take {n : Nat} {ts : List T} (h : BoxOk n ts) (hn : n ≤ 100000) {many : Int} (hm : 0 < many) (hs : Sm 100 many) :
    ∃ d ts', g__law_take [.box ts, .val (.int many)] = .ok (.v (.int d), [.box ts', .val (.int many)]) ∧ 0 ≤ d ∧ d < many ∧ BoxOk (n + 1) ts' := by
  obtain ⟨x, b, r, c, rfl, h1, h2, h3, h4, h5⟩ := h.ex
  by_cases hb : b = true ∧ 0 < x
  · obtain ⟨rfl, hx⟩ := hb
    refine ⟨x % many, [.int (x / many), .bl true, .int r, .int c], ?_, Int.emod_nonneg _ (by omega), Int.emod_lt_of_pos _ hm, ⟨_, _, _, _, rfl, Int.ediv_nonneg h1 (by omega), h2, h3, h4, by omega⟩⟩
    simp [g__law_take, runFn, parE, runB, t__law_take, outE, hx, tMod_i, hm, tDiv_e _ _ hm (hs.le (by decide))]
  · have p1 := tPow_i (r + 15491027 * (c + 1) + 179424731) 5 (sm_of (by omega) (by omega)) (by decide)
    have q1 := tMul_i 15491027 (c + 1) (by decide) ((sm_of (k := 64) (by omega) (by omega)).le (by decide))
    generalize hA : (r + 15491027 * (c + 1) + 179424731) ^ 5 % 2147483647 = A
    have a1 : 0 ≤ A := by rw [← hA]; exact Int.emod_nonneg _ (by decide)
    have a2 : A < 2147483647 := by rw [← hA]; exact Int.emod_lt_of_pos _ (by decide)
    have q2 := tMul_i A 48271 ((sm_of (k := 64) (by omega) (by omega)).le (by decide)) (by decide)
    have q3 := tMul_i 104743 (c + 1) (by decide) ((sm_of (k := 64) (by omega) (by omega)).le (by decide))
    have p2 := tPow_i (A * 48271 + 104743 * (c + 1)) 3 (sm_of (by omega) (by omega)) (by decide)
    have d1 : ∀ i : Int, tDiv (.int i) (.int 64) = some (.int (i / 64)) := fun i => tDiv_e i 64 (by decide) (by decide)
    refine ⟨((A * 48271 + 104743 * (c + 1)) ^ 3 % 2147483587 / 64) % many, [.int x, .bl b, .int r, .int (c + 1)], ?_, Int.emod_nonneg _ (by omega), Int.emod_lt_of_pos _ hm, ⟨_, _, _, _, rfl, h1, h2, h3, by omega, by omega⟩⟩
    have m1 : ∀ i, tMod (.int i) (.int 2147483647) = some (.int (i % 2147483647)) := fun i => tMod_i i _ (by decide)
    have m2 : ∀ i, tMod (.int i) (.int 2147483587) = some (.int (i % 2147483587)) := fun i => tMod_i i _ (by decide)
    have m3 : ∀ i, tMod (.int i) (.int many) = some (.int (i % many)) := fun i => tMod_i i _ hm
    have p1' : tPow (.int (r + 15491027 * (c + 1) + 179424731)) (.int 5) = _ := p1
    have p2' : tPow (.int (A * 48271 + 104743 * (c + 1))) (.int 3) = _ := p2
    cases b with
    | true =>
      have hx : ¬ 0 < x := fun z => hb ⟨rfl, z⟩
      simp only [g__law_take, runFn, parE, runB, t__law_take]
      simp [hx, q1, p1', m1, hA, q2, q3, p2', m2, d1, m3, outE]
    | false =>
      simp only [g__law_take, runFn, parE, runB, t__law_take]
      simp [q1, p1', m1, hA, q2, q3, p2', m2, d1, m3, outE]
end PH
set_option Elab.async false
set_option linter.all false
set_option maxRecDepth 100000
namespace PH
open PySem PySem.Spec PyProof.Rows L2 TL SX
/-! ### lowest terms -/
theorem gc_mul (s x y : Int) : gc (s * x) (s * y) = (s.natAbs : Int) * gc x y := by
  unfold gc
  rw [Int.gcd_mul_left]; simp
theorem fdiv_mul (s x : Int) (hs : s ≠ 0) : (s * x).fdiv s = x := by
  rw [Int.mul_fdiv_cancel_left _ hs]
theorem lowP_uniq {s x y : Int} (hs : s ≠ 0) (hy : 0 < y) (hg : gc x y = 1) : lowP (s * x) (s * y) = (x, y) := by
  have e := gc_mul s x y
  rw [hg, Int.mul_one] at e
  unfold lowP
  rcases Int.lt_or_gt_of_ne hs with h | h
  · have hb : ¬ (s * y > 0) := by
      have : s * y < 0 := Int.mul_neg_of_neg_of_pos h hy
      omega
    rw [if_neg hb, e]
    have : -(s.natAbs : Int) = s := by omega
    rw [this, fdiv_mul _ _ hs, fdiv_mul _ _ hs]
  · have hb : s * y > 0 := Int.mul_pos h hy
    rw [if_pos hb, e]
    have : (s.natAbs : Int) = s := by omega
    rw [this, fdiv_mul _ _ hs, fdiv_mul _ _ hs]
theorem lowP_ex (a b : Int) (hb : b ≠ 0) : ∃ s, s ≠ 0 ∧ a = s * (lowP a b).1 ∧ b = s * (lowP a b).2 ∧ 0 < (lowP a b).2 ∧ gc (lowP a b).1 (lowP a b).2 = 1 := by
  have hg := gc_pos (a := a) hb
  obtain ⟨x, hx⟩ : gc a b ∣ a := Int.gcd_dvd_left ..
  obtain ⟨y, hy⟩ : gc a b ∣ b := Int.gcd_dvd_right ..
  have hxy : gc x y = 1 := by
    have e := gc_mul (gc a b) x y
    rw [← hx, ← hy] at e
    have e2 : ((gc a b).natAbs : Int) = gc a b := by omega
    rw [e2] at e
    have e3 : gc a b * 1 = gc a b * gc x y := by rw [Int.mul_one]; exact e
    exact (Int.eq_of_mul_eq_mul_left (by omega) e3).symm
  have hy0 : y ≠ 0 := fun z => hb (by rw [hy, z, Int.mul_zero])
  rcases Int.lt_or_gt_of_ne hy0 with h | h
  · have hxy' : gc (-x) (-y) = 1 := by unfold gc at hxy ⊢; rw [Int.neg_gcd, Int.gcd_neg]; exact hxy
    have u := lowP_uniq (s := -gc a b) (x := -x) (y := -y) (by omega) (by omega) hxy'
    have e1 : -gc a b * -x = a := by rw [Int.neg_mul_neg]; exact hx.symm
    have e2 : -gc a b * -y = b := by rw [Int.neg_mul_neg]; exact hy.symm
    rw [e1, e2] at u
    rw [u]
    exact ⟨-gc a b, by omega, e1.symm, e2.symm, by show 0 < -y; omega, hxy'⟩
  · have u := lowP_uniq (s := gc a b) (x := x) (y := y) (by omega) h hxy
    rw [← hx, ← hy] at u
    rw [u]
    exact ⟨gc a b, by omega, hx, hy, h, hxy⟩
theorem cop_dvd {x y v : Int} (h : gc x y = 1) (d : y ∣ x * v) : y ∣ v := by
  have h' : Nat.Coprime y.natAbs x.natAbs := by
    unfold gc at h
    have : Int.gcd x y = 1 := by omega
    rw [Nat.coprime_comm]
    exact this
  have d' : y.natAbs ∣ x.natAbs * v.natAbs := by rw [← Int.natAbs_mul]; exact Int.natAbs_dvd_natAbs.mpr d
  exact Int.natAbs_dvd_natAbs.mp (h'.dvd_of_dvd_mul_left d')
theorem cop_eq {x y u v : Int} (h : gc x y = 1) (h' : gc u v = 1) (hy : 0 < y) (hv : 0 < v) (e : x * v = u * y) : x = u ∧ y = v := by
  have d1 : y ∣ v := cop_dvd h ⟨u, by rw [e, Int.mul_comm]⟩
  have d2 : v ∣ y := cop_dvd h' ⟨x, by rw [← e, Int.mul_comm]⟩
  have e1 : y ≤ v := Int.le_of_dvd hv d1
  have e2 : v ≤ y := Int.le_of_dvd hy d2
  have e3 : y = v := by omega
  subst e3
  exact ⟨Int.eq_of_mul_eq_mul_right (by omega) e, rfl⟩
/-- equal values, equal lowest terms -/
theorem lowP_eq {a b c d : Int} (hb : b ≠ 0) (hd : d ≠ 0) (e : a * d = c * b) : lowP a b = lowP c d := by
  obtain ⟨s, hs, a1, b1, p1, q1⟩ := lowP_ex a b hb
  obtain ⟨t, ht, c1, d1, p2, q2⟩ := lowP_ex c d hd
  generalize lowP a b = p at *
  generalize lowP c d = q at *
  obtain ⟨x, y⟩ := p
  obtain ⟨u, v⟩ := q
  simp only at *
  have e' : (s * t) * (x * v) = (s * t) * (u * y) := by
    have : s * x * (t * v) = t * u * (s * y) := by rw [← a1, ← d1, ← c1, ← b1]; exact e
    grind
  have e2 := Int.eq_of_mul_eq_mul_left (Int.mul_ne_zero hs ht) e'
  obtain ⟨rfl, rfl⟩ := cop_eq q1 q2 p1 p2 e2
  rfl
theorem lowP_self {a b : Int} (hb : 0 < b) (hg : gc a b = 1) : lowP a b = (a, b) := by
  have := lowP_uniq (s := 1) (by decide) hb hg
  simpa using this
theorem lowP_sm {a b : Int} {k : Nat} (hb : b ≠ 0) (ha : Sm k a) (hs : Sm k b) : Sm k (lowP a b).1 ∧ Sm k (lowP a b).2 := by
  obtain ⟨s, h0, e1, e2, _, _⟩ := lowP_ex a b hb
  have key : ∀ x y : Int, x = s * y → y.natAbs ≤ x.natAbs := fun x y e => by
    rw [e, Int.natAbs_mul]
    exact Nat.le_mul_of_pos_left _ (by omega)
  have k1 := key _ _ e1
  have k2 := key _ _ e2
  have ha : a.natAbs < 2 ^ k := ha
  have hs : b.natAbs < 2 ^ k := hs
  exact ⟨by show _ < _; omega, by show _ < _; omega⟩
theorem lowP_fr {a b : Int} (hb : b ≠ 0) (ha : Sm 100 a) (hs : Sm 100 b) : Fr (lowP a b).1 (lowP a b).2 := by
  obtain ⟨s, h0, e1, e2, e3, e4⟩ := lowP_ex a b hb
  exact ⟨e3, e4, (lowP_sm hb ha hs).1, (lowP_sm hb ha hs).2⟩
theorem lowP_cross {a b : Int} (hb : b ≠ 0) : (lowP a b).1 * b = a * (lowP a b).2 := by
  obtain ⟨s, h0, e1, e2, e3, e4⟩ := lowP_ex a b hb
  generalize lowP a b = p at *
  subst e1
  rw [e2]; grind
/-! ### the law's Euclid -/
theorem while_div' : ∀ (n a b : Nat), b < n → whileN (cmpB tNe (rd 1) (kT (.int 0))) (parS [0, 1] (consMv (rd 1) (consMv (e2 tMod (callA tInt (consA (rd 0) nilA)) (rd 1)) nilM))) n [.val (.int (a : Int)), .val (.int (b : Int))]
    = .ok (.nx, [.val (.int (Nat.gcd a b : Nat)), .val (.int 0)])
  | 0, a, b, h => by omega
  | n + 1, a, b, h => by
    unfold whileN
    by_cases hb : b = 0
    · subst hb
      simp
    · have ih := while_div' n b (a % b) (by have := Nat.mod_lt a (Nat.pos_of_ne_zero hb); omega)
      have e : tMod (.int (a : Int)) (.int (b : Int)) = some (.int ((a % b : Nat) : Int)) := by
        rw [tMod_i _ _ (by omega)]; rfl
      simp [hb, e, -Int.natCast_emod, ih]
      rw [Nat.gcd_comm a b, Nat.gcd_rec b a, Nat.gcd_comm]
theorem m__law_divisor (a b : Int) : g__law_divisor [.val (.int a), .val (.int b)] = .ok (.v (.int (gc a b)), [.val (.int a), .val (.int b)]) := by
  have := while_div' (b.natAbs + 1) a.natAbs b.natAbs (by omega)
  simp [g__law_divisor, runFn, parE, runB, t__law_divisor, fuel2, this, outE, gc, Int.gcd]
theorem m__law_low (a b : Int) (hb : b ≠ 0) (hs : Sm 8000 b) : g__law_low [.val (.int a), .val (.int b)] = .ok (.v (frP (lowP a b)), [.val (.int a), .val (.int b)]) := by
  have h0 := gc_pos (a := a) hb
  have h1 := gc_sm (a := a) hb (hs.le (show 8000 ≤ 9000 by decide))
  have m1 := tMul_i (gc a b) 1 h1 (by decide)
  have m2 := tMul_i (gc a b) (-1) h1 (by decide)
  have d1 := fun i => tDiv_i i (gc a b) (by omega) h1
  have d2 := fun i => tDiv_i i (-gc a b) (by omega) h1.neg
  have e : gc a b * -1 = -gc a b := by omega
  rw [Int.mul_one] at m1
  rw [e] at m2
  by_cases h : 0 < b
  · simp [g__law_low, runFn, parE, runB, t__law_low, outE, m__law_divisor, lowP, frP, fr, h, m1, d1]
  · simp [g__law_low, runFn, parE, runB, t__law_low, outE, m__law_divisor, lowP, frP, fr, h, m2, d2]
end PH
set_option Elab.async false
set_option linter.all false
set_option maxRecDepth 100000
namespace PH
open PySem PySem.Spec PyProof.Rows L2 TL SX
/-! ### neighbours -/
abbrev lim20 : Int := 100000000000000000000
structure Bs (a b c d : Int) : Prop where
  a0 : 0 ≤ a
  a1 : a < lim20
  b0 : 0 < b
  b1 : b < lim20
  c0 : 0 ≤ c
  c1 : c < lim20
  d0 : 0 < d
  d1 : d < lim20
  det : a * d - c * b = 1 ∨ a * d - c * b = -1
theorem lim_sm {x : Int} (h : 0 ≤ x) (h' : x < lim20) : Sm 70 x := sm_of (by have : (0 : Int) < 2 ^ 70 := by decide
                                                                             omega) (by have : lim20 < 2 ^ 70 := by decide
                                                                                        omega)
def beBody : XRS := (seqS (setS 7 (e2 tAdd (kT (.int 1)) (asT (callRB g__law_take 0 (consA (e2 tIx (gives (lstO (consA (kT (.int 2)) (consA (kT (.int 9)) (consA (kT (.int 60)) nilA))))) (asT (callRB g__law_take 0 (consA (kT (.int 3)) nilA)))) nilA)))))
    (seqS (setS 8 (tupE (consA (e2 tAdd (e2 tMul (rd 7) (slIx 5 (kT (.int 0)))) (slIx 4 (kT (.int 0)))) (consA (e2 tAdd (e2 tMul (rd 7) (slIx 5 (kT (.int 1)))) (slIx 4 (kT (.int 1)))) nilA))))
    (seqS (ifS (cmpB tGe (callA tMaxT (consA (rd 8) nilA)) (callA tMin2 (consA (rd 2) (consA (rd 1) nilA)))) (fun ev => .ok (.brk, ev)) nextS)
    (parS [4, 5] (consMv (rd 5) (consMv (rd 8) nilM))))))
theorem max_t (p q : Int) : tMaxT [.tup [.int p, .int q]] = some (.int (if p < q then q else p)) := rfl
theorem ix3 {d : Int} (h : 0 ≤ d) (h' : d < 3) : ∃ m : Int, atI [T.int 2, T.int 9, T.int 60] d = some (.int m) ∧ 0 < m ∧ m ≤ 60 := by
  have : d = 0 ∨ d = 1 ∨ d = 2 := by omega
  rcases this with rfl | rfl | rfl
  · exact ⟨2, rfl, by decide, by decide⟩
  · exact ⟨9, rfl, by decide, by decide⟩
  · exact ⟨60, rfl, by decide, by decide⟩
theorem beside_loop : ∀ (ks : List T) (n : Nat) (ts : List T) (w f : Int) (a b c d : Int) (x y z : Sl), BoxOk n ts → n + 2 * ks.length ≤ 90000 → Bs a b c d → isBox (some x) = false → isBox (some y) = false → isBox (some z) = false →
    ∃ (ts' : List T) (a' b' c' d' : Int) (x' y' z' : Sl), forL (gN 6) beBody ks [.box ts, .val (.int lim20), .val (.int w), .val (.int f), .val (fr a b), .val (fr c d), x, y, z]
      = .ok (.nx, [.box ts', .val (.int lim20), .val (.int w), .val (.int f), .val (fr a' b'), .val (fr c' d'), x', y', z']) ∧ BoxOk (n + 2 * ks.length) ts' ∧ Bs a' b' c' d'
  | [], n, ts, w, f, a, b, c, d, x, y, z, hb, _, hB, _, _, _ => ⟨ts, a, b, c, d, x, y, z, by simp [forL], hb.mono (by omega), hB⟩
  | k :: ks, n, ts, w, f, a, b, c, d, x, y, z, hb, hn, hB, hx, hy, hz => by
    rw [List.length_cons] at hn
    obtain ⟨d0, ts1, e1, p1, p2, hb1⟩ := m__law_take hb (by omega) (show (0 : Int) < 3 by decide) (by decide)
    obtain ⟨m, em, m0, m1⟩ := ix3 p1 p2
    obtain ⟨dg, ts2, e2, q1, q2, hb2⟩ := m__law_take hb1 (by omega) m0 ((sm_of (k := 64) (by omega) (by omega)).le (by decide))
    have sd : Sm 9000 (1 + dg) := (sm_of (k := 64) (by omega) (by omega)).le (by decide)
    have t1 := tMul_i (1 + dg) c sd ((lim_sm hB.c0 hB.c1).le (by decide))
    have t2 := tMul_i (1 + dg) d sd ((lim_sm (by have := hB.d0; omega) hB.d1).le (by decide))
    have hp : 0 ≤ (1 + dg) * c := Int.mul_nonneg (by omega) hB.c0
    have hq : 0 < (1 + dg) * d := Int.mul_pos (by omega) hB.d0
    by_cases hc : (if lim20 < w then lim20 else w) ≤ (if (1 + dg) * c + a < (1 + dg) * d + b then (1 + dg) * d + b else (1 + dg) * c + a)
    · refine ⟨ts2, a, b, c, d, .val k, .val (.int (1 + dg)), .val (fr ((1 + dg) * c + a) ((1 + dg) * d + b)), ?_, hb2.mono (by rw [List.length_cons]; omega), hB⟩
      simp [forL, beBody, hx, hy, hz, e1, em, e2, t1, t2, max_t, fr, hc]
    · have hlt : (1 + dg) * c + a < lim20 ∧ (1 + dg) * d + b < lim20 := by
        split at hc <;> split at hc <;> omega
      have hdet : c * ((1 + dg) * d + b) - ((1 + dg) * c + a) * d = -(a * d - c * b) := by grind
      obtain ⟨ts', a', b', c', d', x', y', z', e, hb', hB'⟩ := beside_loop ks (n + 2) ts2 w f c d ((1 + dg) * c + a) ((1 + dg) * d + b) (.val k) (.val (.int (1 + dg))) (.val (fr ((1 + dg) * c + a) ((1 + dg) * d + b)))
        hb2 (by omega) ⟨hB.c0, hB.c1, hB.d0, hB.d1, by have := hB.a0; omega, hlt.1, by have := hB.b0; omega, hlt.2, by rw [hdet]; have := hB.det; omega⟩ rfl rfl rfl
      refine ⟨ts', a', b', c', d', x', y', z', ?_, hb'.mono (by rw [List.length_cons]; omega), hB'⟩
      rw [← e]
      simp only [forL]
      simp [beBody, hx, hy, hz, e1, em, e2, t1, t2, max_t, fr, hc]
theorem ix5 {d : Int} (h : 0 ≤ d) (h' : d < 5) : ∃ m : Int, atI [T.int 1000, T.int 1000000, T.int 100000000000, T.int 10000000000000000000, T.int 100000000000000000000] d = some (.int m) := by
  have : d = 0 ∨ d = 1 ∨ d = 2 ∨ d = 3 ∨ d = 4 := by omega
  rcases this with rfl | rfl | rfl | rfl | rfl
  · exact ⟨_, rfl⟩
  · exact ⟨_, rfl⟩
  · exact ⟨_, rfl⟩
  · exact ⟨_, rfl⟩
  · exact ⟨_, rfl⟩
theorem m__law_beside {n : Nat} {ts : List T} (hb : BoxOk n ts) (hn : n ≤ 50000) : ∃ (ts' : List T) (a b c d : Int), g__law_beside [.box ts] = .ok (.v (.tup [fr a b, fr c d]), [.box ts']) ∧ BoxOk (n + 300) ts' ∧ Bs a b c d := by
  obtain ⟨d1, ts1, e1, p1, p2, hb1⟩ := m__law_take hb (by omega) (show (0 : Int) < 5 by decide) (by decide)
  obtain ⟨w, ew⟩ := ix5 p1 p2
  obtain ⟨d2, ts2, e2, q1, q2, hb2⟩ := m__law_take hb1 (by omega) (show (0 : Int) < 40 by decide) (by decide)
  obtain ⟨d3, ts3, e3, r1, r2, hb3⟩ := m__law_take hb2 (by omega) (show (0 : Int) < 30 by decide) (by decide)
  have t1 := tMul_i d3 (1 + d2) ((sm_of (k := 64) (by omega) (by omega)).le (by decide)) ((sm_of (k := 64) (by omega) (by omega)).le (by decide))
  have hm0 : 0 ≤ d3 * (1 + d2) := Int.mul_nonneg r1 (by omega)
  have hm1 : d3 * (1 + d2) ≤ 30 * 40 := Int.mul_le_mul (by omega) (by omega) (by omega) (by omega)
  have hL : lim20 = 100000000000000000000 := rfl
  obtain ⟨ts', a', b', c', d', x', y', z', e, hb', hB'⟩ := beside_loop ((List.range 110).map fun (k : Nat) => T.int (k : Int)) (n + 1 + 1 + 1) ts3 w (1 + d2) d3 1 (d3 * (1 + d2) + 1) (1 + d2) .no .no .no
    hb3 (by simp; omega) ⟨r1, by omega, by decide, by decide, by omega, by omega, by omega, by omega, by right; grind⟩ rfl rfl rfl
  refine ⟨ts', a', b', c', d', ?_, hb'.mono (by simp), hB'⟩
  have er : range1 [.int 110] = some ((List.range 110).map fun (k : Nat) => T.int (k : Int)) := by rfl
  have eb : t__law_beside = (seqS (parS [1, 2] (consMv (PH.e2 tPow (kT (.int 10)) (kT (.int 20))) (consMv (PH.e2 tIx (gives (lstO (consA (PH.e2 tPow (kT (.int 10)) (kT (.int 3))) (consA (PH.e2 tPow (kT (.int 10)) (kT (.int 6))) (consA (PH.e2 tPow (kT (.int 10)) (kT (.int 11))) (consA (PH.e2 tPow (kT (.int 10)) (kT (.int 19))) (consA (PH.e2 tPow (kT (.int 10)) (kT (.int 20))) nilA))))))) (asT (callRB g__law_take 0 (consA (kT (.int 5)) nilA)))) nilM)))
    (seqS (setS 3 (PH.e2 tAdd (kT (.int 1)) (asT (callRB g__law_take 0 (consA (kT (.int 40)) nilA)))))
    (seqS (parS [4, 5] (consMv (tupE (consA (asT (callRB g__law_take 0 (consA (kT (.int 30)) nilA))) (consA (kT (.int 1)) nilA))) (consMv (tupE (consA (kT (.int 0)) (consA (kT (.int 1)) nilA))) nilM)))
    (seqS (setS 5 (tupE (consA (PH.e2 tAdd (PH.e2 tMul (slIx 4 (kT (.int 0))) (rd 3)) (kT (.int 1))) (consA (rd 3) nilA))))
    (seqS (forS (rngI range1 (consA (kT (.int 110)) nilA)) (gN 6) beBody)
    (retS (tupE (consA (rd 4) (consA (rd 5) nilA))))))))) := rfl
  simp only [g__law_beside, runFn, parE, runB, eb]
  simp only [fr] at e ⊢
  simp [pow_20, pow_3, pow_6, pow_11, pow_19, e1, ew, e2, e3, t1, er, e, outE, -List.map_map, -List.range_eq_nil]
end PH
set_option Elab.async false
set_option linter.all false
set_option maxRecDepth 100000
namespace PH
open PySem PySem.Spec PyProof.Rows L2 TL SX
def soRest : XRS := (seqS (parS [4, 5] (consMv (e2 tIx (gives (lstO (consA (e2 tAdd (kT (.int 1)) (asT (callRB g__law_take 0 (consA (kT (.int 9)) nilA)))) (consA (e2 tAdd (kT (.int 2)) (asT (callRB g__law_take 0 (consA (e2 tPow (kT (.int 10)) (kT (.int 9))) nilA)))) nilA)))) (asT (callRB g__law_take 0 (consA (kT (.int 2)) nilA)))) (consMv (e2 tSub (asT (callRB g__law_take 0 (consA (e2 tPow (kT (.int 10)) (kT (.int 9))) nilA))) (e2 tMul (kT (.int 5)) (e2 tPow (kT (.int 10)) (kT (.int 8))))) nilM)))
    (seqS (forS (seqI (tupE (consA (e2 tSub (e2 tMul (rd 5) (rd 4)) (kT (.int 1))) (consA (e2 tMul (rd 5) (rd 4)) (consA (e2 tAdd (e2 tMul (rd 5) (rd 4)) (kT (.int 1))) nilA))))) (gN 6) (dropS (apS 3 (asT (callR g__law_low (consA (rd 6) (consA (rd 4) nilA)))))))
    (retS (e2 tAdd (rd 3) (gives (lstO (consA (slc (e2 tAdd (slIx 3 (asT (callRB g__law_take 0 (consA (slLen 3) nilA)))) (tupE (consA (kT (.int 0)) nilA))) noP (asP (kT (.int 2)))) nilA)))))))
theorem so_eq : t__law_some = (seqS (asgS (asT (callRB g__law_beside 0 nilA)) (gTu 2 (gCons (gN 1) (gCons (gN 2) gNil))))
    (seqS (setO 3 (lstO (consA (rd 1) (consA (rd 2) (consA (tupE (consA (e1 tNeg (slIx 1 (kT (.int 0)))) (consA (slIx 1 (kT (.int 1))) nilA))) (consA (tupE (consA (e1 tNeg (slIx 2 (kT (.int 0)))) (consA (slIx 2 (kT (.int 1))) nilA))) nilA))))))
    (seqS (ifS (andB (cmpB tLt (e2 tAdd (slIx 1 (kT (.int 0))) (slIx 2 (kT (.int 0)))) (e2 tPow (kT (.int 10)) (kT (.int 20)))) (cmpB tLt (e2 tAdd (slIx 1 (kT (.int 1))) (slIx 2 (kT (.int 1)))) (e2 tPow (kT (.int 10)) (kT (.int 20))))) (dropS (apS 3 (tupE (consA (e2 tAdd (slIx 1 (kT (.int 0))) (slIx 2 (kT (.int 0)))) (consA (e2 tAdd (slIx 1 (kT (.int 1))) (slIx 2 (kT (.int 1)))) nilA))))) nextS)
    soRest))) := rfl
theorem gc_det {a b c d : Int} (h : a * d - c * b = 1 ∨ a * d - c * b = -1) (hb : b ≠ 0) : gc a b = 1 := by
  have hp := gc_pos (a := a) hb
  have d1 : gc a b ∣ a := Int.gcd_dvd_left ..
  have d2 : gc a b ∣ b := Int.gcd_dvd_right ..
  have d3 : gc a b ∣ a * d - c * b := Int.dvd_sub (Int.dvd_trans d1 ⟨d, rfl⟩) (Int.dvd_trans d2 ⟨c, by rw [Int.mul_comm]⟩)
  have d4 : gc a b ∣ 1 := by
    rcases h with h | h
    · rw [h] at d3; exact d3
    · rw [h] at d3; exact Int.dvd_neg.mp d3
  have := Int.le_of_dvd (by decide) d4
  omega
theorem gc_neg (a b : Int) : gc (-a) b = gc a b := by unfold gc; rw [Int.neg_gcd]
theorem Bs.fr1 {a b c d : Int} (h : Bs a b c d) : Fr a b := ⟨h.b0, gc_det h.det (by have := h.b0; omega), (lim_sm h.a0 h.a1).le (by decide), (lim_sm (by have := h.b0; omega) h.b1).le (by decide)⟩
theorem Bs.fr2 {a b c d : Int} (h : Bs a b c d) : Fr c d := ⟨h.d0, gc_det (c := a) (d := b) (by have := h.det; omega) (by have := h.d0; omega), (lim_sm h.c0 h.c1).le (by decide), (lim_sm (by have := h.d0; omega) h.d1).le (by decide)⟩
theorem Fr.neg {a b : Int} (h : Fr a b) : Fr (-a) b := ⟨h.pos, by rw [gc_neg]; exact h.low, h.top.neg, h.base⟩
theorem tAdd_t (xs ys : List T) (h : xs.length + ys.length ≤ 1000) : tAdd (.tup xs) (.tup ys) = some (.tup (xs ++ ys)) := by
  show (if xs.length + ys.length ≤ sizeLine then _ else _) = _
  rw [if_pos (by have := sizeLine_eq; omega)]
theorem tAdd_l (xs ys : List T) (h : xs.length + ys.length ≤ 1000) : tAdd (.lst xs) (.lst ys) = some (.lst (xs ++ ys)) := by
  show (if xs.length + ys.length ≤ sizeLine then _ else _) = _
  rw [if_pos (by have := sizeLine_eq; omega)]
theorem sl_2 (x y z : T) : tSl none (some 2) (.tup [x, y, z]) = some (.tup [x, y]) := rfl
theorem ix2 {d x y : Int} (h : 0 ≤ d) (h' : d < 2) : ∃ m : Int, atI [T.int x, T.int y] d = some (.int m) ∧ (m = x ∨ m = y) := by
  have : d = 0 ∨ d = 1 := by omega
  rcases this with rfl | rfl
  · exact ⟨x, rfl, .inl rfl⟩
  · exact ⟨y, rfl, .inr rfl⟩
theorem m_soRest {n : Nat} {ts : List T} {x y : Sl} {fs : Fs} (hb : BoxOk n ts) (hn : n ≤ 60000) (hf : ∀ p ∈ fs, Fr p.1 p.2) (hl : fs.length ≤ 6) : ∃ (ts' : List T) (fs' : Fs) (ev' : Ev), soRest [.box ts, x, y, .own (mF fs), .no, .no, .no] = .ok (.ret (.lst (mF (fs ++ fs'))), .box ts' :: ev') ∧ BoxOk (n + 5) ts' ∧ (∀ p ∈ fs', Fr p.1 p.2) ∧ fs'.length = 4 := by
  obtain ⟨d1, ts1, e1, p1, p1', hb1⟩ := m__law_take hb (by omega) (show (0 : Int) < 9 by decide) (by decide)
  obtain ⟨d2, ts2, e2, p2, p2', hb2⟩ := m__law_take hb1 (by omega) (show (0 : Int) < 1000000000 by decide) (by decide)
  obtain ⟨d3, ts3, e3, p3, p3', hb3⟩ := m__law_take hb2 (by omega) (show (0 : Int) < 2 by decide) (by decide)
  obtain ⟨d4, ts4, e4, p4, p4', hb4⟩ := m__law_take hb3 (by omega) (show (0 : Int) < 1000000000 by decide) (by decide)
  obtain ⟨B, eB, hB⟩ := ix2 (x := 1 + d1) (y := 2 + d2) p3 p3'
  have B0 : 0 < B := by omega
  have B1 : B < 1000000100 := by omega
  have sB : Sm 40 B := sm_of (by omega) (by omega)
  have sN : Sm 40 (d4 - 500000000) := sm_of (by omega) (by omega)
  have m5 : tMul (.int 5) (.int 100000000) = some (.int 500000000) := by rfl
  have mN := tMul_i (d4 - 500000000) B (sN.le (by decide)) (sB.le (by decide))
  have sM := sN.mul sB
  generalize hM : (d4 - 500000000) * B = M at *
  have l1 := m__law_low (M - 1) B (by omega) (sB.le (by decide))
  have l2 := m__law_low M B (by omega) (sB.le (by decide))
  have l3 := m__law_low (M + 1) B (by omega) (sB.le (by decide))
  have f1 := lowP_fr (a := M - 1) (b := B) (by omega) ((sM.sub (y := 1) (by decide)).le (by decide)) (sB.le (by decide))
  have f2 := lowP_fr (a := M) (b := B) (by omega) (sM.le (by decide)) (sB.le (by decide))
  have f3 := lowP_fr (a := M + 1) (b := B) (by omega) ((sM.add (y := 1) (by decide)).le (by decide)) (sB.le (by decide))
  generalize lowP (M - 1) B = q1 at *
  generalize lowP M B = q2 at *
  generalize lowP (M + 1) B = q3 at *
  have hlen : (mF fs).length = fs.length := by simp [mF]
  have eqF : mF fs ++ [frP q1, frP q2, frP q3] = mF (fs ++ [q1, q2, q3]) := by simp [mF]
  have hall : ∀ p ∈ fs ++ [q1, q2, q3], Fr p.1 p.2 := fun p hp => by
    rcases List.mem_append.mp hp with h | h
    · exact hf p h
    · simp only [List.mem_cons, List.not_mem_nil, or_false] at h
      rcases h with rfl | rfl | rfl
      · exact f1
      · exact f2
      · exact f3
  generalize hF : fs ++ [q1, q2, q3] = F at *
  have Fl : F.length = fs.length + 3 := by rw [← hF]; simp
  obtain ⟨d5, ts5, e5, p5, p5', hb5⟩ := m__law_take hb4 (by omega) (many := (F.length : Int)) (by omega) ((sm_of (k := 64) (by omega) (by omega)).le (by decide))
  obtain ⟨k, rfl⟩ : ∃ k : Nat, d5 = (k : Int) := ⟨d5.toNat, by omega⟩
  have hk : k < F.length := by omega
  obtain ⟨w, ha, hw⟩ : ∃ w, atI (mF F) (k : Int) = some (frP w) ∧ w ∈ F := by
    refine ⟨F[k], ?_, List.getElem_mem hk⟩
    rw [atI_nat']
    show (F.map frP)[k]? = _
    rw [List.getElem?_map, List.getElem?_eq_getElem hk]; rfl
  refine ⟨ts5, [q1, q2, q3, w], [x, y, .val (.lst (mF F)), .val (.int B), .val (.int (d4 - 500000000)), .val (.int (M + 1))], ?_, hb5, fun p hp => ?_, rfl⟩
  rotate_left
  · simp only [List.mem_cons, List.not_mem_nil, or_false] at hp
    rcases hp with rfl | rfl | rfl | rfl
    · exact f1
    · exact f2
    · exact f3
    · exact hall _ hw
  have eF2 : mF (fs ++ [q1, q2, q3, w]) = mF F ++ [frP w] := by rw [← hF]; simp [mF]
  rw [eF2]
  have Fm : (mF F).length = F.length := by simp [mF]
  have z1 : tAdd (frP w) (.tup [.int 0]) = some (.tup [.int w.1, .int w.2, .int 0]) := tAdd_t _ _ (by simp)
  have z2 : tAdd (.lst (mF F)) (.lst [frP w]) = some (.lst (mF F ++ [frP w])) := tAdd_l _ _ (by rw [Fm]; simp; omega)
  have z3 : (T.tup [.int w.1, .int w.2]) = frP w := rfl
  have z4 : (F.length : Int) = ((mF F).length : Int) := by rw [Fm]
  rw [z4] at e5
  have zl0 : (mF fs).length < 16777216 := by omega
  have zl1 : (mF fs).length + 1 < 16777216 := by omega
  have zl2 : (mF fs).length + 1 + 1 < 16777216 := by omega
  simp only [soRest]
  simp [pow_9, pow_8, e1, e2, e3, eB, e4, m5, mN, forL, l1, l2, l3, eqF, e5, ha, z1, z2, z3, sl_2, zl0, zl1, zl2]

theorem m__law_some {n : Nat} {ts : List T} (hb : BoxOk n ts) (hn : n ≤ 50000) : ∃ (ts' : List T) (a b c d : Int) (fs : Fs), g__law_some [.box ts] = .ok (.v (.lst (mF ((a, b) :: (c, d) :: (-a, b) :: (-c, d) :: fs))), [.box ts']) ∧ BoxOk (n + 305) ts' ∧ Bs a b c d ∧ (∀ p ∈ fs, Fr p.1 p.2) ∧ fs.length ≤ 5 := by
  obtain ⟨ts1, a, b, c, d, e1, hb1, hB⟩ := m__law_beside hb hn
  have q1 := hB.fr1
  have q2 := hB.fr2
  have base : ∀ (gs : Fs), (∀ p ∈ gs, Fr p.1 p.2) → gs.length ≤ 1 → ∃ (ts' : List T) (fs' : Fs) (ev' : Ev), soRest [.box ts1, .val (fr a b), .val (fr c d), .own (mF ((a, b) :: (c, d) :: (-a, b) :: (-c, d) :: gs)), .no, .no, .no]
      = .ok (.ret (.lst (mF ((a, b) :: (c, d) :: (-a, b) :: (-c, d) :: (gs ++ fs')))), .box ts' :: ev') ∧ BoxOk (n + 300 + 5) ts' ∧ (∀ p ∈ fs', Fr p.1 p.2) ∧ fs'.length = 4 := fun gs hg hl => by
    have := m_soRest (x := .val (fr a b)) (y := .val (fr c d)) (fs := (a, b) :: (c, d) :: (-a, b) :: (-c, d) :: gs) hb1 (by omega) (fun p hp => by
      simp only [List.mem_cons] at hp
      rcases hp with rfl | rfl | rfl | rfl | hp
      · exact q1
      · exact q2
      · exact q1.neg
      · exact q2.neg
      · exact hg p hp) (by simp; omega)
    simpa using this
  by_cases hc : a + c < lim20 ∧ b + d < lim20
  · have q3 : Fr (a + c) (b + d) := by
      have hdet : (a + c) * d - c * (b + d) = a * d - c * b := by grind
      exact ⟨by have := hB.b0; have := hB.d0; omega, gc_det (by rw [hdet]; exact hB.det) (by have := hB.b0; have := hB.d0; omega), (lim_sm (by have := hB.a0; have := hB.c0; omega) hc.1).le (by decide), (lim_sm (by have := hB.b0; have := hB.d0; omega) hc.2).le (by decide)⟩
    obtain ⟨ts', fs', ev', e, hb', hf, hl⟩ := base [(a + c, b + d)] (fun p hp => by
      have : p = (a + c, b + d) := by simpa using hp
      subst this; exact q3) (by simp)
    refine ⟨ts', a, b, c, d, (a + c, b + d) :: fs', ?_, hb', hB, fun p hp => ?_, by simp [hl]⟩
    · simp only [mF, List.map_cons, List.map_nil, frP, fr, List.cons_append, List.nil_append] at e ⊢
      simp only [fr] at e1
      simp only [g__law_some, runFn, parE, runB, so_eq]
      simp [e1, pow_20, hc.1, hc.2, e, outE]
    · rcases List.mem_cons.mp hp with rfl | hp
      · exact q3
      · exact hf p hp
  · obtain ⟨ts', fs', ev', e, hb', hf, hl⟩ := base [] (fun p hp => nomatch hp) (by simp)
    refine ⟨ts', a, b, c, d, fs', ?_, hb', hB, hf, by simp [hl]⟩
    simp only [mF, List.map_cons, List.map_nil, frP, fr, List.nil_append] at e ⊢
    simp only [fr] at e1
    simp only [g__law_some, runFn, parE, runB, so_eq]
    by_cases h1 : a + c < lim20
    · have h2 : ¬ b + d < lim20 := fun z => hc ⟨h1, z⟩
      simp [e1, pow_20, h1, h2, e, outE]
    · simp [e1, pow_20, h1, e, outE]
end PH
set_option Elab.async false
set_option linter.all false
set_option maxRecDepth 8000
namespace PH
open PySem PySem.Spec PyProof.Rows L2 TL SX
/-! ### sameness -/
def okT : Nat → T → Bool
  | 0, _ => false
  | _ + 1, .int _ => true
  | _ + 1, .bl _ => true
  | _ + 1, .str x => decide (x.length ≤ 1000)
  | k + 1, .tup ts => decide (ts.length ≤ 1000) && ts.all (okT k)
  | k + 1, .lst ts => decide (ts.length ≤ 1000) && ts.all (okT k)
  | _ + 1, _ => false
theorem range_i (n : Nat) (h : n ≤ 1000) : range1 [.int (n : Int)] = some ((List.range n).map fun (k : Nat) => T.int (k : Int)) := by
  unfold range1
  simp only
  rw [if_pos (by omega), Int.toNat_natCast]
theorem cutS_one (l : List Nat) (k : Nat) (h : k < l.length) : cutS (S l) (some (k : Int)) (some ((k : Int) + 1)) = S [l[k]] := by
  unfold cutS
  have e1 : HT.sIx (S l).length 0 (some (k : Int)) = min k (S l).length := HT.sIx_nat _ _ k
  have e2 : HT.sIx (S l).length (S l).length (some ((k : Int) + 1)) = min (k + 1) (S l).length := HT.sIx_nat _ _ (k + 1)
  rw [e1, e2, S_len, Nat.min_eq_left (by omega), Nat.min_eq_left (by omega)]
  have : k + 1 - k = 1 := by omega
  rw [this]
  show S ((l.drop k).take 1) = _
  rw [List.drop_eq_getElem_cons h]; rfl
theorem rngI_ok {f : List T → Option (List T)} {τ : XRL} {ev ev' : Ev} {ts us : List T} (h : τ ev = .ok (ts, ev')) (h2 : f ts = some us) : rngI f τ ev = .ok (us, ev') := by
  unfold rngI
  rw [h]
  show R.ofO (f ts) ev' = _
  rw [h2]; rfl
theorem rng_len {a : T} {n : Nat} (x z w : Sl) (hlen : tLen [a] = some (.int (n : Int))) (h : n ≤ 1000) : rngI range1 (consA (slLen 1) nilA) [x, .val a, z, w] = .ok ((List.range n).map fun (k : Nat) => T.int (k : Int), [x, .val a, z, w]) :=
  rngI_ok (ts := [.int (n : Int)]) (by simp [hlen]) (range_i n h)
theorem same_str (l : List Nat) (h : l.length ≤ 1000) (y : Sl) : lcS (rngI range1 (consA (slLen 1) nilA)) (gN 2) (cmpB tNe (slcN 0 (asP (rd 2)) (asP (e2 tAdd (rd 2) (kT (.int 1))))) (slIx 1 (rd 2))) (rd 2) [2] [.val (.str (S l)), .val (.str (S l)), .no, y]
    = .ok ([], [.val (.str (S l)), .val (.str (S l)), .no, y]) := by
  have hz : (S l).length ≤ sizeLine := by rw [S_len]; have := sizeLine_eq; omega
  have hlen : tLen [.str (S l)] = some (.int (l.length : Int)) := by
    show (if (S l).length ≤ sizeLine then some (T.int ((S l).length : Int)) else none) = _
    rw [if_pos hz, S_len]
  have key := lcL_none (g := gN 2) (c := cmpB tNe (slcN 0 (asP (rd 2)) (asP (e2 tAdd (rd 2) (kT (.int 1))))) (slIx 1 (rd 2))) (τ := rd 2) (vs := [2]) (ev0 := [.val (.str (S l)), .val (.str (S l)), .no, y]) (fun (k : Nat) => T.int (k : Int)) (List.range l.length) [] (fun k hk => by
    have hk : k < l.length := List.mem_range.mp hk
    refine ⟨[.val (.str (S l)), .val (.str (S l)), .val (.int (k : Int)), y], by simp, ?_, by simp [okV, plainSl], by simp [wipeE]⟩
    have h1 : tSl (some (k : Int)) (some ((k : Int) + 1)) (.str (S l)) = some (.str (S [l[k]])) := by
      show (if (S l).length ≤ sizeLine then some (T.str (cutS (S l) (some (k : Int)) (some ((k : Int) + 1)))) else none) = _
      rw [if_pos hz, cutS_one l k hk]
    have h2 : tIx (.str (S l)) (.int (k : Int)) = some (.str (S [l[k]])) := by
      show (if (S l).length ≤ sizeLine then (atI l (k : Int)).map (fun c => T.str ⟨#[c]⟩) else none) = _
      rw [if_pos hz, atI_nat', List.getElem?_eq_getElem hk]; rfl
    simp [h1, h2])
  unfold lcS
  rw [rng_len _ _ _ hlen h]
  simp only [sb_ok]
  have : wipeE [.val (.str (S l)), .val (.str (S l)), .no, y] [2] = [.val (.str (S l)), .val (.str (S l)), Sl.no, y] := by simp [wipeE]
  simp only [this]
  rw [if_pos (by simp [okV, plainSl]), key]
  simp [backE]
theorem gh_same (l : List Nat) (h : l.length ≤ 1000) : gh__law_same [.val (.str (S l)), .val (.str (S l))] = .ok (.v (.bl true), [.val (.str (S l)), .val (.str (S l))]) := by
  have hz : (S l).length ≤ sizeLine := by rw [S_len]; have := sizeLine_eq; omega
  have hlen : tLen [.str (S l)] = some (.int (l.length : Int)) := by
    show (if (S l).length ≤ sizeLine then some (T.int ((S l).length : Int)) else none) = _
    rw [if_pos hz, S_len]
  have lc := same_str l h .no
  simp only [gh__law_same, runFn, parE, runB, th__law_same]
  simp [hlen, lc, outE]
theorem same_list {g : Fn} {a : T} {ts : List T} (hl : ts.length ≤ 1000) (hi : ∀ (k : Nat), tIx a (.int (k : Int)) = ts[k]?) (hlen : tLen [a] = some (.int (ts.length : Int))) (hg : ∀ t ∈ ts, g [.val t, .val t] = .ok (.v (.bl true), [.val t, .val t])) (y : Sl) :
    lcS (rngI range1 (consA (slLen 1) nilA)) (gN 2) (notB (b1 tTru (asT (callR g (consA (slIx 0 (rd 2)) (consA (slIx 1 (rd 2)) nilA)))))) (rd 2) [2] [.val a, .val a, .no, y] = .ok ([], [.val a, .val a, .no, y]) := by
  have key := lcL_none (g := gN 2) (c := notB (b1 tTru (asT (callR g (consA (slIx 0 (rd 2)) (consA (slIx 1 (rd 2)) nilA)))))) (τ := rd 2) (vs := [2]) (ev0 := [.val a, .val a, .no, y]) (fun (k : Nat) => T.int (k : Int)) (List.range ts.length) [] (fun k hk => by
    have hk : k < ts.length := List.mem_range.mp hk
    refine ⟨[.val a, .val a, .val (.int (k : Int)), y], by simp, ?_, by simp [okV, plainSl], by simp [wipeE]⟩
    have h1 : tIx a (.int (k : Int)) = some ts[k] := by rw [hi k, List.getElem?_eq_getElem hk]
    have h2 := hg ts[k] (List.getElem_mem hk)
    simp [h1, h2])
  unfold lcS
  rw [rng_len _ _ _ hlen hl]
  simp only [sb_ok]
  have : wipeE [.val a, .val a, .no, y] [2] = [.val a, .val a, Sl.no, y] := by simp [wipeE]
  simp only [this]
  rw [if_pos (by simp [okV, plainSl]), key]
  simp [backE]
theorem s_int (g : Fn) (i : Int) : runFn 4 (t__law_same g) [.val (.int i), .val (.int i)] = .ok (.v (.bl true), [.val (.int i), .val (.int i)]) := by
  simp only [runFn, parE, runB, t__law_same]
  simp [outE]
theorem s_bl (g : Fn) (i : Bool) : runFn 4 (t__law_same g) [.val (.bl i), .val (.bl i)] = .ok (.v (.bl true), [.val (.bl i), .val (.bl i)]) := by
  simp only [runFn, parE, runB, t__law_same]
  simp [outE]
theorem s_str (g : Fn) (l : List Nat) (hl : l.length ≤ 1000) : runFn 4 (t__law_same g) [.val (.str (S l)), .val (.str (S l))] = .ok (.v (.bl true), [.val (.str (S l)), .val (.str (S l))]) := by
  have hz : (S l).length ≤ sizeLine := by rw [S_len]; have := sizeLine_eq; omega
  have hlen : tLen [.str (S l)] = some (.int (l.length : Int)) := by
    show (if (S l).length ≤ sizeLine then some (T.int ((S l).length : Int)) else none) = _
    rw [if_pos hz, S_len]
  have lc := same_str l hl .no
  simp only [runFn, parE, runB, t__law_same]
  simp [hlen, lc, outE]
theorem seq_nx {a b : XRS} {ev ev' : Ev} (h : a ev = .ok (.nx, ev')) : seqS a b ev = b ev' := by
  unfold seqS; rw [h]; rfl
theorem s_seq (g : Fn) (a : T) (ts : List T) (hl : ts.length ≤ 1000) (hi : ∀ (k : Nat), tIx a (.int (k : Int)) = ts[k]?) (hlen : tLen [a] = some (.int (ts.length : Int))) (hg : ∀ t ∈ ts, g [.val t, .val t] = .ok (.v (.bl true), [.val t, .val t]))
    (c1 : a.isNon = false) (c2 : tIsi [a, .ty .bl] = some (.bl false)) (c3 : tIsi [a, .ty .int] = some (.bl false)) (c4 : tIsi [a, .ty .str] = some (.bl false)) (c5 : tIsi [a, .ty .dic] = some (.bl false)) (c6 : tIsi2 .lst .tup a = some (.bl true)) (c7 : ∃ b, tIsi [a, .ty .lst] = some (.bl b)) :
    t__law_same g [.val a, .val a, .no, .no] = .ok (.ret (.bl true), [.val a, .val a, .no, .no]) := by
  have lc := same_list (g := g) (a := a) hl hi hlen hg .no
  obtain ⟨b, c7⟩ := c7
  unfold t__law_same
  rw [seq_nx (ev' := [.val a, .val a, .no, .no]) (by simp [c1, c2])]
  rw [seq_nx (ev' := [.val a, .val a, .no, .no]) (by simp [c3])]
  rw [seq_nx (ev' := [.val a, .val a, .no, .no]) (by simp [c4])]
  rw [seq_nx (ev' := [.val a, .val a, .no, .no]) (by simp [c5])]
  rw [seq_nx (ev' := [.val a, .val a, .no, .no]) (by simp [c6])]
  rw [seq_nx (ev' := [.val a, .val a, .no, .no]) (by simp [c7, hlen])]
  rw [sx_retS, sx_e2, sx_gives, lc]
  simp
theorem s_tup (g : Fn) (ts : List T) (hl : ts.length ≤ 1000) (h : ∀ t ∈ ts, g [.val t, .val t] = .ok (.v (.bl true), [.val t, .val t])) : runFn 4 (t__law_same g) [.val (.tup ts), .val (.tup ts)] = .ok (.v (.bl true), [.val (.tup ts), .val (.tup ts)]) := by
  have e := s_seq g (.tup ts) ts hl (fun k => by rw [tIx_t, atI_nat']) (by simp) h rfl rfl rfl rfl rfl rfl ⟨_, rfl⟩
  simp only [runFn, parE, runB]
  simp [e, outE]
theorem s_lst (g : Fn) (ts : List T) (hl : ts.length ≤ 1000) (h : ∀ t ∈ ts, g [.val t, .val t] = .ok (.v (.bl true), [.val t, .val t])) : runFn 4 (t__law_same g) [.val (.lst ts), .val (.lst ts)] = .ok (.v (.bl true), [.val (.lst ts), .val (.lst ts)]) := by
  have e := s_seq g (.lst ts) ts hl (fun k => by rw [tIx_l, atI_nat']) (by simp) h rfl rfl rfl rfl rfl rfl ⟨_, rfl⟩
  simp only [runFn, parE, runB]
  simp [e, outE]
theorem m_same : ∀ (k : Nat) (t : T), okT k t = true → gr__law_same k [.val t, .val t] = .ok (.v (.bl true), [.val t, .val t]) := by
  intro k
  induction k with
  | zero => intro t h; cases h
  | succ k ih =>
    intro t h
    cases t with
    | int i => exact s_int _ i
    | bl b => exact s_bl _ b
    | str x =>
      have hx : x = S x.cps.toList := (S_tl x).symm
      have h0 : decide (x.length ≤ 1000) = true := h
      have hl := of_decide_eq_true h0
      rw [hx] at hl ⊢
      rw [S_len] at hl
      exact s_str _ _ hl
    | tup ts =>
      have h0 : (decide (ts.length ≤ 1000) && ts.all (okT k)) = true := h
      exact s_tup _ ts (of_decide_eq_true (Bool.and_eq_true_iff.mp h0).1) fun t ht => ih t (List.all_eq_true.mp (Bool.and_eq_true_iff.mp h0).2 t ht)
    | lst ts =>
      have h0 : (decide (ts.length ≤ 1000) && ts.all (okT k)) = true := h
      exact s_lst _ ts (of_decide_eq_true (Bool.and_eq_true_iff.mp h0).1) fun t ht => ih t (List.all_eq_true.mp (Bool.and_eq_true_iff.mp h0).2 t ht)
    | _ => cases h
end PH
set_option Elab.async false
set_option linter.all false
set_option maxRecDepth 8000
namespace PH
open PySem PySem.Spec PyProof.Rows L2 TL SX
theorem w_low_plus : decide (("low" : Str) = ("plus" : Str)) = false := by decide +kernel
theorem w_low_minus : decide (("low" : Str) = ("minus" : Str)) = false := by decide +kernel
theorem w_low_times : decide (("low" : Str) = ("times" : Str)) = false := by decide +kernel
theorem w_low_over : decide (("low" : Str) = ("over" : Str)) = false := by decide +kernel
theorem w_plus_low : decide (("plus" : Str) = ("low" : Str)) = false := by decide +kernel
theorem w_plus_minus : decide (("plus" : Str) = ("minus" : Str)) = false := by decide +kernel
theorem w_plus_times : decide (("plus" : Str) = ("times" : Str)) = false := by decide +kernel
theorem w_plus_over : decide (("plus" : Str) = ("over" : Str)) = false := by decide +kernel
theorem w_minus_low : decide (("minus" : Str) = ("low" : Str)) = false := by decide +kernel
theorem w_minus_plus : decide (("minus" : Str) = ("plus" : Str)) = false := by decide +kernel
theorem w_minus_times : decide (("minus" : Str) = ("times" : Str)) = false := by decide +kernel
theorem w_minus_over : decide (("minus" : Str) = ("over" : Str)) = false := by decide +kernel
theorem w_times_low : decide (("times" : Str) = ("low" : Str)) = false := by decide +kernel
theorem w_times_plus : decide (("times" : Str) = ("plus" : Str)) = false := by decide +kernel
theorem w_times_minus : decide (("times" : Str) = ("minus" : Str)) = false := by decide +kernel
theorem w_times_over : decide (("times" : Str) = ("over" : Str)) = false := by decide +kernel
theorem w_over_low : decide (("over" : Str) = ("low" : Str)) = false := by decide +kernel
theorem w_over_plus : decide (("over" : Str) = ("plus" : Str)) = false := by decide +kernel
theorem w_over_minus : decide (("over" : Str) = ("minus" : Str)) = false := by decide +kernel
theorem w_over_times : decide (("over" : Str) = ("times" : Str)) = false := by decide +kernel
theorem w_compared_low : decide (("compared" : Str) = ("low" : Str)) = false := by decide +kernel
theorem w_compared_plus : decide (("compared" : Str) = ("plus" : Str)) = false := by decide +kernel
theorem w_compared_minus : decide (("compared" : Str) = ("minus" : Str)) = false := by decide +kernel
theorem w_compared_times : decide (("compared" : Str) = ("times" : Str)) = false := by decide +kernel
theorem w_compared_over : decide (("compared" : Str) = ("over" : Str)) = false := by decide +kernel
theorem a_low (a b : Int) (hb : b ≠ 0) (hs : Sm 9000 b) (nm : Bool) : g__law_asked [.val (.str "low"), .val (.int a), .val (.int b), .val (.bl nm)] = .ok (.v (frP (lowP a b)), [.val (.str "low"), .val (.int a), .val (.int b), .val (.bl nm)]) := by
  have e := m_low a b hb hs
  have run : t__law_asked [.val (.str "low"), .val (.int a), .val (.int b), .val (.bl nm)] = .ok (.ret (frP (lowP a b)), [.val (.str "low"), .val (.int a), .val (.int b), .val (.bl nm)]) := by
    unfold t__law_asked
    cases nm <;> simp [e]
  simp only [g__law_asked, runFn, parE, runB]
  simp [run, outE]
theorem a_plus {a b c d : Int} (h : Fr a b) (h' : Fr c d) (nm : Bool) : g__law_asked [.val (.str "plus"), .val (fr a b), .val (fr c d), .val (.bl nm)] = .ok (.v (frP (lowP (a * d + c * b) (b * d))), [.val (.str "plus"), .val (fr a b), .val (fr c d), .val (.bl nm)]) := by
  have e := m_plus h h'
  have run : t__law_asked [.val (.str "plus"), .val (fr a b), .val (fr c d), .val (.bl nm)] = .ok (.ret (frP (lowP (a * d + c * b) (b * d))), [.val (.str "plus"), .val (fr a b), .val (fr c d), .val (.bl nm)]) := by
    unfold t__law_asked
    rw [seq_nx (ev' := [.val (.str "plus"), .val (fr a b), .val (fr c d), .val (.bl nm)]) (by simp only [sx_ifS, sx_b1, sx_e2, sx_rd, List.getElem?_cons_zero, sb_ok, sx_kT, tEq_s, w_plus_low, R.ofO_some, tBool_b, Bool.false_eq_true, if_false, sx_nextS])]
    cases nm <;> simp [e]
  simp only [g__law_asked, runFn, parE, runB]
  simp [run, outE]
theorem a_minus {a b c d : Int} (h : Fr a b) (h' : Fr c d) (nm : Bool) : g__law_asked [.val (.str "minus"), .val (fr a b), .val (fr c d), .val (.bl nm)] = .ok (.v (frP (lowP (a * d - c * b) (b * d))), [.val (.str "minus"), .val (fr a b), .val (fr c d), .val (.bl nm)]) := by
  have e := m_minus h h'
  have run : t__law_asked [.val (.str "minus"), .val (fr a b), .val (fr c d), .val (.bl nm)] = .ok (.ret (frP (lowP (a * d - c * b) (b * d))), [.val (.str "minus"), .val (fr a b), .val (fr c d), .val (.bl nm)]) := by
    unfold t__law_asked
    rw [seq_nx (ev' := [.val (.str "minus"), .val (fr a b), .val (fr c d), .val (.bl nm)]) (by simp only [sx_ifS, sx_b1, sx_e2, sx_rd, List.getElem?_cons_zero, sb_ok, sx_kT, tEq_s, w_minus_low, R.ofO_some, tBool_b, Bool.false_eq_true, if_false, sx_nextS])]
    rw [seq_nx (ev' := [.val (.str "minus"), .val (fr a b), .val (fr c d), .val (.bl nm)]) (by simp only [sx_ifS, sx_b1, sx_e2, sx_rd, List.getElem?_cons_zero, sb_ok, sx_kT, tEq_s, w_minus_plus, R.ofO_some, tBool_b, Bool.false_eq_true, if_false, sx_nextS])]
    cases nm <;> simp [e]
  simp only [g__law_asked, runFn, parE, runB]
  simp [run, outE]
theorem a_times {a b c d : Int} (h : Fr a b) (h' : Fr c d) (nm : Bool) : g__law_asked [.val (.str "times"), .val (fr a b), .val (fr c d), .val (.bl nm)] = .ok (.v (frP (lowP (a * c) (b * d))), [.val (.str "times"), .val (fr a b), .val (fr c d), .val (.bl nm)]) := by
  have e := m_times h h'
  have run : t__law_asked [.val (.str "times"), .val (fr a b), .val (fr c d), .val (.bl nm)] = .ok (.ret (frP (lowP (a * c) (b * d))), [.val (.str "times"), .val (fr a b), .val (fr c d), .val (.bl nm)]) := by
    unfold t__law_asked
    rw [seq_nx (ev' := [.val (.str "times"), .val (fr a b), .val (fr c d), .val (.bl nm)]) (by simp only [sx_ifS, sx_b1, sx_e2, sx_rd, List.getElem?_cons_zero, sb_ok, sx_kT, tEq_s, w_times_low, R.ofO_some, tBool_b, Bool.false_eq_true, if_false, sx_nextS])]
    rw [seq_nx (ev' := [.val (.str "times"), .val (fr a b), .val (fr c d), .val (.bl nm)]) (by simp only [sx_ifS, sx_b1, sx_e2, sx_rd, List.getElem?_cons_zero, sb_ok, sx_kT, tEq_s, w_times_plus, R.ofO_some, tBool_b, Bool.false_eq_true, if_false, sx_nextS])]
    rw [seq_nx (ev' := [.val (.str "times"), .val (fr a b), .val (fr c d), .val (.bl nm)]) (by simp only [sx_ifS, sx_b1, sx_e2, sx_rd, List.getElem?_cons_zero, sb_ok, sx_kT, tEq_s, w_times_minus, R.ofO_some, tBool_b, Bool.false_eq_true, if_false, sx_nextS])]
    cases nm <;> simp [e]
  simp only [g__law_asked, runFn, parE, runB]
  simp [run, outE]
theorem a_over {a b c d : Int} (h : Fr a b) (h' : Fr c d) (hc : 0 < c) (nm : Bool) : g__law_asked [.val (.str "over"), .val (fr a b), .val (fr c d), .val (.bl nm)] = .ok (.v (frP (lowP (a * d) (b * c))), [.val (.str "over"), .val (fr a b), .val (fr c d), .val (.bl nm)]) := by
  have e := m_over h h' hc
  have run : t__law_asked [.val (.str "over"), .val (fr a b), .val (fr c d), .val (.bl nm)] = .ok (.ret (frP (lowP (a * d) (b * c))), [.val (.str "over"), .val (fr a b), .val (fr c d), .val (.bl nm)]) := by
    unfold t__law_asked
    rw [seq_nx (ev' := [.val (.str "over"), .val (fr a b), .val (fr c d), .val (.bl nm)]) (by simp only [sx_ifS, sx_b1, sx_e2, sx_rd, List.getElem?_cons_zero, sb_ok, sx_kT, tEq_s, w_over_low, R.ofO_some, tBool_b, Bool.false_eq_true, if_false, sx_nextS])]
    rw [seq_nx (ev' := [.val (.str "over"), .val (fr a b), .val (fr c d), .val (.bl nm)]) (by simp only [sx_ifS, sx_b1, sx_e2, sx_rd, List.getElem?_cons_zero, sb_ok, sx_kT, tEq_s, w_over_plus, R.ofO_some, tBool_b, Bool.false_eq_true, if_false, sx_nextS])]
    rw [seq_nx (ev' := [.val (.str "over"), .val (fr a b), .val (fr c d), .val (.bl nm)]) (by simp only [sx_ifS, sx_b1, sx_e2, sx_rd, List.getElem?_cons_zero, sb_ok, sx_kT, tEq_s, w_over_minus, R.ofO_some, tBool_b, Bool.false_eq_true, if_false, sx_nextS])]
    rw [seq_nx (ev' := [.val (.str "over"), .val (fr a b), .val (fr c d), .val (.bl nm)]) (by simp only [sx_ifS, sx_b1, sx_e2, sx_rd, List.getElem?_cons_zero, sb_ok, sx_kT, tEq_s, w_over_times, R.ofO_some, tBool_b, Bool.false_eq_true, if_false, sx_nextS])]
    cases nm <;> simp [e]
  simp only [g__law_asked, runFn, parE, runB]
  simp [run, outE]
theorem a_compared {a b c d : Int} (h : Fr a b) (h' : Fr c d) (nm : Bool) : g__law_asked [.val (.str "compared"), .val (fr a b), .val (fr c d), .val (.bl nm)] = .ok (.v (.int ((if a * d > c * b then 1 else 0) - (if a * d < c * b then 1 else 0))), [.val (.str "compared"), .val (fr a b), .val (fr c d), .val (.bl nm)]) := by
  have e := m_compared h h'
  have run : t__law_asked [.val (.str "compared"), .val (fr a b), .val (fr c d), .val (.bl nm)] = .ok (.ret (.int ((if a * d > c * b then 1 else 0) - (if a * d < c * b then 1 else 0))), [.val (.str "compared"), .val (fr a b), .val (fr c d), .val (.bl nm)]) := by
    unfold t__law_asked
    rw [seq_nx (ev' := [.val (.str "compared"), .val (fr a b), .val (fr c d), .val (.bl nm)]) (by simp only [sx_ifS, sx_b1, sx_e2, sx_rd, List.getElem?_cons_zero, sb_ok, sx_kT, tEq_s, w_compared_low, R.ofO_some, tBool_b, Bool.false_eq_true, if_false, sx_nextS])]
    rw [seq_nx (ev' := [.val (.str "compared"), .val (fr a b), .val (fr c d), .val (.bl nm)]) (by simp only [sx_ifS, sx_b1, sx_e2, sx_rd, List.getElem?_cons_zero, sb_ok, sx_kT, tEq_s, w_compared_plus, R.ofO_some, tBool_b, Bool.false_eq_true, if_false, sx_nextS])]
    rw [seq_nx (ev' := [.val (.str "compared"), .val (fr a b), .val (fr c d), .val (.bl nm)]) (by simp only [sx_ifS, sx_b1, sx_e2, sx_rd, List.getElem?_cons_zero, sb_ok, sx_kT, tEq_s, w_compared_minus, R.ofO_some, tBool_b, Bool.false_eq_true, if_false, sx_nextS])]
    rw [seq_nx (ev' := [.val (.str "compared"), .val (fr a b), .val (fr c d), .val (.bl nm)]) (by simp only [sx_ifS, sx_b1, sx_e2, sx_rd, List.getElem?_cons_zero, sb_ok, sx_kT, tEq_s, w_compared_times, R.ofO_some, tBool_b, Bool.false_eq_true, if_false, sx_nextS])]
    rw [seq_nx (ev' := [.val (.str "compared"), .val (fr a b), .val (fr c d), .val (.bl nm)]) (by simp only [sx_ifS, sx_b1, sx_e2, sx_rd, List.getElem?_cons_zero, sb_ok, sx_kT, tEq_s, w_compared_over, R.ofO_some, tBool_b, Bool.false_eq_true, if_false, sx_nextS])]
    cases nm <;> simp [e]
  simp only [g__law_asked, runFn, parE, runB]
  simp [run, outE]
end PH
set_option Elab.async false
set_option linter.all false
set_option maxRecDepth 8000
namespace PH
open PySem PySem.Spec PyProof.Rows L2 TL SX
theorem forL_inv {g : Tg} {b : XRS} (Inv : Ev → Prop) : ∀ (ts : List T) (ev : Ev), (∀ t ∈ ts, ∀ ev, Inv ev → ∃ ev1 ev2, g t ev = some ev1 ∧ b ev1 = .ok (.nx, ev2) ∧ Inv ev2) → Inv ev → ∃ ev', forL g b ts ev = .ok (.nx, ev') ∧ Inv ev'
  | [], ev, _, h => ⟨ev, rfl, h⟩
  | t :: ts, ev, hs, h => by
    obtain ⟨ev1, ev2, e1, e2, h2⟩ := hs t List.mem_cons_self ev h
    obtain ⟨ev', e3, h3⟩ := forL_inv Inv ts ev2 (fun u hu => hs u (List.mem_cons_of_mem _ hu)) h2
    refine ⟨ev', ?_, h3⟩
    simp only [forL, e1, e2, sb_ok, e3]
def nb (x : Sl) : Prop := isBox (some x) = false
theorem nb_no : nb .no := rfl
theorem nb_val (t : T) : nb (.val t) := rfl
theorem nb_own (t : List T) : nb (.own t) := rfl
def prIn : XRS := (seqS (parS [4, 5] (consMv (e2 tMul (slIx 2 (kT (.int 0))) (slIx 3 (kT (.int 1)))) (consMv (e2 tMul (slIx 3 (kT (.int 0))) (slIx 2 (kT (.int 1)))) nilM)))
    (seqS (ifS (notB (b1 tTru (asT (callR g__law_same (consA (asT (callR g__law_asked (consA (kT (.str "compared")) (consA (rd 2) (consA (rd 3) (consA (rd 1) nilA)))))) (consA (e2 tSub (callA tInt (consA (e2 tGt (rd 4) (rd 5)) nilA)) (callA tInt (consA (e2 tLt (rd 4) (rd 5)) nilA))) nilA)))))) (retS (kT (.bl false))) nextS)
    (setS 1 (notV (rd 1)))))
def prTwo : XRS := (seqS (setS 6 (e2 tSub (e2 tMul (slIx 2 (kT (.int 0))) (slIx 3 (kT (.int 1)))) (e2 tMul (slIx 3 (kT (.int 0))) (slIx 2 (kT (.int 1))))))
    (seqS (ifS (orB (notB (b1 tTru (asT (callR g__law_same (consA (asT (callR g__law_asked (consA (kT (.str "minus")) (consA (rd 2) (consA (rd 3) (consA (rd 1) nilA)))))) (consA (tupE (consA (rd 6) (consA (e2 tMul (slIx 2 (kT (.int 1))) (slIx 3 (kT (.int 1)))) nilA))) nilA)))))) (cmpB tNe (callA tAbs (consA (rd 6) nilA)) (kT (.int 1)))) (retS (kT (.bl false))) nextS)
    (setS 1 (notV (rd 1)))))
theorem pr_eq : t__law_pairs_right = (seqS (forS (seqI (rd 0)) (gN 2) (forS (seqI (rd 0)) (gN 3) prIn))
    (seqS (forS (seqI (gives (lstO (consA (tupE (consA (slIx 0 (kT (.int 0))) (consA (slIx 0 (kT (.int 1))) nilA))) (consA (tupE (consA (slIx 0 (kT (.int 1))) (consA (slIx 0 (kT (.int 0))) nilA))) (consA (tupE (consA (slIx 0 (kT (.int 2))) (consA (slIx 0 (kT (.int 3))) nilA))) nilA)))))) (gTu 2 (gCons (gN 2) (gCons (gN 3) gNil))) prTwo)
    (retS (kT (.bl true))))) := rfl
theorem same_i (v : Int) : g__law_same [.val (.int v), .val (.int v)] = .ok (.v (.bl true), [.val (.int v), .val (.int v)]) := m_same 5 _ rfl
theorem same_f (a b : Int) : g__law_same [.val (fr a b), .val (fr a b)] = .ok (.v (.bl true), [.val (fr a b), .val (fr a b)]) := m_same 5 _ rfl
theorem pr_inner {S : T} {a b c d : Int} (h : Fr a b) (h' : Fr c d) (nm : Bool) {x3 x4 x5 x6 : Sl} (h3 : nb x3) (h4 : nb x4) (h5 : nb x5) :
    ∃ ev1, gN 3 (fr c d) [.val S, .val (.bl nm), .val (fr a b), x3, x4, x5, x6] = some ev1 ∧ prIn ev1 = .ok (.nx, [.val S, .val (.bl !nm), .val (fr a b), .val (fr c d), .val (.int (a * d)), .val (.int (c * b)), x6]) := by
  unfold nb at *
  refine ⟨_, by simp [h3]; rfl, ?_⟩
  have e := a_compared h h' nm
  have es := same_i ((if a * d > c * b then 1 else 0) - (if a * d < c * b then 1 else 0))
  unfold prIn
  rw [seq_nx (ev' := [.val S, .val (.bl nm), .val (fr a b), .val (fr c d), .val (.int (a * d)), .val (.int (c * b)), x6]) (by simp [tMul_f h.top h'.base, tMul_f h'.top h.base, h4, h5])]
  rw [seq_nx (ev' := [.val S, .val (.bl nm), .val (fr a b), .val (fr c d), .val (.int (a * d)), .val (.int (c * b)), x6]) (by simp at e es; simp [e, es])]
  simp

theorem pr_outer {S : T} {fs : Fs} (hS : S.walk = some (mF fs)) (hf : ∀ p ∈ fs, Fr p.1 p.2) {a b : Int} (h : Fr a b) (nm : Bool) {x2 x3 x4 x5 x6 : Sl} (h2 : nb x2) (h3 : nb x3) (h4 : nb x4) (h5 : nb x5) :
    ∃ ev1 nm' y3 y4 y5, gN 2 (fr a b) [.val S, .val (.bl nm), x2, x3, x4, x5, x6] = some ev1 ∧ forS (seqI (rd 0)) (gN 3) prIn ev1 = .ok (.nx, [.val S, .val (.bl nm'), .val (fr a b), y3, y4, y5, x6]) ∧ nb y3 ∧ nb y4 ∧ nb y5 := by
  obtain ⟨ev', e, nm', y3, y4, y5, rfl, q3, q4, q5⟩ := forL_inv (g := gN 3) (b := prIn) (fun ev => ∃ (nm' : Bool) (y3 y4 y5 : Sl), ev = [.val S, .val (.bl nm'), .val (fr a b), y3, y4, y5, x6] ∧ nb y3 ∧ nb y4 ∧ nb y5) (mF fs) [.val S, .val (.bl nm), .val (fr a b), x3, x4, x5, x6]
    (fun t ht ev ⟨nm', y3, y4, y5, hev, q3, q4, q5⟩ => by
      subst hev
      obtain ⟨p, hp, rfl⟩ := List.mem_map.mp ht
      obtain ⟨ev1, g1, g2⟩ := pr_inner (S := S) h (hf p hp) nm' (x6 := x6) q3 q4 q5
      exact ⟨ev1, _, g1, g2, _, _, _, _, rfl, nb_val _, nb_val _, nb_val _⟩) ⟨nm, x3, x4, x5, rfl, h3, h4, h5⟩
  unfold nb at h2
  refine ⟨_, nm', y3, y4, y5, by simp [h2]; rfl, ?_, q3, q4, q5⟩
  simp only [sx_forS, sx_seqI, sx_rd, List.getElem?_cons_zero, sb_ok, hS, R.ofO_some]
  exact e
theorem pr_two {S : T} {a b c d : Int} (h : Fr a b) (h' : Fr c d) (hd : a * d - c * b = 1 ∨ a * d - c * b = -1) (nm : Bool) {x2 x3 x4 x5 x6 : Sl} (h2 : nb x2) (h3 : nb x3) (h6 : nb x6) :
    ∃ ev1, (gTu 2 (gCons (gN 2) (gCons (gN 3) gNil))) (.tup [fr a b, fr c d]) [.val S, .val (.bl nm), x2, x3, x4, x5, x6] = some ev1 ∧ prTwo ev1 = .ok (.nx, [.val S, .val (.bl !nm), .val (fr a b), .val (fr c d), x4, x5, .val (.int (a * d - c * b))]) := by
  unfold nb at *
  refine ⟨[.val S, .val (.bl nm), .val (fr a b), .val (fr c d), x4, x5, x6], by simp [h2, h3], ?_⟩
  have e := a_minus h h' nm
  have hb : 0 < b * d := Int.mul_pos h.pos h'.pos
  have hg : gc (a * d - c * b) (b * d) = 1 := by
    have hp := gc_pos (a := a * d - c * b) (b := b * d) (by omega)
    have d1 : gc (a * d - c * b) (b * d) ∣ a * d - c * b := Int.gcd_dvd_left ..
    have d4 : gc (a * d - c * b) (b * d) ∣ 1 := by
      generalize gc (a * d - c * b) (b * d) = G at *
      rcases hd with z | z
      · rw [z] at d1; exact d1
      · rw [z] at d1; exact Int.dvd_neg.mp d1
    have := Int.le_of_dvd (by decide) d4
    omega
  rw [lowP_self hb hg] at e
  have es := same_f (a * d - c * b) (b * d)
  have hab : ((a * d - c * b).natAbs : Int) = 1 := by omega
  unfold prTwo
  rw [seq_nx (ev' := [.val S, .val (.bl nm), .val (fr a b), .val (fr c d), x4, x5, .val (.int (a * d - c * b))]) (by simp [tMul_f h.top h'.base, tMul_f h'.top h.base, h6])]
  rw [seq_nx (ev' := [.val S, .val (.bl nm), .val (fr a b), .val (fr c d), x4, x5, .val (.int (a * d - c * b))]) (by
    simp only [frP, fr] at e es
    simp only [fr]
    have t1 := tMul_f h.base h'.base
    simp [e, es, t1, hab])]
  simp
theorem m__law_pairs_right {a b c d : Int} {fs : Fs} (hB : Bs a b c d) (hf : ∀ p ∈ fs, Fr p.1 p.2) (nm : Bool) :
    g__law_pairs_right [.val (.lst (mF ((a, b) :: (c, d) :: (-a, b) :: (-c, d) :: fs))), .val (.bl nm)] = .ok (.v (.bl true), [.val (.lst (mF ((a, b) :: (c, d) :: (-a, b) :: (-c, d) :: fs))), .val (.bl nm)]) := by
  have q1 := hB.fr1
  have q2 := hB.fr2
  have hall : ∀ p ∈ ((a, b) :: (c, d) :: (-a, b) :: (-c, d) :: fs : Fs), Fr p.1 p.2 := fun p hp => by
    simp only [List.mem_cons] at hp
    rcases hp with rfl | rfl | rfl | rfl | hp
    · exact q1
    · exact q2
    · exact q1.neg
    · exact q2.neg
    · exact hf p hp
  generalize hS : T.lst (mF ((a, b) :: (c, d) :: (-a, b) :: (-c, d) :: fs)) = S
  have hw : S.walk = some (mF ((a, b) :: (c, d) :: (-a, b) :: (-c, d) :: fs)) := by rw [← hS]; rfl
  obtain ⟨ev', e, nm', y2, y3, y4, y5, rfl, r2, r3, r4, r5⟩ := forL_inv (g := gN 2) (b := forS (seqI (rd 0)) (gN 3) prIn) (fun ev => ∃ (nm' : Bool) (y2 y3 y4 y5 : Sl), ev = [.val S, .val (.bl nm'), y2, y3, y4, y5, .no] ∧ nb y2 ∧ nb y3 ∧ nb y4 ∧ nb y5)
    (mF ((a, b) :: (c, d) :: (-a, b) :: (-c, d) :: fs)) [.val S, .val (.bl nm), .no, .no, .no, .no, .no] (fun t ht ev ⟨nm', y2, y3, y4, y5, hev, r2, r3, r4, r5⟩ => by
      subst hev
      obtain ⟨p, hp, rfl⟩ := List.mem_map.mp ht
      obtain ⟨ev1, nm2, z3, z4, z5, g1, g2, s3, s4, s5⟩ := pr_outer hw hall (hall p hp) nm' (x6 := .no) r2 r3 r4 r5
      exact ⟨ev1, _, g1, g2, _, _, _, _, _, rfl, nb_val _, s3, s4, s5⟩) ⟨nm, _, _, _, _, rfl, nb_no, nb_no, nb_no, nb_no⟩
  have i0 : tIx S (.int 0) = some (fr a b) := by rw [← hS, tIx_l, atI_0]; rfl
  have i1 : tIx S (.int 1) = some (fr c d) := by rw [← hS, tIx_l, atI_1]; rfl
  have i2 : tIx S (.int 2) = some (fr (-a) b) := by rw [← hS, tIx_l, atI_2]; rfl
  have i3 : tIx S (.int 3) = some (fr (-c) d) := by rw [← hS, tIx_l, atI_3]; rfl
  have det := hB.det
  obtain ⟨ev'', e2, nm2, z2, z3, z4, z5, z6, rfl, s2, s3, s6⟩ := forL_inv (g := gTu 2 (gCons (gN 2) (gCons (gN 3) gNil))) (b := prTwo) (fun ev => ∃ (nm' : Bool) (y2 y3 y4 y5 y6 : Sl), ev = [.val S, .val (.bl nm'), y2, y3, y4, y5, y6] ∧ nb y2 ∧ nb y3 ∧ nb y6)
    [.tup [fr a b, fr c d], .tup [fr c d, fr a b], .tup [fr (-a) b, fr (-c) d]] [.val S, .val (.bl nm'), y2, y3, y4, y5, .no] (fun t ht ev ⟨nm', y2, y3, y4, y5, y6, hev, r2, r3, r6⟩ => by
      subst hev
      simp only [List.mem_cons, List.not_mem_nil, or_false] at ht
      rcases ht with rfl | rfl | rfl
      · obtain ⟨ev1, g1, g2⟩ := pr_two (S := S) q1 q2 det nm' (x4 := y4) (x5 := y5) r2 r3 r6
        exact ⟨ev1, _, g1, g2, _, _, _, _, _, _, rfl, nb_val _, nb_val _, nb_val _⟩
      · obtain ⟨ev1, g1, g2⟩ := pr_two (S := S) q2 q1 (by omega) nm' (x4 := y4) (x5 := y5) r2 r3 r6
        exact ⟨ev1, _, g1, g2, _, _, _, _, _, _, rfl, nb_val _, nb_val _, nb_val _⟩
      · have hn : (-a) * d - (-c) * b = -(a * d - c * b) := by grind
        obtain ⟨ev1, g1, g2⟩ := pr_two (S := S) q1.neg q2.neg (by rw [hn]; omega) nm' (x4 := y4) (x5 := y5) r2 r3 r6
        exact ⟨ev1, _, g1, g2, _, _, _, _, _, _, rfl, nb_val _, nb_val _, nb_val _⟩) ⟨nm', _, _, _, _, _, rfl, r2, r3, nb_no⟩
  have run : t__law_pairs_right [.val S, .val (.bl nm), .no, .no, .no, .no, .no] = .ok (.ret (.bl true), [.val S, .val (.bl nm2), z2, z3, z4, z5, z6]) := by
    rw [pr_eq]
    rw [seq_nx (ev' := [.val S, .val (.bl nm'), y2, y3, y4, y5, .no]) (by
      rw [sx_forS, sx_seqI]
      simp only [sx_rd, List.getElem?_cons_zero, sb_ok, hw, R.ofO_some]
      exact e)]
    rw [seq_nx (ev' := [.val S, .val (.bl nm2), z2, z3, z4, z5, z6]) (by
      rw [sx_forS, sx_seqI]
      have : gives (lstO (consA (tupE (consA (slIx 0 (kT (.int 0))) (consA (slIx 0 (kT (.int 1))) nilA))) (consA (tupE (consA (slIx 0 (kT (.int 1))) (consA (slIx 0 (kT (.int 0))) nilA))) (consA (tupE (consA (slIx 0 (kT (.int 2))) (consA (slIx 0 (kT (.int 3))) nilA))) nilA)))) [.val S, .val (.bl nm'), y2, y3, y4, y5, .no]
          = .ok (.lst [.tup [fr a b, fr c d], .tup [fr c d, fr a b], .tup [fr (-a) b, fr (-c) d]], [.val S, .val (.bl nm'), y2, y3, y4, y5, .no]) := by
        simp [i0, i1, i2, i3]
      rw [this]
      simp only [sb_ok, walk_l, R.ofO_some]
      exact e2)]
    simp
  simp only [g__law_pairs_right, runFn, parE, runB]
  simp [run, outE]
end PH
set_option Elab.async false
set_option linter.all false
set_option maxRecDepth 8000
namespace PH
open PySem PySem.Spec PyProof.Rows L2 TL SX
def erOne : XRS := (seqS (setO 3 (lstO (consA (e2 tDiv (slIx 2 (kT (.int 0))) (slIx 2 (kT (.int 1)))) (consA (e1 tNeg (e2 tDiv (e1 tNeg (slIx 2 (kT (.int 0)))) (slIx 2 (kT (.int 1))))) (consA (e2 tAdd (callA tStr (consA (slIx 2 (kT (.int 0))) nilA)) (ifE (cmpB tEq (slIx 2 (kT (.int 1))) (kT (.int 1))) (kT (.str "")) (e2 tAdd (kT (.str "/")) (callA tStr (consA (slIx 2 (kT (.int 1))) nilA))))) (consA (kT (.bl true)) nilA))))))
    (seqS (setO 4 (lstO (consA (asT (callRK g_floor_of pmI (consA (rd 2) nilA))) (consA (asT (callRK g_ceiling_of pmI (consA (rd 2) nilA))) (consA (asT (callRK g_fraction_text pmI (consA (rd 2) nilA))) (consA (asT (callRK g_is_fraction pmI (consA (rd 2) nilA))) nilA))))))
    (seqS (ifS (notB (b1 tTru (rd 1))) (setO 4 (lstO (consA (asT (callR g_floor_of (consA (rd 2) nilA))) (consA (asT (callR g_ceiling_of (consA (rd 2) nilA))) (consA (asT (callR g_fraction_text (consA (rd 2) nilA))) (consA (asT (callR g_is_fraction (consA (rd 2) nilA))) nilA)))))) nextS)
    (seqS (ifS (orB (notB (b1 tTru (asT (callR g__law_same (consA (rd 4) (consA (rd 3) nilA)))))) (notB (b1 tTru (asT (callR g__law_same (consA (ifE (b1 tTru (rd 1)) (asT (callRK g_read_fraction pmI (consA (slIx 3 (kT (.int 2))) nilA))) (asT (callR g_read_fraction (consA (slIx 3 (kT (.int 2))) nilA)))) (consA (rd 2) nilA))))))) (retS (kT (.bl false))) nextS)
    (setS 1 (notV (rd 1)))))))
def erTwo : XRS := (setS 5 (e2 tDiv (e2 tMul (rd 5) (slIx 2 (kT (.int 1)))) (asT (callR g__law_divisor (consA (rd 5) (consA (slIx 2 (kT (.int 1))) nilA))))))
theorem er_eq : t__law_each_right = (seqS (forS (seqI (rd 0)) (gN 2) erOne)
    (seqS (setS 5 (kT (.int 1)))
    (seqS (forS (seqI (rd 0)) (gN 2) erTwo)
    (seqS (setO 6 (lcS (seqI (rd 0)) (gN 2) yesB (e2 tMul (slIx 2 (kT (.int 0))) (e2 tDiv (rd 5) (slIx 2 (kT (.int 1))))) [2]))
    (seqS (setS 4 (ifE (b1 tTru (rd 1)) (gives (lstO (consA (asT (callRK g_common_base pmI (consA (rd 0) nilA))) (consA (asT (callR g_total_of (consA (rd 0) nilA))) nilA)))) (gives (lstO (consA (asT (callR g_common_base (consA (callA tTup (consA (rd 0) nilA)) nilA))) (consA (asT (callRK g_total_of pmI (consA (rd 0) nilA))) nilA))))))
    (retS (asT (callR g__law_same (consA (rd 4) (consA (gives (lstO (consA (tupE (consA (rd 5) (consA (rd 6) nilA))) (consA (asT (callR g__law_low (consA (callA tSum (consA (rd 6) nilA)) (consA (rd 5) nilA)))) nilA)))) nilA)))))))))) := rfl
theorem txt_len {a b : Int} (h : Sm 100 a) (h' : Sm 100 b) : (txt a b).length ≤ 401 := by
  have := intL_len h
  have := intL_len h'
  unfold txt txt2
  split
  · omega
  · simp; omega
theorem same_due {a b : Int} (h : Fr a b) (x y : Int) : g__law_same [.val (.lst [.int x, .int y, .str (S (txt a b)), .bl true]), .val (.lst [.int x, .int y, .str (S (txt a b)), .bl true])] = .ok (.v (.bl true), [.val (.lst [.int x, .int y, .str (S (txt a b)), .bl true]), .val (.lst [.int x, .int y, .str (S (txt a b)), .bl true])]) := by
  refine m_same 5 _ ?_
  have : (S (txt a b)).length ≤ 1000 := by rw [S_len]; have := txt_len h.top h.base; omega
  simp [okT, this]
theorem due_text {a b : Int} (h : Fr a b) (hb : b ≠ 1) : tAdd (.str "/") (.str (S (intL b))) = some (.str (S (47 :: intL b))) ∧ tAdd (.str (S (intL a))) (.str (S (47 :: intL b))) = some (.str (S (txt a b))) := by
  have := intL_len h.top
  have := intL_len h.base
  rw [slash, tAdd_s (by simp; omega), tAdd_s (by simp; omega)]
  refine ⟨rfl, ?_⟩
  rw [show txt a b = txt2 a b from if_neg hb]; rfl
theorem due_text1 {a : Int} (h : Sm 100 a) : tAdd (.str (S (intL a))) (.str "") = some (.str (S (txt a 1))) := by
  have := intL_len h
  have e : ("" : Str) = S [] := by rfl
  rw [e, tAdd_s (by simp; omega)]
  simp [txt]
theorem er_one {V : T} {a b : Int} (h : Fr a b) (nm : Bool) {x2 x3 x4 x5 x6 : Sl} (h2 : nb x2) (h3 : nb x3) (h4 : nb x4) :
    ∃ ev1 y3 y4, gN 2 (fr a b) [.val V, .val (.bl nm), x2, x3, x4, x5, x6] = some ev1 ∧ erOne ev1 = .ok (.nx, [.val V, .val (.bl !nm), .val (fr a b), y3, y4, x5, x6]) ∧ nb y3 ∧ nb y4 := by
  unfold nb at h2 h3 h4
  let L : List T := [.int (a.fdiv b), .int (-((-a).fdiv b)), .str (S (txt a b)), .bl true]
  refine ⟨[.val V, .val (.bl nm), .val (fr a b), x3, x4, x5, x6], .val (.lst L), .val (.lst L), by simp [h2], ?_, nb_val _, nb_val _⟩
  have d1 := tDiv_i a b (by have := h.pos; omega) (h.base.le (by decide))
  have d2 := tDiv_i (-a) b (by have := h.pos; omega) (h.base.le (by decide))
  have f1 := m_floor_of h
  have f2 := m_ceiling_of h
  have f3 := m_fraction_text h
  have f4 := m_is_fraction a b
  simp only [h.pos, h.low, decide_true, Bool.and_self] at f4
  have f5 := m_read_fraction h
  have sd := same_due h (a.fdiv b) (-((-a).fdiv b))
  have sf := same_f a b
  have e1 : setO 3 (lstO (consA (e2 tDiv (slIx 2 (kT (.int 0))) (slIx 2 (kT (.int 1)))) (consA (e1 tNeg (e2 tDiv (e1 tNeg (slIx 2 (kT (.int 0)))) (slIx 2 (kT (.int 1))))) (consA (e2 tAdd (callA tStr (consA (slIx 2 (kT (.int 0))) nilA)) (ifE (cmpB tEq (slIx 2 (kT (.int 1))) (kT (.int 1))) (kT (.str "")) (e2 tAdd (kT (.str "/")) (callA tStr (consA (slIx 2 (kT (.int 1))) nilA))))) (consA (kT (.bl true)) nilA)))))
      [.val V, .val (.bl nm), .val (fr a b), x3, x4, x5, x6] = .ok (.nx, [.val V, .val (.bl nm), .val (fr a b), .own L, x4, x5, x6]) := by
    by_cases hb : b = 1
    · subst hb
      have t1 := due_text1 h.top
      simp [d1, d2, tStr_i h.top, t1, h3, L]
    · obtain ⟨t1, t2⟩ := due_text h hb
      simp [d1, d2, tStr_i h.top, tStr_i h.base, t1, t2, hb, h3, L]
  unfold erOne
  rw [seq_nx e1]
  rw [seq_nx (ev' := [.val V, .val (.bl nm), .val (fr a b), .own L, .own L, x5, x6]) (by simp [f1, f2, f3, f4, h4, L])]
  rw [seq_nx (ev' := [.val V, .val (.bl nm), .val (fr a b), .own L, .own L, x5, x6]) (by cases nm <;> simp [f1, f2, f3, f4, L])]
  rw [seq_nx (ev' := [.val V, .val (.bl nm), .val (fr a b), .val (.lst L), .val (.lst L), x5, x6]) (by
    cases nm <;> simp [sd, L, f5, sf])]
  simp

def pl (x : Sl) : Prop := plainSl (some x) = true
theorem pl_no : pl .no := rfl
theorem pl_val (t : T) : pl (.val t) := rfl
theorem pl.nb {x : Sl} (h : pl x) : nb x := by
  cases x <;> first | rfl | cases h
theorem er_base (V nm : T) (x3 x4 x6 : Sl) : ∀ (fs : Fs) (acc : Int) (k : Nat) (x : Sl), (∀ p ∈ fs, Fr p.1 p.2) → 0 < acc → Sm k acc → k + 100 * fs.length ≤ 8000 → pl x →
    ∃ y, pl y ∧ forL (gN 2) erTwo (mF fs) [.val V, .val nm, x, x3, x4, .val (.int acc), x6] = .ok (.nx, [.val V, .val nm, y, x3, x4, .val (.int (baseF fs acc)), x6])
  | [], acc, k, x, _, _, _, _, hx => ⟨x, hx, by simp [mF, forL, baseF]⟩
  | p :: fs, acc, k, x, h, h1, h2, hk, hx => by
    have hp := h p List.mem_cons_self
    rw [List.length_cons] at hk
    obtain ⟨a1, a2⟩ := base_step h1 h2 hp.pos hp.base
    obtain ⟨y, hy, e⟩ := er_base V nm x3 x4 x6 fs _ (k + 100) (.val (frP p)) (fun q hq => h q (List.mem_cons_of_mem _ hq)) a1 a2 (by omega) (pl_val _)
    refine ⟨y, hy, ?_⟩
    have hx' : isBox (some x) = false := hx.nb
    have m1 := tMul_i acc p.2 (h2.le (by omega)) (hp.base.le (by decide))
    have d1 := tDiv_i (acc * p.2) (gc acc p.2) (by have := gc_pos (a := acc) (b := p.2) (by have := hp.pos; omega); omega) ((gc_sm (by have := hp.pos; omega) hp.base).le (by decide))
    have i1 : tIx (frP p) (.int 1) = some (.int p.2) := tIx_fr1 _ _
    have step : erTwo [.val V, .val nm, .val (frP p), x3, x4, .val (.int acc), x6] = .ok (.nx, [.val V, .val nm, .val (frP p), x3, x4, .val (.int ((acc * p.2).fdiv (gc acc p.2))), x6]) := by
      simp [erTwo, i1, m1, m__law_divisor, d1]
    have g1 : gN 2 (frP p) [.val V, .val nm, x, x3, x4, .val (.int acc), x6] = some [.val V, .val nm, .val (frP p), x3, x4, .val (.int acc), x6] := by simp [hx']
    simp only [mF, List.map_cons, baseF, forL, g1, step, sb_ok]
    exact e
theorem er_tops {V nm : T} {fs : Fs} (hV : V.walk = some (mF fs)) (hf : FrAll fs) {B : Int} (hB : 0 < B) (sB : Sm 8000 B) {x2 x3 x4 x6 : Sl} (h2 : pl x2) :
    lcS (seqI (rd 0)) (gN 2) yesB (e2 tMul (slIx 2 (kT (.int 0))) (e2 tDiv (rd 5) (slIx 2 (kT (.int 1))))) [2] [.val V, .val nm, x2, x3, x4, .val (.int B), x6] = .ok ((topsF fs B).map .int, [.val V, .val nm, x2, x3, x4, .val (.int B), x6]) := by
  have key := lcL_all (g := gN 2) (τ := e2 tMul (slIx 2 (kT (.int 0))) (e2 tDiv (rd 5) (slIx 2 (kT (.int 1))))) (vs := [2]) (ev0 := [.val V, .val nm, .no, x3, x4, .val (.int B), x6]) (f := fun p : Int × Int => T.int (p.1 * B.fdiv p.2)) frP fs [] (fun p hp => by
    have hq := hf.1 p hp
    refine ⟨[.val V, .val nm, .val (frP p), x3, x4, .val (.int B), x6], by simp, ?_, by simp [okV, plainSl], by simp [wipeE]⟩
    have d := tDiv_i B p.2 (by have := hq.pos; omega) (hq.base.le (by decide))
    have m := tMul_i p.1 (B.fdiv p.2) (hq.top.le (by decide)) ((fdiv_sm sB (by omega) hq.pos).le (by decide))
    simp [frP, d, m]) (by have := hf.2; have := sizeLine_eq; simp; omega)
  have e : (fs.map fun p => T.int (p.1 * B.fdiv p.2)) = (topsF fs B).map .int := by simp [topsF]
  simp only [List.nil_append, e] at key
  unfold lcS
  simp only [sx_seqI, sx_rd, List.getElem?_cons_zero, sb_ok, hV, R.ofO_some]
  have : wipeE [.val V, .val nm, x2, x3, x4, .val (.int B), x6] [2] = [.val V, .val nm, Sl.no, x3, x4, .val (.int B), x6] := by simp [wipeE]
  simp only [this]
  have h2' : plainSl (some x2) = true := h2
  rw [if_pos (by simp [okV, h2']), show mF fs = fs.map frP from rfl, key]
  simp [backE]
theorem m__law_each_right {fs : Fs} (hf : FrAll fs) (nm : Bool) : g__law_each_right [.val (.lst (mF fs)), .val (.bl nm)] = .ok (.v (.bl true), [.val (.lst (mF fs)), .val (.bl nm)]) := by
  have cb1 := m_common_base hf (seq_l fs)
  have cb2 := m_common_base hf (seq_t fs)
  have to1 := m_total_of hf (seq_l fs)
  generalize hV : T.lst (mF fs) = V
  rw [hV] at cb1 to1
  have hw : V.walk = some (mF fs) := by rw [← hV]; rfl
  have ht : tTup [V] = some (.tup (mF fs)) := by rw [← hV]; rfl
  obtain ⟨ev', e, nm', y2, y3, y4, rfl, r2, r3, r4⟩ := forL_inv (g := gN 2) (b := erOne) (fun ev => ∃ (nm' : Bool) (y2 y3 y4 : Sl), ev = [.val V, .val (.bl nm'), y2, y3, y4, .no, .no] ∧ pl y2 ∧ nb y3 ∧ nb y4)
    (mF fs) [.val V, .val (.bl nm), .no, .no, .no, .no, .no] (fun t ht ev ⟨nm', y2, y3, y4, hev, r2, r3, r4⟩ => by
      subst hev
      obtain ⟨p, hp, rfl⟩ := List.mem_map.mp ht
      obtain ⟨ev1, z3, z4, g1, g2, s3, s4⟩ := er_one (V := V) (hf.1 p hp) nm' (x5 := .no) (x6 := .no) r2.nb r3 r4
      exact ⟨ev1, _, g1, g2, _, _, _, _, rfl, pl_val _, s3, s4⟩) ⟨nm, _, _, _, rfl, pl_no, nb_no, nb_no⟩
  obtain ⟨y, hy, e2⟩ := er_base V (.bl nm') y3 y4 .no fs 1 1 y2 hf.1 (by decide) (by decide) (by have := hf.2; omega) r2
  obtain ⟨b1, b2⟩ := base_all fs 1 1 hf.1 (by decide) (by decide)
  have b3 : Sm 8000 (baseF fs 1) := b2.le (by have := hf.2; omega)
  have lc := er_tops (nm := .bl nm') hw hf b1 b3 (x2 := y) (x3 := y3) (x4 := y4) (x6 := .no) hy
  have ll := m__law_low (topsF fs (baseF fs 1)).sum (baseF fs 1) (by omega) b3
  have lt : (topsF fs (baseF fs 1)).length ≤ 1000 := by simp [topsF]; have := hf.2; omega
  generalize topsF fs (baseF fs 1) = TS at *
  generalize baseF fs 1 = B at *
  generalize lowP TS.sum B = q at *
  have sm := m_same 5 (.lst [.tup [.int B, .lst (TS.map .int)], frP q]) (by
    have : (TS.map T.int).all (okT 2) = true := by simp [okT]
    simp [okT, frP, fr, lt])
  have r4' : isBox (some y4) = false := r4
  have ts := tSum_l TS
  generalize hTT : T.lst (TS.map .int) = TT at *
  have run : t__law_each_right [.val V, .val (.bl nm), .no, .no, .no, .no, .no] = .ok (.ret (.bl true), [.val V, .val (.bl nm'), y, y3, .val (.lst [.tup [.int B, TT], frP q]), .val (.int B), .val TT]) := by
    rw [er_eq]
    rw [seq_nx (ev' := [.val V, .val (.bl nm'), y2, y3, y4, .no, .no]) (by
      rw [sx_forS, sx_seqI]
      simp only [sx_rd, List.getElem?_cons_zero, sb_ok, hw, R.ofO_some]
      exact e)]
    rw [seq_nx (ev' := [.val V, .val (.bl nm'), y2, y3, y4, .val (.int 1), .no]) (by simp)]
    rw [seq_nx (ev' := [.val V, .val (.bl nm'), y, y3, y4, .val (.int B), .no]) (by
      rw [sx_forS, sx_seqI]
      simp only [sx_rd, List.getElem?_cons_zero, sb_ok, hw, R.ofO_some]
      exact e2)]
    rw [seq_nx (ev' := [.val V, .val (.bl nm'), y, y3, y4, .val (.int B), .own (TS.map .int)]) (by
      rw [sx_setO, lc]
      simp)]
    rw [seq_nx (ev' := [.val V, .val (.bl nm'), y, y3, .val (.lst [.tup [.int B, TT], frP q]), .val (.int B), .own (TS.map .int)]) (by
      cases nm' <;> simp [cb1, cb2, to1, ht, r4', seq_t])]
    simp [hTT, ts, ll, sm]
  simp only [g__law_each_right, runFn, parE, runB]
  simp [run, outE]
end PH
set_option Elab.async false
set_option linter.all false
set_option maxRecDepth 8000
namespace PH
open PySem PySem.Spec PyProof.Rows L2 TL SX
def dvRow : XRS := (seqS (ifS (notB (b1 tTru (asT (callR g__law_same (consA (asT (callR g__law_asked (consA (rd 14) (consA (rd 15) (consA (rd 16) (consA (rd 1) nilA)))))) (consA (rd 17) nilA)))))) (retS (kT (.bl false))) nextS)
    (setS 1 (notV (rd 1))))
def dvGreat : XR := (e2 tIx (gives (lstO (consA (e2 tAdd (kT (.int 2)) (asT (callRB g__law_take 0 (consA (e2 tMul (kT (.int 9)) (e2 tPow (kT (.int 10)) (kT (.int 9)))) nilA)))) (consA (e2 tMul (e2 tAdd (kT (.int 2)) (asT (callRB g__law_take 0 (consA (kT (.int 90000)) nilA)))) (e2 tAdd (kT (.int 2)) (asT (callRB g__law_take 0 (consA (kT (.int 90000)) nilA))))) (consA (e2 tAdd (e2 tPow (kT (.int 10)) (kT (.int 9))) (kT (.int 7))) nilA))))) (asT (callRB g__law_take 0 (consA (kT (.int 3)) nilA))))
theorem dv_eq : t__law_divisors_right = (seqS (setS 2 dvGreat)
    (seqS (parS [3, 4, 5] (consMv (e2 tAdd (kT (.int 1)) (asT (callRB g__law_take 0 (consA (e2 tPow (kT (.int 10)) (kT (.int 9))) nilA)))) (consMv (e2 tAdd (kT (.int 1)) (asT (callRB g__law_take 0 (consA (e2 tPow (kT (.int 10)) (kT (.int 9))) nilA)))) (consMv (e2 tSub (kT (.int 1)) (e2 tMul (kT (.int 2)) (asT (callRB g__law_take 0 (consA (kT (.int 2)) nilA))))) nilM))))
    (seqS (setS 6 (asT (callR g__law_low (consA (e2 tMul (rd 5) (rd 3)) (consA (rd 4) nilA)))))
    (seqS (ifS (notB (b1 tTru (asT (callR g__law_same (consA (asT (callR g__law_asked (consA (kT (.str "low")) (consA (e2 tMul (e2 tMul (rd 5) (rd 3)) (rd 2)) (consA (e2 tMul (rd 4) (rd 2)) (consA (rd 1) nilA)))))) (consA (rd 6) nilA)))))) (retS (kT (.bl false))) nextS)
    (seqS (ifS (notB (b1 tTru (asT (callR g__law_same (consA (asT (callR g__law_asked (consA (kT (.str "low")) (consA (e2 tMul (rd 3) (rd 2)) (consA (e2 tMul (e2 tMul (e1 tNeg (rd 5)) (rd 4)) (rd 2)) (consA (notV (rd 1)) nilA)))))) (consA (tupE (consA (e1 tNeg (slIx 6 (kT (.int 0)))) (consA (slIx 6 (kT (.int 1))) nilA))) nilA)))))) (retS (kT (.bl false))) nextS)
    (seqS (setS 7 (tupE (consA (e2 tMul (slIx 6 (kT (.int 0))) (rd 2)) (consA (e2 tMul (slIx 6 (kT (.int 1))) (rd 2)) nilA))))
    (seqS (ifS (notB (b1 tTru (asT (callR g__law_same (consA (gives (lstO (consA (asT (callR g_is_fraction (consA (rd 7) nilA))) (consA (asT (callRK g_is_fraction pmI (consA (rd 6) nilA))) nilA)))) (consA (gives (lstO (consA (kT (.bl false)) (consA (kT (.bl true)) nilA)))) nilA)))))) (retS (kT (.bl false))) nextS)
    (seqS (setS 8 (e2 tAdd (e2 tAdd (callA tStr (consA (slIx 7 (kT (.int 0))) nilA)) (kT (.str "/"))) (callA tStr (consA (slIx 7 (kT (.int 1))) nilA))))
    (seqS (tryGv "InvalidText" 9 8 gh__law_same (retS (andV (e2 tIsN (asT (callRK g_read_fraction pmI (consA (rd 8) nilA))) (kT .non)) (kT (.bl false)))))
    (seqS (parS [10, 11, 12] (consMv (asT (callR g__law_low (consA (rd 3) (consA (rd 2) nilA)))) (consMv (asT (callR g__law_low (consA (rd 2) (consA (rd 4) nilA)))) (consMv (asT (callR g__law_low (consA (e2 tSub (rd 2) (rd 3)) (consA (rd 2) nilA)))) nilM))))
    (seqS (setO 13 (lstO (consA (tupE (consA (kT (.str "times")) (consA (rd 10) (consA (rd 11) (consA (asT (callR g__law_low (consA (rd 3) (consA (rd 4) nilA)))) nilA))))) (consA (tupE (consA (kT (.str "plus")) (consA (rd 10) (consA (rd 12) (consA (tupE (consA (kT (.int 1)) (consA (kT (.int 1)) nilA))) nilA))))) (consA (tupE (consA (kT (.str "minus")) (consA (rd 10) (consA (tupE (consA (e1 tNeg (slIx 12 (kT (.int 0)))) (consA (slIx 12 (kT (.int 1))) nilA))) (consA (tupE (consA (kT (.int 1)) (consA (kT (.int 1)) nilA))) nilA))))) (consA (tupE (consA (kT (.str "over")) (consA (rd 10) (consA (asT (callR g__law_low (consA (rd 4) (consA (rd 2) nilA)))) (consA (asT (callR g__law_low (consA (rd 3) (consA (rd 4) nilA)))) nilA))))) nilA))))))
    (seqS (dropS (apS 13 (tupE (consA (kT (.str "plus")) (consA (rd 10) (consA (rd 11) (consA (asT (callR g__law_low (consA (e2 tAdd (e2 tMul (rd 3) (rd 4)) (e2 tMul (rd 2) (rd 2))) (consA (e2 tMul (rd 2) (rd 4)) nilA)))) nilA)))))))
    (seqS (forS (seqI (rd 13)) (gTu 4 (gCons (gN 14) (gCons (gN 15) (gCons (gN 16) (gCons (gN 17) gNil))))) dvRow)
    (retS (kT (.bl true)))))))))))))))) := rfl
/-! the mathematics -/
theorem x_low1 {t b g : Int} (hb : b ≠ 0) (hg : g ≠ 0) : lowP (t * g) (b * g) = lowP t b := lowP_eq (Int.mul_ne_zero hb hg) hb (by grind)
theorem x_low2 {t b g s : Int} (hb : 0 < b) (hg : g ≠ 0) (hs : s = 1 ∨ s = -1) : lowP (t * g) (-s * b * g) = (-(lowP (s * t) b).1, (lowP (s * t) b).2) := by
  obtain ⟨z, h0, e1, e2, e3, e4⟩ := lowP_ex (s * t) b (by omega)
  have cr := lowP_cross (a := s * t) (b := b) (by omega)
  generalize lowP (s * t) b = d at *
  obtain ⟨x, y⟩ := d
  simp only at *
  have hsb : -s * b * g ≠ 0 := Int.mul_ne_zero (Int.mul_ne_zero (by omega) (by omega)) hg
  rw [lowP_eq (c := -x) (d := y) hsb (by omega) ?_]
  · exact lowP_self e3 (by rw [gc_neg]; exact e4)
  · rcases hs with rfl | rfl
    · grind
    · grind
theorem x_times {t b g : Int} (hb : b ≠ 0) (hg : g ≠ 0) : lowP ((lowP t g).1 * (lowP g b).1) ((lowP t g).2 * (lowP g b).2) = lowP t b := by
  obtain ⟨_, _, _, _, p1, _⟩ := lowP_ex t g hg
  obtain ⟨_, _, _, _, p2, _⟩ := lowP_ex g b hb
  have c1 := lowP_cross (a := t) (b := g) hg
  have c2 := lowP_cross (a := g) (b := b) hb
  exact lowP_eq (Int.mul_ne_zero (by omega) (by omega)) hb (by grind)
theorem low11 : lowP 1 1 = (1, 1) := by decide
theorem x_one {t g : Int} (hg : g ≠ 0) : lowP ((lowP t g).1 * (lowP (g - t) g).2 + (lowP (g - t) g).1 * (lowP t g).2) ((lowP t g).2 * (lowP (g - t) g).2) = (1, 1) := by
  obtain ⟨_, _, _, _, p1, _⟩ := lowP_ex t g hg
  obtain ⟨_, _, _, _, p2, _⟩ := lowP_ex (g - t) g hg
  have c1 := lowP_cross (a := t) (b := g) hg
  have c2 := lowP_cross (a := g - t) (b := g) hg
  rw [← low11]
  refine lowP_eq (Int.mul_ne_zero (by omega) (by omega)) (by decide) ?_
  refine Int.eq_of_mul_eq_mul_left (a := g) hg ?_
  grind
theorem x_over {t b g : Int} (hb : b ≠ 0) (hg : g ≠ 0) : lowP ((lowP t g).1 * (lowP b g).2) ((lowP t g).2 * (lowP b g).1) = lowP t b := by
  obtain ⟨_, _, _, _, p1, _⟩ := lowP_ex t g hg
  obtain ⟨_, _, _, _, p2, _⟩ := lowP_ex b g hg
  have c1 := lowP_cross (a := t) (b := g) hg
  have c2 := lowP_cross (a := b) (b := g) hg
  have h1 : (lowP b g).1 ≠ 0 := fun z => by
    rw [z, Int.zero_mul] at c2
    exact Int.mul_ne_zero hb (by omega) c2.symm
  refine lowP_eq (Int.mul_ne_zero (by omega) h1) hb ?_
  refine Int.eq_of_mul_eq_mul_left (a := g) hg ?_
  grind
theorem x_plus {t b g : Int} (hb : b ≠ 0) (hg : g ≠ 0) : lowP ((lowP t g).1 * (lowP g b).2 + (lowP g b).1 * (lowP t g).2) ((lowP t g).2 * (lowP g b).2) = lowP (t * b + g * g) (g * b) := by
  obtain ⟨_, _, _, _, p1, _⟩ := lowP_ex t g hg
  obtain ⟨_, _, _, _, p2, _⟩ := lowP_ex g b hb
  have c1 := lowP_cross (a := t) (b := g) hg
  have c2 := lowP_cross (a := g) (b := b) hb
  refine lowP_eq (Int.mul_ne_zero (by omega) (by omega)) (Int.mul_ne_zero hg hb) ?_
  grind
theorem gc_scale {x y g : Int} (hg : 0 < g) (h : gc x y = 1) : gc (x * g) (y * g) = g := by
  have := gc_mul g x y
  rw [Int.mul_comm g x, Int.mul_comm g y, h] at this
  rw [this]; omega
theorem ix3' {d x y z : Int} (h : 0 ≤ d) (h' : d < 3) : ∃ m : Int, atI [T.int x, T.int y, T.int z] d = some (.int m) ∧ (m = x ∨ m = y ∨ m = z) := by
  have : d = 0 ∨ d = 1 ∨ d = 2 := by omega
  rcases this with rfl | rfl | rfl
  · exact ⟨x, rfl, .inl rfl⟩
  · exact ⟨y, rfl, .inr (.inl rfl)⟩
  · exact ⟨z, rfl, .inr (.inr rfl)⟩
end PH
set_option Elab.async false
set_option linter.all false
set_option maxRecDepth 8000
namespace PH
open PySem PySem.Spec PyProof.Rows L2 TL SX
theorem m_dvGreat {n : Nat} {ts : List T} (hb : BoxOk n ts) (hn : n ≤ 60000) (nm : Bool) : ∃ (ts' : List T) (g : Int), dvGreat [.box ts, .val (.bl nm), .no, .no, .no, .no, .no, .no, .no, .no, .no, .no, .no, .no, .no, .no, .no, .no] = .ok (.int g, [.box ts', .val (.bl nm), .no, .no, .no, .no, .no, .no, .no, .no, .no, .no, .no, .no, .no, .no, .no, .no]) ∧ BoxOk (n + 4) ts' ∧ 2 ≤ g ∧ g < 10000000000 := by
  obtain ⟨d1, ts1, e1, p1, p1', hb1⟩ := m__law_take hb (by omega) (show (0 : Int) < 9000000000 by decide) (by decide)
  obtain ⟨d2, ts2, e2, p2, p2', hb2⟩ := m__law_take hb1 (by omega) (show (0 : Int) < 90000 by decide) (by decide)
  obtain ⟨d3, ts3, e3, p3, p3', hb3⟩ := m__law_take hb2 (by omega) (show (0 : Int) < 90000 by decide) (by decide)
  obtain ⟨d4, ts4, e4, p4, p4', hb4⟩ := m__law_take hb3 (by omega) (show (0 : Int) < 3 by decide) (by decide)
  have m9 : tMul (.int 9) (.int 1000000000) = some (.int 9000000000) := by rfl
  have mm := tMul_i (2 + d2) (2 + d3) ((sm_of (k := 64) (by omega) (by omega)).le (by decide)) ((sm_of (k := 64) (by omega) (by omega)).le (by decide))
  have h1 : 2 ≤ (2 + d2) * (2 + d3) := by
    have := Int.mul_le_mul (show 2 ≤ 2 + d2 by omega) (show 1 ≤ 2 + d3 by omega) (by decide) (by omega)
    omega
  have h2 : (2 + d2) * (2 + d3) ≤ 90001 * 90001 := Int.mul_le_mul (by omega) (by omega) (by omega) (by decide)
  obtain ⟨g, eg, hg⟩ := ix3' (x := 2 + d1) (y := (2 + d2) * (2 + d3)) (z := 1000000007) p4 p4'
  refine ⟨ts4, g, ?_, hb4, by omega, by omega⟩
  simp only [dvGreat]
  simp [pow_9, m9, e1, e2, e3, e4, mm, eg]
theorem dv_row {ts : List T} {nm : Bool} {x_g x_t x_b x_s x_du x_wi x_te x_x9 x_on x_ot x_le x_ro x_w14 x_w15 x_w16 x_w17 : Sl} {w : Str} {x y : T} {p q : Int} (h14 : nb x_w14) (h15 : nb x_w15) (h16 : nb x_w16) (h17 : nb x_w17)
    (e : ∀ nm, g__law_asked [.val (.str w), .val x, .val y, .val (.bl nm)] = .ok (.v (fr p q), [.val (.str w), .val x, .val y, .val (.bl nm)])) :
    (gTu 4 (gCons (gN 14) (gCons (gN 15) (gCons (gN 16) (gCons (gN 17) gNil))))) (.tup [.str w, x, y, fr p q]) [.box ts, .val (.bl nm), x_g, x_t, x_b, x_s, x_du, x_wi, x_te, x_x9, x_on, x_ot, x_le, x_ro, x_w14, x_w15, x_w16, x_w17] = some [.box ts, .val (.bl nm), x_g, x_t, x_b, x_s, x_du, x_wi, x_te, x_x9, x_on, x_ot, x_le, x_ro, .val (.str w), .val x, .val y, .val (fr p q)] ∧ dvRow [.box ts, .val (.bl nm), x_g, x_t, x_b, x_s, x_du, x_wi, x_te, x_x9, x_on, x_ot, x_le, x_ro, .val (.str w), .val x, .val y, .val (fr p q)] = .ok (.nx, [.box ts, .val (.bl !nm), x_g, x_t, x_b, x_s, x_du, x_wi, x_te, x_x9, x_on, x_ot, x_le, x_ro, .val (.str w), .val x, .val y, .val (fr p q)]) := by
  unfold nb at *
  refine ⟨by simp [h14, h15, h16, h17], ?_⟩
  have es := same_f p q
  unfold dvRow
  rw [seq_nx (ev' := [.box ts, .val (.bl nm), x_g, x_t, x_b, x_s, x_du, x_wi, x_te, x_x9, x_on, x_ot, x_le, x_ro, .val (.str w), .val x, .val y, .val (fr p q)]) (by simp [e nm, es])]
  simp
theorem m__law_divisors_right {n : Nat} {ts : List T} (hb : BoxOk n ts) (hn : n ≤ 60000) (nm : Bool) : ∃ ts', g__law_divisors_right [.box ts, .val (.bl nm)] = .ok (.v (.bl true), [.box ts', .val (.bl nm)]) ∧ BoxOk (n + 7) ts' := by
  obtain ⟨ts1, g, eg, hb1, g2, g10⟩ := m_dvGreat hb hn nm
  obtain ⟨k1, ts2, e2, k10, k11, hb2⟩ := m__law_take hb1 (by omega) (show (0 : Int) < 1000000000 by decide) (by decide)
  obtain ⟨k2, ts3, e3, k20, k21, hb3⟩ := m__law_take hb2 (by omega) (show (0 : Int) < 1000000000 by decide) (by decide)
  obtain ⟨k3, ts4, e4, k30, k31, hb4⟩ := m__law_take hb3 (by omega) (show (0 : Int) < 2 by decide) (by decide)
  refine ⟨ts4, ?_, hb4.mono (by omega)⟩
  have m2 := tMul_i 2 k3 ((show Sm 10 2 by decide).le (by decide)) ((sm_of (k := 64) (by omega) (by omega)).le (by decide))
  obtain ⟨s, hs⟩ : ∃ s, s = 1 - 2 * k3 := ⟨_, rfl⟩
  obtain ⟨t, ht⟩ : ∃ t, t = 1 + k1 := ⟨_, rfl⟩
  obtain ⟨b, hbb⟩ : ∃ b, b = 1 + k2 := ⟨_, rfl⟩
  have hs1 : s = 1 ∨ s = -1 := by omega
  have b0 : 0 < b := by omega
  have t0 : 0 < t := by omega
  have sg : Sm 34 g := sm_of (by omega) (by omega)
  have st : Sm 31 t := sm_of (by omega) (by omega)
  have sb : Sm 31 b := sm_of (by omega) (by omega)
  have ss : Sm 1 s := sm_of (by omega) (by omega)
  have A1 : parS [3, 4, 5] (consMv (PH.e2 tAdd (kT (.int 1)) (asT (callRB g__law_take 0 (consA (PH.e2 tPow (kT (.int 10)) (kT (.int 9))) nilA)))) (consMv (PH.e2 tAdd (kT (.int 1)) (asT (callRB g__law_take 0 (consA (PH.e2 tPow (kT (.int 10)) (kT (.int 9))) nilA)))) (consMv (PH.e2 tSub (kT (.int 1)) (PH.e2 tMul (kT (.int 2)) (asT (callRB g__law_take 0 (consA (kT (.int 2)) nilA))))) nilM))) [.box ts1, .val (.bl nm), .val (.int g), .no, .no, .no, .no, .no, .no, .no, .no, .no, .no, .no, .no, .no, .no, .no] = .ok (.nx, [.box ts4, .val (.bl nm), .val (.int g), .val (.int t), .val (.int b), .val (.int s), .no, .no, .no, .no, .no, .no, .no, .no, .no, .no, .no, .no]) := by
    rw [hs, ht, hbb]
    simp [pow_9, e2, e3, e4, m2]
  clear hs ht hbb m2 e2 e3 e4
  have ts' := tMul_i s t (ss.le (by decide)) (st.le (by decide))
  have stt := ss.mul st
  have h1 := lowP_cross (a := s * t) (b := b) (by omega)
  have fd := lowP_fr (a := s * t) (b := b) (by omega) (stt.le (by decide)) (sb.le (by decide))
  have sd := lowP_sm (a := s * t) (b := b) (k := 32) (by omega) (stt.le (by decide)) (sb.le (by decide))
  have ld := m__law_low (s * t) b (by omega) (sb.le (by decide))
  have x1 := x_low1 (t := s * t) (b := b) (g := g) (by omega) (by omega)
  have x2 := x_low2 (t := t) (b := b) (g := g) (s := s) b0 (by omega) hs1
  obtain ⟨d1, d2, hd⟩ : ∃ d1 d2, lowP (s * t) b = (d1, d2) := ⟨_, _, rfl⟩
  rw [hd] at h1 fd sd ld x1 x2
  simp only at h1 fd sd x2
  -- the divisors
  have mg1 := tMul_i (s * t) g (stt.le (by decide)) (sg.le (by decide))
  have mg2 := tMul_i b g (sb.le (by decide)) (sg.le (by decide))
  have al1 := a_low (s * t * g) (b * g) (Int.mul_ne_zero (by omega) (by omega)) ((sb.mul sg).le (by decide)) nm
  rw [x1] at al1
  have mg3 := tMul_i t g (st.le (by decide)) (sg.le (by decide))
  have mg4 := tMul_i (-s) b (ss.neg.le (by decide)) (sb.le (by decide))
  have mg5 := tMul_i (-s * b) g ((ss.neg.mul sb).le (by decide)) (sg.le (by decide))
  have al2 := a_low (t * g) (-s * b * g) (Int.mul_ne_zero (Int.mul_ne_zero (by omega) (by omega)) (by omega)) (((ss.neg.mul sb).mul sg).le (by decide)) (!nm)
  rw [x2] at al2
  have mw1 := tMul_i d1 g (sd.1.le (by decide)) (sg.le (by decide))
  have mw2 := tMul_i d2 g (sd.2.le (by decide)) (sg.le (by decide))
  have sw1 : Sm 100 (d1 * g) := (sd.1.mul sg).le (by decide)
  have sw2 : Sm 100 (d2 * g) := (sd.2.mul sg).le (by decide)
  have gw := gc_scale (x := d1) (y := d2) (g := g) (by omega) fd.low
  have w2 : 2 ≤ d2 * g := by
    have := Int.mul_le_mul (show 1 ≤ d2 from fd.pos) g2 (by decide) (by have := fd.pos; omega)
    omega
  have iw := m_is_fraction (d1 * g) (d2 * g)
  rw [gw] at iw
  have i0 : (decide (0 < d2 * g) && decide (g = 1)) = false := by
    have : ¬ g = 1 := by omega
    simp [this]
  rw [i0] at iw
  have id := m_is_fraction d1 d2
  simp only [fd.pos, fd.low, decide_true, Bool.and_self] at id
  have sfd := same_f d1 d2
  have sfn := same_f (-d1) d2
  have sb2 : g__law_same [.val (.lst [.bl false, .bl true]), .val (.lst [.bl false, .bl true])] = .ok (.v (.bl true), [.val (.lst [.bl false, .bl true]), .val (.lst [.bl false, .bl true])]) := m_same 5 _ rfl
  obtain ⟨tx1, tx2⟩ := txt_sl sw1 sw2
  have rw' := m_read_wide sw1 sw2 (by omega) (by rw [gw]; omega)
  have gh := gh_same (txt2 (d1 * g) (d2 * g)) (by have := intL_len sw1; have := intL_len sw2; simp [txt2]; omega)
  -- the sums
  have sgt : Sm 36 (g - t) := (sg.le (by decide) : Sm 35 g).sub (st.le (by decide))
  have lo := m__law_low t g (by omega) (sg.le (by decide))
  have lp := m__law_low g b (by omega) (sb.le (by decide))
  have lle := m__law_low (g - t) g (by omega) (sg.le (by decide))
  have lc := m__law_low t b (by omega) (sb.le (by decide))
  have lq := m__law_low b g (by omega) (sg.le (by decide))
  have mtb := tMul_i t b (st.le (by decide)) (sb.le (by decide))
  have mgg := tMul_i g g (sg.le (by decide)) (sg.le (by decide))
  have mgb := tMul_i g b (sg.le (by decide)) (sb.le (by decide))
  have gb0 : g * b ≠ 0 := Int.mul_ne_zero (by omega) (by omega)
  have lf := m__law_low (t * b + g * g) (g * b) gb0 ((sg.mul sb).le (by decide))
  have fo := lowP_fr (a := t) (b := g) (by omega) (st.le (by decide)) (sg.le (by decide))
  have fp := lowP_fr (a := g) (b := b) (by omega) (sg.le (by decide)) (sb.le (by decide))
  have fl := lowP_fr (a := g - t) (b := g) (by omega) (sgt.le (by decide)) (sg.le (by decide))
  have fq := lowP_fr (a := b) (b := g) (by omega) (sb.le (by decide)) (sg.le (by decide))
  have hq0 : 0 < (lowP b g).1 := by
    have c2 := lowP_cross (a := b) (b := g) (by omega)
    have h : 0 < (lowP b g).1 * g := by rw [c2]; exact Int.mul_pos b0 fq.pos
    rcases Int.lt_or_le 0 (lowP b g).1 with z | z
    · exact z
    · have := Int.mul_nonpos_of_nonpos_of_nonneg z (show 0 ≤ g by omega)
      omega
  have y1 := x_times (t := t) (b := b) (g := g) (by omega) (by omega)
  have y2 := x_one (t := t) (g := g) (by omega)
  have y4 := x_over (t := t) (b := b) (g := g) (by omega) (by omega)
  have y5 := x_plus (t := t) (b := b) (g := g) (by omega) (by omega)
  obtain ⟨o1, o2, ho⟩ : ∃ o1 o2, lowP t g = (o1, o2) := ⟨_, _, rfl⟩
  obtain ⟨p1, p2, hp⟩ : ∃ p1 p2, lowP g b = (p1, p2) := ⟨_, _, rfl⟩
  obtain ⟨l1, l2, hl⟩ : ∃ l1 l2, lowP (g - t) g = (l1, l2) := ⟨_, _, rfl⟩
  obtain ⟨c1, c2, hc⟩ : ∃ c1 c2, lowP t b = (c1, c2) := ⟨_, _, rfl⟩
  obtain ⟨q1, q2, hq⟩ : ∃ q1 q2, lowP b g = (q1, q2) := ⟨_, _, rfl⟩
  obtain ⟨f1, f2, hf⟩ : ∃ f1 f2, lowP (t * b + g * g) (g * b) = (f1, f2) := ⟨_, _, rfl⟩
  simp only [ho, hp, hl, hc, hq, hf] at lo lp lle lc lq lf fo fp fl fq hq0 y1 y2 y4 y5
  have r1 := fun nm => a_times fo fp nm
  have r2 := fun nm => a_plus fo fl nm
  have r3 := fun nm => a_minus fo fl.neg nm
  have r4 := fun nm => a_over fo fq hq0 nm
  have r5 := fun nm => a_plus fo fp nm
  have y3 : o1 * l2 - -l1 * o2 = o1 * l2 + l1 * o2 := by grind
  rw [y3] at r3
  rw [y1] at r1
  rw [y2] at r2 r3
  rw [y4] at r4
  rw [y5] at r5
  obtain ⟨ev', eL, nm2, z14, z15, z16, z17, rfl⟩ : ∃ ev', forL (gTu 4 (gCons (gN 14) (gCons (gN 15) (gCons (gN 16) (gCons (gN 17) gNil))))) dvRow [.tup [.str "times", fr o1 o2, fr p1 p2, fr c1 c2], .tup [.str "plus", fr o1 o2, fr l1 l2, fr 1 1], .tup [.str "minus", fr o1 o2, fr (-l1) l2, fr 1 1], .tup [.str "over", fr o1 o2, fr q1 q2, fr c1 c2], .tup [.str "plus", fr o1 o2, fr p1 p2, fr f1 f2]] [.box ts4, .val (.bl nm), .val (.int g), .val (.int t), .val (.int b), .val (.int s), .val (fr d1 d2), .val (fr (d1 * g) (d2 * g)), .val (.str (S (txt2 (d1 * g) (d2 * g)))), .no, .val (fr o1 o2), .val (fr p1 p2), .val (fr l1 l2), .val (.lst [.tup [.str "times", fr o1 o2, fr p1 p2, fr c1 c2], .tup [.str "plus", fr o1 o2, fr l1 l2, fr 1 1], .tup [.str "minus", fr o1 o2, fr (-l1) l2, fr 1 1], .tup [.str "over", fr o1 o2, fr q1 q2, fr c1 c2], .tup [.str "plus", fr o1 o2, fr p1 p2, fr f1 f2]]), .no, .no, .no, .no] = .ok (.nx, ev') ∧ ∃ nm2 z14 z15 z16 z17, ev' = [.box ts4, .val (.bl nm2), .val (.int g), .val (.int t), .val (.int b), .val (.int s), .val (fr d1 d2), .val (fr (d1 * g) (d2 * g)), .val (.str (S (txt2 (d1 * g) (d2 * g)))), .no, .val (fr o1 o2), .val (fr p1 p2), .val (fr l1 l2), .val (.lst [.tup [.str "times", fr o1 o2, fr p1 p2, fr c1 c2], .tup [.str "plus", fr o1 o2, fr l1 l2, fr 1 1], .tup [.str "minus", fr o1 o2, fr (-l1) l2, fr 1 1], .tup [.str "over", fr o1 o2, fr q1 q2, fr c1 c2], .tup [.str "plus", fr o1 o2, fr p1 p2, fr f1 f2]]), z14, z15, z16, z17] := by
    obtain ⟨ev', eL, nm2, z14, z15, z16, z17, rfl, _⟩ := forL_inv (g := gTu 4 (gCons (gN 14) (gCons (gN 15) (gCons (gN 16) (gCons (gN 17) gNil))))) (b := dvRow) (fun ev => ∃ nm' y14 y15 y16 y17, ev = [.box ts4, .val (.bl nm'), .val (.int g), .val (.int t), .val (.int b), .val (.int s), .val (fr d1 d2), .val (fr (d1 * g) (d2 * g)), .val (.str (S (txt2 (d1 * g) (d2 * g)))), .no, .val (fr o1 o2), .val (fr p1 p2), .val (fr l1 l2), .val (.lst [.tup [.str "times", fr o1 o2, fr p1 p2, fr c1 c2], .tup [.str "plus", fr o1 o2, fr l1 l2, fr 1 1], .tup [.str "minus", fr o1 o2, fr (-l1) l2, fr 1 1], .tup [.str "over", fr o1 o2, fr q1 q2, fr c1 c2], .tup [.str "plus", fr o1 o2, fr p1 p2, fr f1 f2]]), y14, y15, y16, y17] ∧ nb y14 ∧ nb y15 ∧ nb y16 ∧ nb y17) [.tup [.str "times", fr o1 o2, fr p1 p2, fr c1 c2], .tup [.str "plus", fr o1 o2, fr l1 l2, fr 1 1], .tup [.str "minus", fr o1 o2, fr (-l1) l2, fr 1 1], .tup [.str "over", fr o1 o2, fr q1 q2, fr c1 c2], .tup [.str "plus", fr o1 o2, fr p1 p2, fr f1 f2]] [.box ts4, .val (.bl nm), .val (.int g), .val (.int t), .val (.int b), .val (.int s), .val (fr d1 d2), .val (fr (d1 * g) (d2 * g)), .val (.str (S (txt2 (d1 * g) (d2 * g)))), .no, .val (fr o1 o2), .val (fr p1 p2), .val (fr l1 l2), .val (.lst [.tup [.str "times", fr o1 o2, fr p1 p2, fr c1 c2], .tup [.str "plus", fr o1 o2, fr l1 l2, fr 1 1], .tup [.str "minus", fr o1 o2, fr (-l1) l2, fr 1 1], .tup [.str "over", fr o1 o2, fr q1 q2, fr c1 c2], .tup [.str "plus", fr o1 o2, fr p1 p2, fr f1 f2]]), .no, .no, .no, .no]
      (fun w hw ev ⟨nm', y14, y15, y16, y17, hev, h14, h15, h16, h17⟩ => by
        subst hev
        simp only [List.mem_cons, List.not_mem_nil, or_false] at hw
        rcases hw with rfl | rfl | rfl | rfl | rfl
        · obtain ⟨g1, g2⟩ := dv_row (nm := nm') h14 h15 h16 h17 r1
          exact ⟨_, _, g1, g2, _, _, _, _, _, rfl, nb_val _, nb_val _, nb_val _, nb_val _⟩
        · obtain ⟨g1, g2⟩ := dv_row (nm := nm') h14 h15 h16 h17 r2
          exact ⟨_, _, g1, g2, _, _, _, _, _, rfl, nb_val _, nb_val _, nb_val _, nb_val _⟩
        · obtain ⟨g1, g2⟩ := dv_row (nm := nm') h14 h15 h16 h17 r3
          exact ⟨_, _, g1, g2, _, _, _, _, _, rfl, nb_val _, nb_val _, nb_val _, nb_val _⟩
        · obtain ⟨g1, g2⟩ := dv_row (nm := nm') h14 h15 h16 h17 r4
          exact ⟨_, _, g1, g2, _, _, _, _, _, rfl, nb_val _, nb_val _, nb_val _, nb_val _⟩
        · obtain ⟨g1, g2⟩ := dv_row (nm := nm') h14 h15 h16 h17 r5
          exact ⟨_, _, g1, g2, _, _, _, _, _, rfl, nb_val _, nb_val _, nb_val _, nb_val _⟩)
      ⟨nm, _, _, _, _, rfl, nb_no, nb_no, nb_no, nb_no⟩
    exact ⟨_, eL, _, _, _, _, _, rfl⟩
  have run : t__law_divisors_right [.box ts, .val (.bl nm), .no, .no, .no, .no, .no, .no, .no, .no, .no, .no, .no, .no, .no, .no, .no, .no] = .ok (.ret (.bl true), [.box ts4, .val (.bl nm2), .val (.int g), .val (.int t), .val (.int b), .val (.int s), .val (fr d1 d2), .val (fr (d1 * g) (d2 * g)), .val (.str (S (txt2 (d1 * g) (d2 * g)))), .no, .val (fr o1 o2), .val (fr p1 p2), .val (fr l1 l2), .val (.lst [.tup [.str "times", fr o1 o2, fr p1 p2, fr c1 c2], .tup [.str "plus", fr o1 o2, fr l1 l2, fr 1 1], .tup [.str "minus", fr o1 o2, fr (-l1) l2, fr 1 1], .tup [.str "over", fr o1 o2, fr q1 q2, fr c1 c2], .tup [.str "plus", fr o1 o2, fr p1 p2, fr f1 f2]]), z14, z15, z16, z17]) := by
    rw [dv_eq]
    rw [seq_nx (ev' := [.box ts1, .val (.bl nm), .val (.int g), .no, .no, .no, .no, .no, .no, .no, .no, .no, .no, .no, .no, .no, .no, .no]) (by rw [sx_setS, eg]; simp)]
    rw [seq_nx A1]
    rw [seq_nx (ev' := [.box ts4, .val (.bl nm), .val (.int g), .val (.int t), .val (.int b), .val (.int s), .val (fr d1 d2), .no, .no, .no, .no, .no, .no, .no, .no, .no, .no, .no]) (by simp [ts', ld, frP])]
    rw [seq_nx (ev' := [.box ts4, .val (.bl nm), .val (.int g), .val (.int t), .val (.int b), .val (.int s), .val (fr d1 d2), .no, .no, .no, .no, .no, .no, .no, .no, .no, .no, .no]) (by simp [ts', mg1, mg2, al1, frP, sfd])]
    rw [seq_nx (ev' := [.box ts4, .val (.bl nm), .val (.int g), .val (.int t), .val (.int b), .val (.int s), .val (fr d1 d2), .no, .no, .no, .no, .no, .no, .no, .no, .no, .no, .no]) (by
      simp only [frP, fr] at al2 sfn
      simp only [fr]
      simp [mg3, mg4, mg5, al2, sfn, -Int.neg_mul])]
    rw [seq_nx (ev' := [.box ts4, .val (.bl nm), .val (.int g), .val (.int t), .val (.int b), .val (.int s), .val (fr d1 d2), .val (fr (d1 * g) (d2 * g)), .no, .no, .no, .no, .no, .no, .no, .no, .no, .no]) (by simp only [fr]; simp [mw1, mw2])]
    rw [seq_nx (ev' := [.box ts4, .val (.bl nm), .val (.int g), .val (.int t), .val (.int b), .val (.int s), .val (fr d1 d2), .val (fr (d1 * g) (d2 * g)), .no, .no, .no, .no, .no, .no, .no, .no, .no, .no]) (by simp [iw, id, sb2])]
    rw [seq_nx (ev' := [.box ts4, .val (.bl nm), .val (.int g), .val (.int t), .val (.int b), .val (.int s), .val (fr d1 d2), .val (fr (d1 * g) (d2 * g)), .val (.str (S (txt2 (d1 * g) (d2 * g)))), .no, .no, .no, .no, .no, .no, .no, .no, .no]) (by simp [tStr_i sw1, tStr_i sw2, tx1, tx2])]
    rw [seq_nx (ev' := [.box ts4, .val (.bl nm), .val (.int g), .val (.int t), .val (.int b), .val (.int s), .val (fr d1 d2), .val (fr (d1 * g) (d2 * g)), .val (.str (S (txt2 (d1 * g) (d2 * g)))), .no, .no, .no, .no, .no, .no, .no, .no, .no]) (by
      unfold tryGv
      simp [rw', gh])]
    rw [seq_nx (ev' := [.box ts4, .val (.bl nm), .val (.int g), .val (.int t), .val (.int b), .val (.int s), .val (fr d1 d2), .val (fr (d1 * g) (d2 * g)), .val (.str (S (txt2 (d1 * g) (d2 * g)))), .no, .val (fr o1 o2), .val (fr p1 p2), .val (fr l1 l2), .no, .no, .no, .no, .no]) (by simp [lo, lp, lle, frP])]
    rw [seq_nx (ev' := [.box ts4, .val (.bl nm), .val (.int g), .val (.int t), .val (.int b), .val (.int s), .val (fr d1 d2), .val (fr (d1 * g) (d2 * g)), .val (.str (S (txt2 (d1 * g) (d2 * g)))), .no, .val (fr o1 o2), .val (fr p1 p2), .val (fr l1 l2), .own [.tup [.str "times", fr o1 o2, fr p1 p2, fr c1 c2], .tup [.str "plus", fr o1 o2, fr l1 l2, fr 1 1], .tup [.str "minus", fr o1 o2, fr (-l1) l2, fr 1 1], .tup [.str "over", fr o1 o2, fr q1 q2, fr c1 c2]], .no, .no, .no, .no]) (by simp only [frP] at lc lq; simp only [fr] at lc lq ⊢; simp [lc, lq])]
    rw [seq_nx (ev' := [.box ts4, .val (.bl nm), .val (.int g), .val (.int t), .val (.int b), .val (.int s), .val (fr d1 d2), .val (fr (d1 * g) (d2 * g)), .val (.str (S (txt2 (d1 * g) (d2 * g)))), .no, .val (fr o1 o2), .val (fr p1 p2), .val (fr l1 l2), .own [.tup [.str "times", fr o1 o2, fr p1 p2, fr c1 c2], .tup [.str "plus", fr o1 o2, fr l1 l2, fr 1 1], .tup [.str "minus", fr o1 o2, fr (-l1) l2, fr 1 1], .tup [.str "over", fr o1 o2, fr q1 q2, fr c1 c2], .tup [.str "plus", fr o1 o2, fr p1 p2, fr f1 f2]], .no, .no, .no, .no]) (by simp [mtb, mgg, mgb, lf, frP])]
    rw [seq_nx (ev' := [.box ts4, .val (.bl nm2), .val (.int g), .val (.int t), .val (.int b), .val (.int s), .val (fr d1 d2), .val (fr (d1 * g) (d2 * g)), .val (.str (S (txt2 (d1 * g) (d2 * g)))), .no, .val (fr o1 o2), .val (fr p1 p2), .val (fr l1 l2), .val (.lst [.tup [.str "times", fr o1 o2, fr p1 p2, fr c1 c2], .tup [.str "plus", fr o1 o2, fr l1 l2, fr 1 1], .tup [.str "minus", fr o1 o2, fr (-l1) l2, fr 1 1], .tup [.str "over", fr o1 o2, fr q1 q2, fr c1 c2], .tup [.str "plus", fr o1 o2, fr p1 p2, fr f1 f2]]), z14, z15, z16, z17]) (by
      rw [sx_forS, sx_seqI]
      simp only [sx_rd, List.getElem?_cons_succ, List.getElem?_cons_zero, sb_ok, List.set_cons_succ, List.set_cons_zero, walk_l, R.ofO_some]
      exact eL)]
    simp
  simp only [g__law_divisors_right, runFn, parE, runB]
  simp [run, outE]
end PH
set_option Elab.async false
set_option linter.all false
set_option maxRecDepth 8000
namespace PH
open PySem PySem.Spec PyProof.Rows L2 TL SX
def lawIn : XRS := (seqS (setS 5 (asT (callRB g__law_some 2 nilA)))
    (seqS (ifS (orB (notB (b1 tTru (asT (callR g__law_pairs_right (consA (rd 5) (consA (rd 3) nilA)))))) (orB (notB (b1 tTru (asT (callR g__law_each_right (consA (rd 5) (consA (notV (rd 3)) nilA)))))) (notB (b1 tTru (asT (callRB g__law_divisors_right 2 (consA (rd 3) nilA))))))) (retS (kT (.bl false))) nextS)
    (setS 3 (notV (rd 3)))))
def lawOut : XRS := (seqS (setO 2 (asO (callR g__law_box (consA (asT (callR g__law_cell (consA (rd 0) (consA (rd 1) nilA)))) nilA))))
    (seqS (setS 3 (e2 tEq (asT (callRB g__law_take 2 (consA (kT (.int 2)) nilA))) (kT (.int 0))))
    (forS (rngI range1 (consA (kT (.int 3)) nilA)) (gN 4) lawIn)))
theorem law_eq : t_law = (seqS (forS (rngI range1 (consA (callA tMax2 (consA (kT (.int 2)) (consA (callA tMin2 (consA (kT (.int 4)) (consA (slLen 0) nilA))) nilA))) nilA)) (gN 1) lawOut)
    (retS (kT (.bl true)))) := rfl
theorem law_in {sc kk : T} {ts : List T} {n : Nat} (hb : BoxOk n ts) (hn : n ≤ 20000) (nm : Bool) {y4 y5 : Sl} (h4 : nb y4) (h5 : nb y5) (t : T) : ∃ ev1 ts' y5', gN 4 t [.val sc, .val kk, .own ts, .val (.bl nm), y4, y5] = some ev1 ∧ lawIn ev1 = .ok (.nx, [.val sc, .val kk, .own ts', .val (.bl !nm), .val t, y5']) ∧ BoxOk (n + 312) ts' ∧ nb y5' := by
  unfold nb at h4 h5
  obtain ⟨ts1, a, b, c, d, fs, e1, hb1, hB, hf, hl⟩ := m__law_some hb (by omega)
  obtain ⟨ts2, e4, hb2⟩ := m__law_divisors_right hb1 (by omega) nm
  have e2 := m__law_pairs_right hB hf nm
  have hall : FrAll ((a, b) :: (c, d) :: (-a, b) :: (-c, d) :: fs) := ⟨fun p hp => by
    simp only [List.mem_cons] at hp
    rcases hp with rfl | rfl | rfl | rfl | hp
    · exact hB.fr1
    · exact hB.fr2
    · exact hB.fr1.neg
    · exact hB.fr2.neg
    · exact hf p hp, by simp; omega⟩
  have e3 := m__law_each_right hall (!nm)
  generalize T.lst (mF ((a, b) :: (c, d) :: (-a, b) :: (-c, d) :: fs)) = V at *
  refine ⟨[.val sc, .val kk, .own ts, .val (.bl nm), .val t, y5], ts2, .val V, by simp [h4], ?_, hb2.mono (by omega), nb_val _⟩
  unfold lawIn
  rw [seq_nx (ev' := [.val sc, .val kk, .own ts1, .val (.bl nm), .val t, .val V]) (by simp [e1, h5])]
  rw [seq_nx (ev' := [.val sc, .val kk, .own ts2, .val (.bl nm), .val t, .val V]) (by simp [e2, e3, e4])]
  simp
theorem law_out {ns : List Int} {y1 y2 y3 y4 y5 : Sl} (h1 : nb y1) (h2 : nb y2) (h3 : nb y3) (h4 : nb y4) (h5 : nb y5) (k : Nat) (hk : k < 1000) :
    ∃ ev1 z2 z3 z4 z5, gN 1 (.int (k : Int)) [.val (.ro ns), y1, y2, y3, y4, y5] = some ev1 ∧ lawOut ev1 = .ok (.nx, [.val (.ro ns), .val (.int (k : Int)), z2, z3, z4, z5]) ∧ nb z2 ∧ nb z3 ∧ nb z4 ∧ nb z5 := by
  have h1' : isBox (some y1) = false := h1
  have h2' : isBox (some y2) = false := h2
  have h3' : isBox (some y3) = false := h3
  obtain ⟨c, ec⟩ := m__law_cell ns k hk
  obtain ⟨ts0, eb, hb0⟩ := m__law_box c
  obtain ⟨d, ts1, et, _, _, hb1⟩ := m__law_take hb0 (by omega) (show (0 : Int) < 2 by decide) (by decide)
  obtain ⟨nm, hnm⟩ : ∃ nm, nm = decide (d = 0) := ⟨_, rfl⟩
  obtain ⟨ev1, ts2, w5, g1, r1, hb2, n5⟩ := law_in (sc := .ro ns) (kk := .int (k : Int)) hb1 (by omega) nm h4 h5 (.int 0)
  obtain ⟨ev2, ts3, v5, g2, r2, hb3, m5⟩ := law_in (sc := .ro ns) (kk := .int (k : Int)) hb2 (by omega) (!nm) (y4 := .val (.int 0)) (nb_val _) n5 (.int 1)
  obtain ⟨ev3, ts4, u5, g3, r3, hb4, k5⟩ := law_in (sc := .ro ns) (kk := .int (k : Int)) hb3 (by omega) (!!nm) (y4 := .val (.int 1)) (nb_val _) m5 (.int 2)
  refine ⟨[.val (.ro ns), .val (.int (k : Int)), y2, y3, y4, y5], .own ts4, .val (.bl !!!nm), .val (.int 2), u5, by simp [h1'], ?_, nb_own _, nb_val _, nb_val _, k5⟩
  have er : rngI range1 (consA (kT (.int 3)) nilA) [.val (.ro ns), .val (.int (k : Int)), .own ts1, .val (.bl nm), y4, y5] = .ok ([.int 0, .int 1, .int 2], [.val (.ro ns), .val (.int (k : Int)), .own ts1, .val (.bl nm), y4, y5]) :=
    rngI_ok (ts := [.int 3]) (by simp) (range_i 3 (by decide))
  unfold lawOut
  rw [seq_nx (ev' := [.val (.ro ns), .val (.int (k : Int)), .own ts0, y3, y4, y5]) (by simp [ec, eb, h2'])]
  rw [seq_nx (ev' := [.val (.ro ns), .val (.int (k : Int)), .own ts1, .val (.bl nm), y4, y5]) (by rw [hnm]; simp [et, h3'])]
  rw [sx_forS, er]
  simp only [sb_ok, forL, g1, r1, g2, r2, g3, r3]
theorem m_law (ns : List Int) : g_law [.val (.ro ns)] = .ok (.v (.bl true), [.val (.ro ns)]) := by
  obtain ⟨m, hm, hv⟩ : ∃ m : Nat, m ≤ 1000 ∧ (if (if (ns.length : Int) < 4 then (ns.length : Int) else 4) > 2 then (if (ns.length : Int) < 4 then (ns.length : Int) else 4) else 2) = (m : Int) := by
    by_cases h : (ns.length : Int) < 4
    · rw [if_pos h]
      by_cases h2 : (ns.length : Int) > 2
      · rw [if_pos h2]; exact ⟨ns.length, by omega, rfl⟩
      · rw [if_neg h2]; exact ⟨2, by omega, rfl⟩
    · rw [if_neg h]; exact ⟨4, by omega, by decide⟩
  have er : rngI range1 (consA (callA tMax2 (consA (kT (.int 2)) (consA (callA tMin2 (consA (kT (.int 4)) (consA (slLen 0) nilA))) nilA))) nilA) [.val (.ro ns), .no, .no, .no, .no, .no] = .ok ((List.range m).map fun (k : Nat) => T.int (k : Int), [.val (.ro ns), .no, .no, .no, .no, .no]) := by
    refine rngI_ok (ts := [.int (m : Int)]) ?_ (range_i m hm)
    rw [← hv]
    simp
  obtain ⟨ev', e, z1, z2, z3, z4, z5, rfl, _⟩ := forL_inv (g := gN 1) (b := lawOut) (fun ev => ∃ y1 y2 y3 y4 y5, ev = [.val (.ro ns), y1, y2, y3, y4, y5] ∧ nb y1 ∧ nb y2 ∧ nb y3 ∧ nb y4 ∧ nb y5) ((List.range m).map fun (k : Nat) => T.int (k : Int)) [.val (.ro ns), .no, .no, .no, .no, .no]
    (fun t ht ev ⟨y1, y2, y3, y4, y5, hev, h1, h2, h3, h4, h5⟩ => by
      subst hev
      obtain ⟨k, hk, rfl⟩ := List.mem_map.mp ht
      have hk := List.mem_range.mp hk
      obtain ⟨ev1, z2, z3, z4, z5, g1, g2, q2, q3, q4, q5⟩ := law_out (ns := ns) h1 h2 h3 h4 h5 k (by omega)
      exact ⟨ev1, _, g1, g2, _, _, _, _, _, rfl, nb_val _, q2, q3, q4, q5⟩) ⟨_, _, _, _, _, rfl, nb_no, nb_no, nb_no, nb_no, nb_no⟩
  have run : t_law [.val (.ro ns), .no, .no, .no, .no, .no] = .ok (.ret (.bl true), [.val (.ro ns), z1, z2, z3, z4, z5]) := by
    rw [law_eq]
    rw [seq_nx (ev' := [.val (.ro ns), z1, z2, z3, z4, z5]) (by
      rw [sx_forS, er]
      simp only [sb_ok]
      exact e)]
    simp
  simp only [g_law, runFn, parE, runB]
  simp [run, outE]
end PH
set_option Elab.async false
set_option linter.all false
set_option maxRecDepth 100000
namespace PH
open PySem PySem.Spec PyProof.Rows L2
theorem exm_self' {K : PySem.W.Frag} {c : Addr} (h1 : PySem.W.subIn K (.ref c) (.type "BaseException") = some true) (h2 : PySem.W.isClsIn K c = true) (h3 : PySem.W.typeIn K (.ref c) = some (.type "type")) (h4 : PySem.W.subIn K (.ref c) (.ref c) = some true) :
    PySem.W.exmOne K (.ref c) (.ref c) = some true := by
  have a1 : (PySem.W.subIn K (.ref c) (.type "BaseException") == some true) = true := by rw [h1] <;> rfl
  have a2 : ((PySem.W.clsIn K c).isSome && PySem.W.typeIn K (.ref c) == some (.type "type")) = true := by
    have h2' : (PySem.W.clsIn K c).isSome = true := h2
    rw [h2', h3] <;> rfl
  show (if (PySem.W.subIn K (.ref c) (.type "BaseException") == some true) = true then (if ((PySem.W.clsIn K c).isSome && PySem.W.typeIn K (.ref c) == some (.type "type")) = true then PySem.W.subIn K (.ref c) (.ref c) else none) else none) = some true
  rw [if_pos a1, if_pos a2]
  exact h4
theorem md_mk {K : PySem.W.Frag} {h : Heap} {mg : Str → Option Value} (X : K.In h) (G : h.Ns mainGlobals mg)
    {f0 : Addr} {od0 an0 : Option Addr} {sl0 : Array (Option Value)} {oc0 kV0 dc0 pm0 cd0 ct0 : Value}
    {f1 : Addr} {od1 an1 : Option Addr} {sl1 : Array (Option Value)} {oc1 kV1 dc1 pm1 cd1 ct1 : Value}
    {f2 : Addr} {od2 an2 : Option Addr} {sl2 : Array (Option Value)} {oc2 kV2 dc2 pm2 cd2 ct2 : Value}
    {f3 : Addr} {od3 an3 : Option Addr} {sl3 : Array (Option Value)} {oc3 kV3 dc3 pm3 cd3 ct3 : Value}
    {f4 : Addr} {od4 an4 : Option Addr} {sl4 : Array (Option Value)} {oc4 kV4 dc4 pm4 cd4 ct4 : Value}
    {f5 : Addr} {od5 an5 : Option Addr} {sl5 : Array (Option Value)} {oc5 kV5 dc5 pm5 cd5 ct5 : Value}
    {f6 : Addr} {od6 an6 : Option Addr} {sl6 : Array (Option Value)} {oc6 kV6 dc6 pm6 cd6 ct6 : Value}
    {f7 : Addr} {od7 an7 : Option Addr} {sl7 : Array (Option Value)} {oc7 kV7 dc7 pm7 cd7 ct7 : Value}
    {f8 : Addr} {od8 an8 : Option Addr} {sl8 : Array (Option Value)} {oc8 kV8 dc8 pm8 cd8 ct8 : Value}
    {f9 : Addr} {od9 an9 : Option Addr} {sl9 : Array (Option Value)} {oc9 kV9 dc9 pm9 cd9 ct9 : Value}
    {f10 : Addr} {od10 an10 : Option Addr} {sl10 : Array (Option Value)} {oc10 kV10 dc10 pm10 cd10 ct10 : Value}
    {f11 : Addr} {od11 an11 : Option Addr} {sl11 : Array (Option Value)} {oc11 kV11 dc11 pm11 cd11 ct11 : Value}
    {f12 : Addr} {od12 an12 : Option Addr} {sl12 : Array (Option Value)} {oc12 kV12 dc12 pm12 cd12 ct12 : Value}
    {f13 : Addr} {od13 an13 : Option Addr} {sl13 : Array (Option Value)} {oc13 kV13 dc13 pm13 cd13 ct13 : Value}
    {f14 : Addr} {od14 an14 : Option Addr} {sl14 : Array (Option Value)} {oc14 kV14 dc14 pm14 cd14 ct14 : Value}
    {f15 : Addr} {od15 an15 : Option Addr} {sl15 : Array (Option Value)} {oc15 kV15 dc15 pm15 cd15 ct15 : Value}
    {f16 : Addr} {od16 an16 : Option Addr} {sl16 : Array (Option Value)} {oc16 kV16 dc16 pm16 cd16 ct16 : Value}
    {f17 : Addr} {od17 an17 : Option Addr} {sl17 : Array (Option Value)} {oc17 kV17 dc17 pm17 cd17 ct17 : Value}
    {f18 : Addr} {od18 an18 : Option Addr} {sl18 : Array (Option Value)} {oc18 kV18 dc18 pm18 cd18 ct18 : Value}
    {f19 : Addr} {od19 an19 : Option Addr} {sl19 : Array (Option Value)} {oc19 kV19 dc19 pm19 cd19 ct19 : Value}
    {f20 : Addr} {od20 an20 : Option Addr} {sl20 : Array (Option Value)} {oc20 kV20 dc20 pm20 cd20 ct20 : Value}
    {f21 : Addr} {od21 an21 : Option Addr} {sl21 : Array (Option Value)} {oc21 kV21 dc21 pm21 cd21 ct21 : Value}
    {f22 : Addr} {od22 an22 : Option Addr} {sl22 : Array (Option Value)} {oc22 kV22 dc22 pm22 cd22 ct22 : Value}
    {f23 : Addr} {od23 an23 : Option Addr} {sl23 : Array (Option Value)} {oc23 kV23 dc23 pm23 cd23 ct23 : Value}
    {f24 : Addr} {od24 an24 : Option Addr} {sl24 : Array (Option Value)} {oc24 kV24 dc24 pm24 cd24 ct24 : Value}
    {f25 : Addr} {od25 an25 : Option Addr} {sl25 : Array (Option Value)} {oc25 kV25 dc25 pm25 cd25 ct25 : Value}
    {f26 : Addr} {od26 an26 : Option Addr} {sl26 : Array (Option Value)} {oc26 kV26 dc26 pm26 cd26 ct26 : Value}
    {f27 : Addr} {od27 an27 : Option Addr} {sl27 : Array (Option Value)} {oc27 kV27 dc27 pm27 cd27 ct27 : Value}
    {f28 : Addr} {od28 an28 : Option Addr} {sl28 : Array (Option Value)} {oc28 kV28 dc28 pm28 cd28 ct28 : Value}
    {f29 : Addr} {od29 an29 : Option Addr} {sl29 : Array (Option Value)} {oc29 kV29 dc29 pm29 cd29 ct29 : Value}
    {f30 : Addr} {od30 an30 : Option Addr} {sl30 : Array (Option Value)} {oc30 kV30 dc30 pm30 cd30 ct30 : Value}
    {f31 : Addr} {od31 an31 : Option Addr} {sl31 : Array (Option Value)} {oc31 kV31 dc31 pm31 cd31 ct31 : Value}
    {f32 : Addr} {od32 an32 : Option Addr} {sl32 : Array (Option Value)} {oc32 kV32 dc32 pm32 cd32 ct32 : Value}
    {f33 : Addr} {od33 an33 : Option Addr} {sl33 : Array (Option Value)} {oc33 kV33 dc33 pm33 cd33 ct33 : Value}
    {f34 : Addr} {od34 an34 : Option Addr} {sl34 : Array (Option Value)} {oc34 kV34 dc34 pm34 cd34 ct34 : Value}
    {f35 : Addr} {od35 an35 : Option Addr} {sl35 : Array (Option Value)} {oc35 kV35 dc35 pm35 cd35 ct35 : Value}
    {f36 : Addr} {od36 an36 : Option Addr} {sl36 : Array (Option Value)} {oc36 kV36 dc36 pm36 cd36 ct36 : Value}
    {tD : Tok} {zZ : Addr} {odZ : Option Addr} {tZ uZ : Tok} {nZ : Nat} {slZ : Array (Option Value)}
    {cE iE lE : Addr} {nmE qE : Str} {NE : Addr} {bsE : List Value} {snE : List Str} {subE : List Value} {abE : Bool} {colE : Option Bool} {ddE : Option Addr} {m0 m1 m2 m3 m5 : Option Value} {odE anE : Option Addr} {slE : Array (Option Value)} {ocE dcE pmE cdE ctE : Value} {P1 P2 Q1 Q2 Q3 Q4 : Pos}
    (a0 : PySem.W.nsIn K mainGlobals "is_integer" = some (some (.ref f0))) (l0 : K.lookup f0 = some ⟨oc0, od0, .func (PySem.W.fnOf "is_integer" "is_integer" (defArgs s_is_integer) (defBody s_is_integer) (defScope s_is_integer) .none kV0 dc0 pm0 an0 cd0 ct0), sl0⟩) (c0 : PySem.W.codeIn K cd0 "is_integer" = true) (k0 : PySem.W.keepIn K (.ref f0) = true)
    (a1 : PySem.W.nsIn K mainGlobals "is_list" = some (some (.ref f1))) (l1 : K.lookup f1 = some ⟨oc1, od1, .func (PySem.W.fnOf "is_list" "is_list" (defArgs s_is_list) (defBody s_is_list) (defScope s_is_list) .none kV1 dc1 pm1 an1 cd1 ct1), sl1⟩) (c1 : PySem.W.codeIn K cd1 "is_list" = true) (k1 : PySem.W.keepIn K (.ref f1) = true)
    (a2 : PySem.W.nsIn K mainGlobals "is_plain" = some (some (.ref f2))) (l2 : K.lookup f2 = some ⟨oc2, od2, .func (PySem.W.fnOf "is_plain" "is_plain" (defArgs s_is_plain) (defBody s_is_plain) (defScope s_is_plain) .none kV2 dc2 pm2 an2 cd2 ct2), sl2⟩) (c2 : PySem.W.codeIn K cd2 "is_plain" = true) (k2 : PySem.W.keepIn K (.ref f2) = true)
    (a3 : PySem.W.nsIn K mainGlobals "divisor" = some (some (.ref f3))) (l3 : K.lookup f3 = some ⟨oc3, od3, .func (PySem.W.fnOf "divisor" "divisor" (defArgs s_divisor) (defBody s_divisor) (defScope s_divisor) .none kV3 dc3 pm3 an3 cd3 ct3), sl3⟩) (c3 : PySem.W.codeIn K cd3 "divisor" = true) (k3 : PySem.W.keepIn K (.ref f3) = true)
    (a4 : PySem.W.nsIn K mainGlobals "lowest" = some (some (.ref f4))) (l4 : K.lookup f4 = some ⟨oc4, od4, .func (PySem.W.fnOf "lowest" "lowest" (defArgs s_lowest) (defBody s_lowest) (defScope s_lowest) .none kV4 dc4 pm4 an4 cd4 ct4), sl4⟩) (c4 : PySem.W.codeIn K cd4 "lowest" = true) (k4 : PySem.W.keepIn K (.ref f4) = true)
    (a5 : PySem.W.nsIn K mainGlobals "is_fraction" = some (some (.ref f5))) (l5 : K.lookup f5 = some ⟨oc5, od5, .func (PySem.W.fnOf "is_fraction" "is_fraction" (defArgs s_is_fraction) (defBody s_is_fraction) (defScope s_is_fraction) .none kV5 dc5 pm5 an5 cd5 ct5), sl5⟩) (c5 : PySem.W.codeIn K cd5 "is_fraction" = true) (k5 : PySem.W.keepIn K (.ref f5) = true)
    (a6 : PySem.W.nsIn K mainGlobals "check_fraction" = some (some (.ref f6))) (l6 : K.lookup f6 = some ⟨oc6, od6, .func (PySem.W.fnOf "check_fraction" "check_fraction" (defArgs s_check_fraction) (defBody s_check_fraction) (defScope s_check_fraction) .none kV6 dc6 pm6 an6 cd6 ct6), sl6⟩) (c6 : PySem.W.codeIn K cd6 "check_fraction" = true) (k6 : PySem.W.keepIn K (.ref f6) = true)
    (a7 : PySem.W.nsIn K mainGlobals "check_two" = some (some (.ref f7))) (l7 : K.lookup f7 = some ⟨oc7, od7, .func (PySem.W.fnOf "check_two" "check_two" (defArgs s_check_two) (defBody s_check_two) (defScope s_check_two) .none kV7 dc7 pm7 an7 cd7 ct7), sl7⟩) (c7 : PySem.W.codeIn K cd7 "check_two" = true) (k7 : PySem.W.keepIn K (.ref f7) = true)
    (a8 : PySem.W.nsIn K mainGlobals "low" = some (some (.ref f8))) (l8 : K.lookup f8 = some ⟨oc8, od8, .func (PySem.W.fnOf "low" "low" (defArgs s_low) (defBody s_low) (defScope s_low) .none kV8 dc8 pm8 an8 cd8 ct8), sl8⟩) (c8 : PySem.W.codeIn K cd8 "low" = true) (k8 : PySem.W.keepIn K (.ref f8) = true)
    (a9 : PySem.W.nsIn K mainGlobals "plus" = some (some (.ref f9))) (l9 : K.lookup f9 = some ⟨oc9, od9, .func (PySem.W.fnOf "plus" "plus" (defArgs s_plus) (defBody s_plus) (defScope s_plus) .none kV9 dc9 pm9 an9 cd9 ct9), sl9⟩) (c9 : PySem.W.codeIn K cd9 "plus" = true) (k9 : PySem.W.keepIn K (.ref f9) = true)
    (a10 : PySem.W.nsIn K mainGlobals "minus" = some (some (.ref f10))) (l10 : K.lookup f10 = some ⟨oc10, od10, .func (PySem.W.fnOf "minus" "minus" (defArgs s_minus) (defBody s_minus) (defScope s_minus) .none kV10 dc10 pm10 an10 cd10 ct10), sl10⟩) (c10 : PySem.W.codeIn K cd10 "minus" = true) (k10 : PySem.W.keepIn K (.ref f10) = true)
    (a11 : PySem.W.nsIn K mainGlobals "times" = some (some (.ref f11))) (l11 : K.lookup f11 = some ⟨oc11, od11, .func (PySem.W.fnOf "times" "times" (defArgs s_times) (defBody s_times) (defScope s_times) .none kV11 dc11 pm11 an11 cd11 ct11), sl11⟩) (c11 : PySem.W.codeIn K cd11 "times" = true) (k11 : PySem.W.keepIn K (.ref f11) = true)
    (a12 : PySem.W.nsIn K mainGlobals "over" = some (some (.ref f12))) (l12 : K.lookup f12 = some ⟨oc12, od12, .func (PySem.W.fnOf "over" "over" (defArgs s_over) (defBody s_over) (defScope s_over) .none kV12 dc12 pm12 an12 cd12 ct12), sl12⟩) (c12 : PySem.W.codeIn K cd12 "over" = true) (k12 : PySem.W.keepIn K (.ref f12) = true)
    (a13 : PySem.W.nsIn K mainGlobals "compared" = some (some (.ref f13))) (l13 : K.lookup f13 = some ⟨oc13, od13, .func (PySem.W.fnOf "compared" "compared" (defArgs s_compared) (defBody s_compared) (defScope s_compared) .none kV13 dc13 pm13 an13 cd13 ct13), sl13⟩) (c13 : PySem.W.codeIn K cd13 "compared" = true) (k13 : PySem.W.keepIn K (.ref f13) = true)
    (a14 : PySem.W.nsIn K mainGlobals "floor_of" = some (some (.ref f14))) (l14 : K.lookup f14 = some ⟨oc14, od14, .func (PySem.W.fnOf "floor_of" "floor_of" (defArgs s_floor_of) (defBody s_floor_of) (defScope s_floor_of) .none kV14 dc14 pm14 an14 cd14 ct14), sl14⟩) (c14 : PySem.W.codeIn K cd14 "floor_of" = true) (k14 : PySem.W.keepIn K (.ref f14) = true)
    (a15 : PySem.W.nsIn K mainGlobals "ceiling_of" = some (some (.ref f15))) (l15 : K.lookup f15 = some ⟨oc15, od15, .func (PySem.W.fnOf "ceiling_of" "ceiling_of" (defArgs s_ceiling_of) (defBody s_ceiling_of) (defScope s_ceiling_of) .none kV15 dc15 pm15 an15 cd15 ct15), sl15⟩) (c15 : PySem.W.codeIn K cd15 "ceiling_of" = true) (k15 : PySem.W.keepIn K (.ref f15) = true)
    (a16 : PySem.W.nsIn K mainGlobals "text_of" = some (some (.ref f16))) (l16 : K.lookup f16 = some ⟨oc16, od16, .func (PySem.W.fnOf "text_of" "text_of" (defArgs s_text_of) (defBody s_text_of) (defScope s_text_of) .none kV16 dc16 pm16 an16 cd16 ct16), sl16⟩) (c16 : PySem.W.codeIn K cd16 "text_of" = true) (k16 : PySem.W.keepIn K (.ref f16) = true)
    (a17 : PySem.W.nsIn K mainGlobals "fraction_in" = some (some (.ref f17))) (l17 : K.lookup f17 = some ⟨oc17, od17, .func (PySem.W.fnOf "fraction_in" "fraction_in" (defArgs s_fraction_in) (defBody s_fraction_in) (defScope s_fraction_in) .none kV17 dc17 pm17 an17 cd17 ct17), sl17⟩) (c17 : PySem.W.codeIn K cd17 "fraction_in" = true) (k17 : PySem.W.keepIn K (.ref f17) = true)
    (a18 : PySem.W.nsIn K mainGlobals "fraction_text" = some (some (.ref f18))) (l18 : K.lookup f18 = some ⟨oc18, od18, .func (PySem.W.fnOf "fraction_text" "fraction_text" (defArgs s_fraction_text) (defBody s_fraction_text) (defScope s_fraction_text) .none kV18 dc18 pm18 an18 cd18 ct18), sl18⟩) (c18 : PySem.W.codeIn K cd18 "fraction_text" = true) (k18 : PySem.W.keepIn K (.ref f18) = true)
    (a19 : PySem.W.nsIn K mainGlobals "read_fraction" = some (some (.ref f19))) (l19 : K.lookup f19 = some ⟨oc19, od19, .func (PySem.W.fnOf "read_fraction" "read_fraction" (defArgs s_read_fraction) (defBody s_read_fraction) (defScope s_read_fraction) .none kV19 dc19 pm19 an19 cd19 ct19), sl19⟩) (c19 : PySem.W.codeIn K cd19 "read_fraction" = true) (k19 : PySem.W.keepIn K (.ref f19) = true)
    (a20 : PySem.W.nsIn K mainGlobals "check_fractions" = some (some (.ref f20))) (l20 : K.lookup f20 = some ⟨oc20, od20, .func (PySem.W.fnOf "check_fractions" "check_fractions" (defArgs s_check_fractions) (defBody s_check_fractions) (defScope s_check_fractions) .none kV20 dc20 pm20 an20 cd20 ct20), sl20⟩) (c20 : PySem.W.codeIn K cd20 "check_fractions" = true) (k20 : PySem.W.keepIn K (.ref f20) = true)
    (a21 : PySem.W.nsIn K mainGlobals "base_of" = some (some (.ref f21))) (l21 : K.lookup f21 = some ⟨oc21, od21, .func (PySem.W.fnOf "base_of" "base_of" (defArgs s_base_of) (defBody s_base_of) (defScope s_base_of) .none kV21 dc21 pm21 an21 cd21 ct21), sl21⟩) (c21 : PySem.W.codeIn K cd21 "base_of" = true) (k21 : PySem.W.keepIn K (.ref f21) = true)
    (a22 : PySem.W.nsIn K mainGlobals "common_base" = some (some (.ref f22))) (l22 : K.lookup f22 = some ⟨oc22, od22, .func (PySem.W.fnOf "common_base" "common_base" (defArgs s_common_base) (defBody s_common_base) (defScope s_common_base) .none kV22 dc22 pm22 an22 cd22 ct22), sl22⟩) (c22 : PySem.W.codeIn K cd22 "common_base" = true) (k22 : PySem.W.keepIn K (.ref f22) = true)
    (a23 : PySem.W.nsIn K mainGlobals "total_of" = some (some (.ref f23))) (l23 : K.lookup f23 = some ⟨oc23, od23, .func (PySem.W.fnOf "total_of" "total_of" (defArgs s_total_of) (defBody s_total_of) (defScope s_total_of) .none kV23 dc23 pm23 an23 cd23 ct23), sl23⟩) (c23 : PySem.W.codeIn K cd23 "total_of" = true) (k23 : PySem.W.keepIn K (.ref f23) = true)
    (a24 : PySem.W.nsIn K mainGlobals "_law_cell" = some (some (.ref f24))) (l24 : K.lookup f24 = some ⟨oc24, od24, .func (PySem.W.fnOf "_law_cell" "_law_cell" (defArgs s__law_cell) (defBody s__law_cell) (defScope s__law_cell) .none kV24 dc24 pm24 an24 cd24 ct24), sl24⟩) (c24 : PySem.W.codeIn K cd24 "_law_cell" = true) (k24 : PySem.W.keepIn K (.ref f24) = true)
    (a25 : PySem.W.nsIn K mainGlobals "_law_box" = some (some (.ref f25))) (l25 : K.lookup f25 = some ⟨oc25, od25, .func (PySem.W.fnOf "_law_box" "_law_box" (defArgs s__law_box) (defBody s__law_box) (defScope s__law_box) .none kV25 dc25 pm25 an25 cd25 ct25), sl25⟩) (c25 : PySem.W.codeIn K cd25 "_law_box" = true) (k25 : PySem.W.keepIn K (.ref f25) = true)
    (a26 : PySem.W.nsIn K mainGlobals "_law_take" = some (some (.ref f26))) (l26 : K.lookup f26 = some ⟨oc26, od26, .func (PySem.W.fnOf "_law_take" "_law_take" (defArgs s__law_take) (defBody s__law_take) (defScope s__law_take) .none kV26 dc26 pm26 an26 cd26 ct26), sl26⟩) (c26 : PySem.W.codeIn K cd26 "_law_take" = true) (k26 : PySem.W.keepIn K (.ref f26) = true)
    (a27 : PySem.W.nsIn K mainGlobals "_law_same" = some (some (.ref f27))) (l27 : K.lookup f27 = some ⟨oc27, od27, .func (PySem.W.fnOf "_law_same" "_law_same" (defArgs s__law_same) (defBody s__law_same) (defScope s__law_same) .none kV27 dc27 pm27 an27 cd27 ct27), sl27⟩) (c27 : PySem.W.codeIn K cd27 "_law_same" = true) (k27 : PySem.W.keepIn K (.ref f27) = true)
    (a28 : PySem.W.nsIn K mainGlobals "_law_divisor" = some (some (.ref f28))) (l28 : K.lookup f28 = some ⟨oc28, od28, .func (PySem.W.fnOf "_law_divisor" "_law_divisor" (defArgs s__law_divisor) (defBody s__law_divisor) (defScope s__law_divisor) .none kV28 dc28 pm28 an28 cd28 ct28), sl28⟩) (c28 : PySem.W.codeIn K cd28 "_law_divisor" = true) (k28 : PySem.W.keepIn K (.ref f28) = true)
    (a29 : PySem.W.nsIn K mainGlobals "_law_low" = some (some (.ref f29))) (l29 : K.lookup f29 = some ⟨oc29, od29, .func (PySem.W.fnOf "_law_low" "_law_low" (defArgs s__law_low) (defBody s__law_low) (defScope s__law_low) .none kV29 dc29 pm29 an29 cd29 ct29), sl29⟩) (c29 : PySem.W.codeIn K cd29 "_law_low" = true) (k29 : PySem.W.keepIn K (.ref f29) = true)
    (a30 : PySem.W.nsIn K mainGlobals "_law_beside" = some (some (.ref f30))) (l30 : K.lookup f30 = some ⟨oc30, od30, .func (PySem.W.fnOf "_law_beside" "_law_beside" (defArgs s__law_beside) (defBody s__law_beside) (defScope s__law_beside) .none kV30 dc30 pm30 an30 cd30 ct30), sl30⟩) (c30 : PySem.W.codeIn K cd30 "_law_beside" = true) (k30 : PySem.W.keepIn K (.ref f30) = true)
    (a31 : PySem.W.nsIn K mainGlobals "_law_some" = some (some (.ref f31))) (l31 : K.lookup f31 = some ⟨oc31, od31, .func (PySem.W.fnOf "_law_some" "_law_some" (defArgs s__law_some) (defBody s__law_some) (defScope s__law_some) .none kV31 dc31 pm31 an31 cd31 ct31), sl31⟩) (c31 : PySem.W.codeIn K cd31 "_law_some" = true) (k31 : PySem.W.keepIn K (.ref f31) = true)
    (a32 : PySem.W.nsIn K mainGlobals "_law_asked" = some (some (.ref f32))) (l32 : K.lookup f32 = some ⟨oc32, od32, .func (PySem.W.fnOf "_law_asked" "_law_asked" (defArgs s__law_asked) (defBody s__law_asked) (defScope s__law_asked) .none kV32 dc32 pm32 an32 cd32 ct32), sl32⟩) (c32 : PySem.W.codeIn K cd32 "_law_asked" = true) (k32 : PySem.W.keepIn K (.ref f32) = true)
    (a33 : PySem.W.nsIn K mainGlobals "_law_pairs_right" = some (some (.ref f33))) (l33 : K.lookup f33 = some ⟨oc33, od33, .func (PySem.W.fnOf "_law_pairs_right" "_law_pairs_right" (defArgs s__law_pairs_right) (defBody s__law_pairs_right) (defScope s__law_pairs_right) .none kV33 dc33 pm33 an33 cd33 ct33), sl33⟩) (c33 : PySem.W.codeIn K cd33 "_law_pairs_right" = true) (k33 : PySem.W.keepIn K (.ref f33) = true)
    (a34 : PySem.W.nsIn K mainGlobals "_law_each_right" = some (some (.ref f34))) (l34 : K.lookup f34 = some ⟨oc34, od34, .func (PySem.W.fnOf "_law_each_right" "_law_each_right" (defArgs s__law_each_right) (defBody s__law_each_right) (defScope s__law_each_right) .none kV34 dc34 pm34 an34 cd34 ct34), sl34⟩) (c34 : PySem.W.codeIn K cd34 "_law_each_right" = true) (k34 : PySem.W.keepIn K (.ref f34) = true)
    (a35 : PySem.W.nsIn K mainGlobals "_law_divisors_right" = some (some (.ref f35))) (l35 : K.lookup f35 = some ⟨oc35, od35, .func (PySem.W.fnOf "_law_divisors_right" "_law_divisors_right" (defArgs s__law_divisors_right) (defBody s__law_divisors_right) (defScope s__law_divisors_right) .none kV35 dc35 pm35 an35 cd35 ct35), sl35⟩) (c35 : PySem.W.codeIn K cd35 "_law_divisors_right" = true) (k35 : PySem.W.keepIn K (.ref f35) = true)
    (a36 : PySem.W.nsIn K mainGlobals "law" = some (some (.ref f36))) (l36 : K.lookup f36 = some ⟨oc36, od36, .func (PySem.W.fnOf "law" "law" (defArgs s_law) (defBody s_law) (defScope s_law) .none kV36 dc36 pm36 an36 cd36 ct36), sl36⟩) (c36 : PySem.W.codeIn K cd36 "law" = true) (k36 : PySem.W.keepIn K (.ref f36) = true)
    (z_abs : PySem.W.nsIn K mainGlobals "abs" = some none)
    (z_all : PySem.W.nsIn K mainGlobals "all" = some none)
    (z_bool : PySem.W.nsIn K mainGlobals "bool" = some none)
    (z_dict : PySem.W.nsIn K mainGlobals "dict" = some none)
    (z_int : PySem.W.nsIn K mainGlobals "int" = some none)
    (z_isinstance : PySem.W.nsIn K mainGlobals "isinstance" = some none)
    (z_len : PySem.W.nsIn K mainGlobals "len" = some none)
    (z_list : PySem.W.nsIn K mainGlobals "list" = some none)
    (z_max : PySem.W.nsIn K mainGlobals "max" = some none)
    (z_min : PySem.W.nsIn K mainGlobals "min" = some none)
    (z_range : PySem.W.nsIn K mainGlobals "range" = some none)
    (z_str : PySem.W.nsIn K mainGlobals "str" = some none)
    (z_sum : PySem.W.nsIn K mainGlobals "sum" = some none)
    (z_tuple : PySem.W.nsIn K mainGlobals "tuple" = some none)
    (gD : PySem.W.nsIn K mainGlobals "DIGITS" = some (some (.str "0123456789" tD))) (gZ : PySem.W.nsIn K mainGlobals "ZERO" = some (some (.ref zZ))) (lZ : K.lookup zZ = some ⟨.type "tuple", odZ, .seq #[.int 0 tZ, .int 1 uZ] nZ, slZ⟩)
    (xa : PySem.W.nsIn K mainGlobals "InvalidText" = some (some (.ref cE))) (xl : K.lookup cE = some (excClassObj nmE qE cE NE bsE [.ref lE, .type "ValueError", .type "Exception", .type "BaseException", .type "object"] true snE subE abE colE ddE m0 m1 m2 m3 m5 "ValueError.__new__"))
    (xs : PySem.W.findIn K (.ref cE) "__setattr__" = some (some (.builtin "object.__setattr__"))) (xg : PySem.W.findIn K (.ref cE) "__getattribute__" = some (some (.builtin "BaseException.__getattribute__"))) (xgg : PySem.W.findIn K (.ref cE) "__getattr__" = some none) (xn : PySem.W.findIn K (.ref cE) "given" = some none)
    (xi : PySem.W.findIn K (.ref cE) "__init__" = some (some (.ref iE))) (xt : PySem.W.typeIn K (.ref iE) = some (.type "function")) (xk : PySem.W.keepIn K (.ref cE) = true) (xe : PySem.W.subIn K (.ref cE) (.type "BaseException") = some true) (xy : PySem.W.typeIn K (.ref cE) = some (.type "type")) (xd : PySem.W.hasDictIn K cE = true)
    (xf : K.lookup iE = some ⟨ocE, odE, .func (PySem.W.fnOf "__init__" "InvalidText.__init__" (Gv.gA P1 P2) (Gv.gB Q1 Q2 Q3 Q4) Gv.gS .none .none dcE pmE anE cdE ctE), slE⟩) (xc : PySem.W.codeIn K cdE "InvalidText.__init__" = true) (xq : PySem.W.isClsIn K cE = true) (xw : PySem.W.subIn K (.ref cE) (.ref cE) = some true) : Md K mg where
  d_is_integer := ⟨f0, _, fun_mk (st := s_is_integer) l0 c0 k0, PySem.W.mg_of X G a0⟩
  d_is_list := ⟨f1, _, fun_mk (st := s_is_list) l1 c1 k1, PySem.W.mg_of X G a1⟩
  d_is_plain := ⟨f2, _, fun_mk (st := s_is_plain) l2 c2 k2, PySem.W.mg_of X G a2⟩
  d_divisor := ⟨f3, _, fun_mk (st := s_divisor) l3 c3 k3, PySem.W.mg_of X G a3⟩
  d_lowest := ⟨f4, _, fun_mk (st := s_lowest) l4 c4 k4, PySem.W.mg_of X G a4⟩
  d_is_fraction := ⟨f5, _, fun_mk (st := s_is_fraction) l5 c5 k5, PySem.W.mg_of X G a5⟩
  d_check_fraction := ⟨f6, _, fun_mk (st := s_check_fraction) l6 c6 k6, PySem.W.mg_of X G a6⟩
  d_check_two := ⟨f7, _, fun_mk (st := s_check_two) l7 c7 k7, PySem.W.mg_of X G a7⟩
  d_low := ⟨f8, _, fun_mk (st := s_low) l8 c8 k8, PySem.W.mg_of X G a8⟩
  d_plus := ⟨f9, _, fun_mk (st := s_plus) l9 c9 k9, PySem.W.mg_of X G a9⟩
  d_minus := ⟨f10, _, fun_mk (st := s_minus) l10 c10 k10, PySem.W.mg_of X G a10⟩
  d_times := ⟨f11, _, fun_mk (st := s_times) l11 c11 k11, PySem.W.mg_of X G a11⟩
  d_over := ⟨f12, _, fun_mk (st := s_over) l12 c12 k12, PySem.W.mg_of X G a12⟩
  d_compared := ⟨f13, _, fun_mk (st := s_compared) l13 c13 k13, PySem.W.mg_of X G a13⟩
  d_floor_of := ⟨f14, _, fun_mk (st := s_floor_of) l14 c14 k14, PySem.W.mg_of X G a14⟩
  d_ceiling_of := ⟨f15, _, fun_mk (st := s_ceiling_of) l15 c15 k15, PySem.W.mg_of X G a15⟩
  d_text_of := ⟨f16, _, fun_mk (st := s_text_of) l16 c16 k16, PySem.W.mg_of X G a16⟩
  d_fraction_in := ⟨f17, _, fun_mk (st := s_fraction_in) l17 c17 k17, PySem.W.mg_of X G a17⟩
  d_fraction_text := ⟨f18, _, fun_mk (st := s_fraction_text) l18 c18 k18, PySem.W.mg_of X G a18⟩
  d_read_fraction := ⟨f19, _, fun_mk (st := s_read_fraction) l19 c19 k19, PySem.W.mg_of X G a19⟩
  d_check_fractions := ⟨f20, _, fun_mk (st := s_check_fractions) l20 c20 k20, PySem.W.mg_of X G a20⟩
  d_base_of := ⟨f21, _, fun_mk (st := s_base_of) l21 c21 k21, PySem.W.mg_of X G a21⟩
  d_common_base := ⟨f22, _, fun_mk (st := s_common_base) l22 c22 k22, PySem.W.mg_of X G a22⟩
  d_total_of := ⟨f23, _, fun_mk (st := s_total_of) l23 c23 k23, PySem.W.mg_of X G a23⟩
  d__law_cell := ⟨f24, _, fun_mk (st := s__law_cell) l24 c24 k24, PySem.W.mg_of X G a24⟩
  d__law_box := ⟨f25, _, fun_mk (st := s__law_box) l25 c25 k25, PySem.W.mg_of X G a25⟩
  d__law_take := ⟨f26, _, fun_mk (st := s__law_take) l26 c26 k26, PySem.W.mg_of X G a26⟩
  d__law_same := ⟨f27, _, fun_mk (st := s__law_same) l27 c27 k27, PySem.W.mg_of X G a27⟩
  d__law_divisor := ⟨f28, _, fun_mk (st := s__law_divisor) l28 c28 k28, PySem.W.mg_of X G a28⟩
  d__law_low := ⟨f29, _, fun_mk (st := s__law_low) l29 c29 k29, PySem.W.mg_of X G a29⟩
  d__law_beside := ⟨f30, _, fun_mk (st := s__law_beside) l30 c30 k30, PySem.W.mg_of X G a30⟩
  d__law_some := ⟨f31, _, fun_mk (st := s__law_some) l31 c31 k31, PySem.W.mg_of X G a31⟩
  d__law_asked := ⟨f32, _, fun_mk (st := s__law_asked) l32 c32 k32, PySem.W.mg_of X G a32⟩
  d__law_pairs_right := ⟨f33, _, fun_mk (st := s__law_pairs_right) l33 c33 k33, PySem.W.mg_of X G a33⟩
  d__law_each_right := ⟨f34, _, fun_mk (st := s__law_each_right) l34 c34 k34, PySem.W.mg_of X G a34⟩
  d__law_divisors_right := ⟨f35, _, fun_mk (st := s__law_divisors_right) l35 c35 k35, PySem.W.mg_of X G a35⟩
  d_law := ⟨f36, _, fun_mk (st := s_law) l36 c36 k36, PySem.W.mg_of X G a36⟩
  n_abs := PySem.W.mg_none_of X G z_abs
  n_all := PySem.W.mg_none_of X G z_all
  n_bool := PySem.W.mg_none_of X G z_bool
  n_dict := PySem.W.mg_none_of X G z_dict
  n_int := PySem.W.mg_none_of X G z_int
  n_isinstance := PySem.W.mg_none_of X G z_isinstance
  n_len := PySem.W.mg_none_of X G z_len
  n_list := PySem.W.mg_none_of X G z_list
  n_max := PySem.W.mg_none_of X G z_max
  n_min := PySem.W.mg_none_of X G z_min
  n_range := PySem.W.mg_none_of X G z_range
  n_str := PySem.W.mg_none_of X G z_str
  n_sum := PySem.W.mg_none_of X G z_sum
  n_tuple := PySem.W.mg_none_of X G z_tuple
  c_DIGITS := ⟨.str "0123456789", .str "0123456789" tD, PySem.W.mg_of X G gD, ⟨tD, rfl⟩, fun Z => .str _⟩
  c_ZERO := ⟨.ref zZ, .ref zZ, PySem.W.mg_of X G gZ, rfl, fun Z => .tup (vs := [.int 0, .int 1]) (.inr ⟨_, _, _, lZ, rfl, rfl, Nat.le_trans (show 2 ≤ 1000 by decide) (line4 (Nat.le_refl _)), .cons ⟨_, rfl⟩ (.cons ⟨_, rfl⟩ .nil)⟩) (.cons (.int 0) (.cons (.int 1) .nil))⟩
  e_InvalidText := ⟨"InvalidText.__init__", cE, iE, PySem.W.mg_of X G xa, ⟨nmE, qE, NE, bsE, _, snE, subE, abE, colE, ddE, m0, m1, m2, m3, m5, xl, rfl⟩, xs, xg, xgg, xn, xi, xt, xk, xe, xy, xd, ⟨_, _, _, _, _, _, _, _, _, _, _, _, _, _, xf, xc⟩⟩
  k_InvalidText := ⟨cE, PySem.W.mg_of X G xa, ⟨xg, xgg, xe, xd⟩, xn, exm_self' xe xq xy xw⟩
theorem kn_all {P : Program} {w : World} {K : PySem.W.Frag} {mg : Str → Option Value} {base : Heap} (M : Md K mg) : Kn P w K mg base 8 "law" 1 g_law := by
  have k_is_integer := kn_is_integer (P := P) (w := w) (base := base) M 
  have k_is_list := kn_is_list (P := P) (w := w) (base := base) M 
  have k_is_plain := kn_is_plain (P := P) (w := w) (base := base) M 
  have k_divisor := kn_divisor (P := P) (w := w) (base := base) M 
  have k_lowest := kn_lowest (P := P) (w := w) (base := base) M k_divisor
  have k_is_fraction := kn_is_fraction (P := P) (w := w) (base := base) M k_is_integer k_divisor
  have kk_is_fraction_value := knk_is_fraction_value (P := P) (w := w) (base := base) M k_is_integer k_divisor
  have k_check_fraction := kn_check_fraction (P := P) (w := w) (base := base) M k_is_fraction
  have k_check_two := kn_check_two (P := P) (w := w) (base := base) M k_check_fraction
  have k_low := kn_low (P := P) (w := w) (base := base) M k_is_integer k_lowest
  have kk_low_base_top := knk_low_base_top (P := P) (w := w) (base := base) M k_is_integer k_lowest
  have k_plus := kn_plus (P := P) (w := w) (base := base) M k_check_two k_lowest
  have kk_plus_other_one := knk_plus_other_one (P := P) (w := w) (base := base) M k_check_two k_lowest
  have k_minus := kn_minus (P := P) (w := w) (base := base) M k_check_two k_lowest
  have kk_minus_other_one := knk_minus_other_one (P := P) (w := w) (base := base) M k_check_two k_lowest
  have k_times := kn_times (P := P) (w := w) (base := base) M k_check_two k_lowest
  have kk_times_other_one := knk_times_other_one (P := P) (w := w) (base := base) M k_check_two k_lowest
  have k_over := kn_over (P := P) (w := w) (base := base) M k_check_two k_lowest
  have kk_over_other_one := knk_over_other_one (P := P) (w := w) (base := base) M k_check_two k_lowest
  have k_compared := kn_compared (P := P) (w := w) (base := base) M k_check_two
  have kk_compared_other_one := knk_compared_other_one (P := P) (w := w) (base := base) M k_check_two
  have k_floor_of := kn_floor_of (P := P) (w := w) (base := base) M k_check_fraction
  have kk_floor_of_fraction := knk_floor_of_fraction (P := P) (w := w) (base := base) M k_check_fraction
  have k_ceiling_of := kn_ceiling_of (P := P) (w := w) (base := base) M k_check_fraction
  have kk_ceiling_of_fraction := knk_ceiling_of_fraction (P := P) (w := w) (base := base) M k_check_fraction
  have k_text_of := kn_text_of (P := P) (w := w) (base := base) M 
  have k_fraction_in := kn_fraction_in (P := P) (w := w) (base := base) M k_is_plain k_text_of k_is_fraction
  have k_fraction_text := kn_fraction_text (P := P) (w := w) (base := base) M k_check_fraction k_text_of
  have kk_fraction_text_fraction := knk_fraction_text_fraction (P := P) (w := w) (base := base) M k_check_fraction k_text_of
  have k_read_fraction := kn_read_fraction (P := P) (w := w) (base := base) M k_fraction_in
  have kk_read_fraction_text := knk_read_fraction_text (P := P) (w := w) (base := base) M k_fraction_in
  have k_check_fractions := kn_check_fractions (P := P) (w := w) (base := base) M k_is_fraction k_is_list
  have k_base_of := kn_base_of (P := P) (w := w) (base := base) M k_divisor
  have k_common_base := kn_common_base (P := P) (w := w) (base := base) M k_check_fractions k_base_of
  have kk_common_base_fractions := knk_common_base_fractions (P := P) (w := w) (base := base) M k_check_fractions k_base_of
  have k_total_of := kn_total_of (P := P) (w := w) (base := base) M k_common_base k_lowest
  have kk_total_of_fractions := knk_total_of_fractions (P := P) (w := w) (base := base) M k_common_base k_lowest
  have k__law_cell := kn__law_cell (P := P) (w := w) (base := base) M 
  have k__law_box := kn__law_box (P := P) (w := w) (base := base) M 
  have k__law_take := kn__law_take (P := P) (w := w) (base := base) M 
  have k__law_same := kn__law_same (P := P) (w := w) (base := base) M  5
  have k__law_divisor := kn__law_divisor (P := P) (w := w) (base := base) M 
  have k__law_low := kn__law_low (P := P) (w := w) (base := base) M k__law_divisor
  have k__law_beside := kn__law_beside (P := P) (w := w) (base := base) M k__law_take
  have k__law_some := kn__law_some (P := P) (w := w) (base := base) M k__law_beside k__law_take k__law_low
  have k__law_asked := kn__law_asked (P := P) (w := w) (base := base) M k_low kk_low_base_top k_plus kk_plus_other_one k_minus kk_minus_other_one k_times kk_times_other_one k_over kk_over_other_one k_compared kk_compared_other_one
  have k__law_pairs_right := kn__law_pairs_right (P := P) (w := w) (base := base) M k__law_same k__law_asked
  have k__law_each_right := kn__law_each_right (P := P) (w := w) (base := base) M k_floor_of kk_floor_of_fraction k_ceiling_of kk_ceiling_of_fraction k_fraction_text kk_fraction_text_fraction k_is_fraction kk_is_fraction_value k__law_same k_read_fraction kk_read_fraction_text k__law_divisor k_common_base kk_common_base_fractions k_total_of kk_total_of_fractions k__law_low
  have k__law_divisors_right := kn__law_divisors_right (P := P) (w := w) (base := base) M k__law_take k__law_low k__law_same k__law_asked k_is_fraction kk_is_fraction_value k_read_fraction kk_read_fraction_text (kh__law_same M)
  have k_law := kn_law (P := P) (w := w) (base := base) M k__law_box k__law_cell k__law_take k__law_some k__law_divisors_right k__law_each_right k__law_pairs_right
  exact k_law
/-- the law's promise -/
def spL (K : PySem.W.Frag) : Sp := fun vs H Q _ => ∃ (a : Addr) (ns : List Int), vs = [.ref a] ∧ SqL K H a (ns.map V.int) ∧ ∀ H', Q (.bl true) H'
theorem law_ok {P : Program} {w : World} {K : PySem.W.Frag} {mg : Str → Option Value} {base : Heap} (M : Md K mg) {fa : Addr} (hfa : mg "law" = some (.ref fa)) {fd : FuncData} (F : Fun K "law" "law" s_law fa fd) : FnOk P w K mg base (L2N.CX P w) 8 fa fd ["script"] (spL K) := by
  have F1 : FnT P w K mg base 8 fa fd ["script"] g_law := by
    have k_is_integer := kn_is_integer (P := P) (w := w) (base := base) M 
    have k_is_list := kn_is_list (P := P) (w := w) (base := base) M 
    have k_is_plain := kn_is_plain (P := P) (w := w) (base := base) M 
    have k_divisor := kn_divisor (P := P) (w := w) (base := base) M 
    have k_lowest := kn_lowest (P := P) (w := w) (base := base) M k_divisor
    have k_is_fraction := kn_is_fraction (P := P) (w := w) (base := base) M k_is_integer k_divisor
    have kk_is_fraction_value := knk_is_fraction_value (P := P) (w := w) (base := base) M k_is_integer k_divisor
    have k_check_fraction := kn_check_fraction (P := P) (w := w) (base := base) M k_is_fraction
    have k_check_two := kn_check_two (P := P) (w := w) (base := base) M k_check_fraction
    have k_low := kn_low (P := P) (w := w) (base := base) M k_is_integer k_lowest
    have kk_low_base_top := knk_low_base_top (P := P) (w := w) (base := base) M k_is_integer k_lowest
    have k_plus := kn_plus (P := P) (w := w) (base := base) M k_check_two k_lowest
    have kk_plus_other_one := knk_plus_other_one (P := P) (w := w) (base := base) M k_check_two k_lowest
    have k_minus := kn_minus (P := P) (w := w) (base := base) M k_check_two k_lowest
    have kk_minus_other_one := knk_minus_other_one (P := P) (w := w) (base := base) M k_check_two k_lowest
    have k_times := kn_times (P := P) (w := w) (base := base) M k_check_two k_lowest
    have kk_times_other_one := knk_times_other_one (P := P) (w := w) (base := base) M k_check_two k_lowest
    have k_over := kn_over (P := P) (w := w) (base := base) M k_check_two k_lowest
    have kk_over_other_one := knk_over_other_one (P := P) (w := w) (base := base) M k_check_two k_lowest
    have k_compared := kn_compared (P := P) (w := w) (base := base) M k_check_two
    have kk_compared_other_one := knk_compared_other_one (P := P) (w := w) (base := base) M k_check_two
    have k_floor_of := kn_floor_of (P := P) (w := w) (base := base) M k_check_fraction
    have kk_floor_of_fraction := knk_floor_of_fraction (P := P) (w := w) (base := base) M k_check_fraction
    have k_ceiling_of := kn_ceiling_of (P := P) (w := w) (base := base) M k_check_fraction
    have kk_ceiling_of_fraction := knk_ceiling_of_fraction (P := P) (w := w) (base := base) M k_check_fraction
    have k_text_of := kn_text_of (P := P) (w := w) (base := base) M 
    have k_fraction_in := kn_fraction_in (P := P) (w := w) (base := base) M k_is_plain k_text_of k_is_fraction
    have k_fraction_text := kn_fraction_text (P := P) (w := w) (base := base) M k_check_fraction k_text_of
    have kk_fraction_text_fraction := knk_fraction_text_fraction (P := P) (w := w) (base := base) M k_check_fraction k_text_of
    have k_read_fraction := kn_read_fraction (P := P) (w := w) (base := base) M k_fraction_in
    have kk_read_fraction_text := knk_read_fraction_text (P := P) (w := w) (base := base) M k_fraction_in
    have k_check_fractions := kn_check_fractions (P := P) (w := w) (base := base) M k_is_fraction k_is_list
    have k_base_of := kn_base_of (P := P) (w := w) (base := base) M k_divisor
    have k_common_base := kn_common_base (P := P) (w := w) (base := base) M k_check_fractions k_base_of
    have kk_common_base_fractions := knk_common_base_fractions (P := P) (w := w) (base := base) M k_check_fractions k_base_of
    have k_total_of := kn_total_of (P := P) (w := w) (base := base) M k_common_base k_lowest
    have kk_total_of_fractions := knk_total_of_fractions (P := P) (w := w) (base := base) M k_common_base k_lowest
    have k__law_cell := kn__law_cell (P := P) (w := w) (base := base) M 
    have k__law_box := kn__law_box (P := P) (w := w) (base := base) M 
    have k__law_take := kn__law_take (P := P) (w := w) (base := base) M 
    have k__law_same := kn__law_same (P := P) (w := w) (base := base) M  5
    have k__law_divisor := kn__law_divisor (P := P) (w := w) (base := base) M 
    have k__law_low := kn__law_low (P := P) (w := w) (base := base) M k__law_divisor
    have k__law_beside := kn__law_beside (P := P) (w := w) (base := base) M k__law_take
    have k__law_some := kn__law_some (P := P) (w := w) (base := base) M k__law_beside k__law_take k__law_low
    have k__law_asked := kn__law_asked (P := P) (w := w) (base := base) M k_low kk_low_base_top k_plus kk_plus_other_one k_minus kk_minus_other_one k_times kk_times_other_one k_over kk_over_other_one k_compared kk_compared_other_one
    have k__law_pairs_right := kn__law_pairs_right (P := P) (w := w) (base := base) M k__law_same k__law_asked
    have k__law_each_right := kn__law_each_right (P := P) (w := w) (base := base) M k_floor_of kk_floor_of_fraction k_ceiling_of kk_ceiling_of_fraction k_fraction_text kk_fraction_text_fraction k_is_fraction kk_is_fraction_value k__law_same k_read_fraction kk_read_fraction_text k__law_divisor k_common_base kk_common_base_fractions k_total_of kk_total_of_fractions k__law_low
    have k__law_divisors_right := kn__law_divisors_right (P := P) (w := w) (base := base) M k__law_take k__law_low k__law_same k__law_asked k_is_fraction kk_is_fraction_value k_read_fraction kk_read_fraction_text (kh__law_same M)
    exact kf_law M k__law_box k__law_cell k__law_take k__law_some k__law_divisors_right k__law_each_right k__law_pairs_right F
  refine F1.imp fun vs H Q E h => ?_
  obtain ⟨a, ns, rfl, hS, q⟩ := h
  have hr : Rep (⟨K, mg⟩ : Gm) H (.ro ns) (.ref a) := .ro hS
  refine ⟨rfl, H, [.val (.ro ns)], ⟨Sub.refl _, rfl, fun i s v e1 e2 => ?_, fun i j b p _ => ?_⟩, ?_⟩
  · cases i with
    | zero => simp at e1 e2; subst e1 e2; exact hr
    | succ i => simp at e1
  · obtain ⟨s, v, e1, e2, e3⟩ := p
    cases i with
    | zero => simp at e1; subst e1; cases v <;> cases e3
    | succ i => simp at e1
  · rw [m_law ns]
    intro v Z' H' I' s' r
    cases r
    exact q H'
theorem all_mk {l : PySem.W.OpenLaw} {w : World} {K : PySem.W.Frag} {h : Heap} {mg : Str → Option Value} {fa : Addr} (X : K.In h) (G : h.Ns mainGlobals mg) (hfa : mg "law" = some (.ref fa))
    {f : Addr} {od an : Option Addr} {sl : Array (Option Value)} {oc kV dc pm cd ct : Value} (a : PySem.W.nsIn K mainGlobals "law" = some (some (.ref f)))
    (lk : K.lookup f = some ⟨oc, od, .func (PySem.W.fnOf "law" "law" (defArgs s_law) (defBody s_law) (defScope s_law) .none kV dc pm an cd ct), sl⟩) (c : PySem.W.codeIn K cd "law" = true) (k : PySem.W.keepIn K (.ref f) = true) (M : Md K mg) :
    ∃ fd : FuncData, (∀ (s : Shared) (v : Value), BindsTo s fd ⟨[v], []⟩ [("script", v)]) ∧ ∀ base : Heap, K.In base → base.Ns mainGlobals mg → FnOk l.prog w K mg base (L2N.CX l.prog w) 8 fa fd ["script"] (spL K) := by
  have e := hfa.symm.trans (PySem.W.mg_of X G a)
  cases e
  exact ⟨PySem.W.fnOf "law" "law" (defArgs s_law) (defBody s_law) (defScope s_law) .none kV dc pm an cd ct, fun s v => .of_eq rfl, fun base _ _ => law_ok M hfa (fun_mk (st := s_law) lk c k)⟩
end PH
open PySem PySem.W PyProof.Rows
set_option maxRecDepth 100000 in
set_option maxHeartbeats 0 in
theorem PySem.Challenge.cw_seatlots_k02_fractions_next_to_one_anoth_holds : PySem.Challenge.rw_seatlots_k02_fractions_next_to_one_anoth.Holds := by
  w_on; o_law; k_head; (case hw => w_witness2)
  k_fill
  refine L2.walk_of (l := PySem.Challenge.rw_seatlots_k02_fractions_next_to_one_anoth) (n := 63) (k := 8) (x := "script") (CX := fun w => L2N.CX PySem.Challenge.rw_seatlots_k02_fractions_next_to_one_anoth.prog w) (sp := fun w => PH.spL _) rfl (by decide) rfl ⟨rfl, by decide, by decide⟩ (fun w h Y => PySem.W.kIn_of Y) ?F (fun _ _ a ns hl _ hS => ⟨a, ns, rfl, hS, fun _ => rfl⟩) (fun _ _ _ _ _ h => by
    obtain ⟨_, _, _, _, _, _, _, _, _, _, _, _, z⟩ := h
    exact z)
  case F =>
    intro w mg fa h KX G hmg
    refine' PH.all_mk KX G hmg ?b1 ?b2 ?b3 ?b4 ?b5
    (case b1 => k_is); (case b2 => k_is); (case b3 => k_is); (case b4 => k_is)
    case b5 =>
      refine' PH.md_mk KX G ?a0 ?l0 ?c0 ?k0 ?a1 ?l1 ?c1 ?k1 ?a2 ?l2 ?c2 ?k2 ?a3 ?l3 ?c3 ?k3 ?a4 ?l4 ?c4 ?k4 ?a5 ?l5 ?c5 ?k5 ?a6 ?l6 ?c6 ?k6 ?a7 ?l7 ?c7 ?k7 ?a8 ?l8 ?c8 ?k8 ?a9 ?l9 ?c9 ?k9 ?a10 ?l10 ?c10 ?k10 ?a11 ?l11 ?c11 ?k11 ?a12 ?l12 ?c12 ?k12 ?a13 ?l13 ?c13 ?k13 ?a14 ?l14 ?c14 ?k14 ?a15 ?l15 ?c15 ?k15 ?a16 ?l16 ?c16 ?k16 ?a17 ?l17 ?c17 ?k17 ?a18 ?l18 ?c18 ?k18 ?a19 ?l19 ?c19 ?k19 ?a20 ?l20 ?c20 ?k20 ?a21 ?l21 ?c21 ?k21 ?a22 ?l22 ?c22 ?k22 ?a23 ?l23 ?c23 ?k23 ?a24 ?l24 ?c24 ?k24 ?a25 ?l25 ?c25 ?k25 ?a26 ?l26 ?c26 ?k26 ?a27 ?l27 ?c27 ?k27 ?a28 ?l28 ?c28 ?k28 ?a29 ?l29 ?c29 ?k29 ?a30 ?l30 ?c30 ?k30 ?a31 ?l31 ?c31 ?k31 ?a32 ?l32 ?c32 ?k32 ?a33 ?l33 ?c33 ?k33 ?a34 ?l34 ?c34 ?k34 ?a35 ?l35 ?c35 ?k35 ?a36 ?l36 ?c36 ?k36 ?z_abs ?z_all ?z_bool ?z_dict ?z_int ?z_isinstance ?z_len ?z_list ?z_max ?z_min ?z_range ?z_str ?z_sum ?z_tuple ?gD ?gZ ?lZ ?xa ?xl ?xs ?xg ?xgg ?xn ?xi ?xt ?xk ?xe ?xy ?xd ?xf ?xc ?xq ?xw
      (case a0 => k_is)
      (case l0 => k_is)
      (case c0 => k_is)
      (case k0 => k_is)
      (case a1 => k_is)
      (case l1 => k_is)
      (case c1 => k_is)
      (case k1 => k_is)
      (case a2 => k_is)
      (case l2 => k_is)
      (case c2 => k_is)
      (case k2 => k_is)
      (case a3 => k_is)
      (case l3 => k_is)
      (case c3 => k_is)
      (case k3 => k_is)
      (case a4 => k_is)
      (case l4 => k_is)
      (case c4 => k_is)
      (case k4 => k_is)
      (case a5 => k_is)
      (case l5 => k_is)
      (case c5 => k_is)
      (case k5 => k_is)
      (case a6 => k_is)
      (case l6 => k_is)
      (case c6 => k_is)
      (case k6 => k_is)
      (case a7 => k_is)
      (case l7 => k_is)
      (case c7 => k_is)
      (case k7 => k_is)
      (case a8 => k_is)
      (case l8 => k_is)
      (case c8 => k_is)
      (case k8 => k_is)
      (case a9 => k_is)
      (case l9 => k_is)
      (case c9 => k_is)
      (case k9 => k_is)
      (case a10 => k_is)
      (case l10 => k_is)
      (case c10 => k_is)
      (case k10 => k_is)
      (case a11 => k_is)
      (case l11 => k_is)
      (case c11 => k_is)
      (case k11 => k_is)
      (case a12 => k_is)
      (case l12 => k_is)
      (case c12 => k_is)
      (case k12 => k_is)
      (case a13 => k_is)
      (case l13 => k_is)
      (case c13 => k_is)
      (case k13 => k_is)
      (case a14 => k_is)
      (case l14 => k_is)
      (case c14 => k_is)
      (case k14 => k_is)
      (case a15 => k_is)
      (case l15 => k_is)
      (case c15 => k_is)
      (case k15 => k_is)
      (case a16 => k_is)
      (case l16 => k_is)
      (case c16 => k_is)
      (case k16 => k_is)
      (case a17 => k_is)
      (case l17 => k_is)
      (case c17 => k_is)
      (case k17 => k_is)
      (case a18 => k_is)
      (case l18 => k_is)
      (case c18 => k_is)
      (case k18 => k_is)
      (case a19 => k_is)
      (case l19 => k_is)
      (case c19 => k_is)
      (case k19 => k_is)
      (case a20 => k_is)
      (case l20 => k_is)
      (case c20 => k_is)
      (case k20 => k_is)
      (case a21 => k_is)
      (case l21 => k_is)
      (case c21 => k_is)
      (case k21 => k_is)
      (case a22 => k_is)
      (case l22 => k_is)
      (case c22 => k_is)
      (case k22 => k_is)
      (case a23 => k_is)
      (case l23 => k_is)
      (case c23 => k_is)
      (case k23 => k_is)
      (case a24 => k_is)
      (case l24 => k_is)
      (case c24 => k_is)
      (case k24 => k_is)
      (case a25 => k_is)
      (case l25 => k_is)
      (case c25 => k_is)
      (case k25 => k_is)
      (case a26 => k_is)
      (case l26 => k_is)
      (case c26 => k_is)
      (case k26 => k_is)
      (case a27 => k_is)
      (case l27 => k_is)
      (case c27 => k_is)
      (case k27 => k_is)
      (case a28 => k_is)
      (case l28 => k_is)
      (case c28 => k_is)
      (case k28 => k_is)
      (case a29 => k_is)
      (case l29 => k_is)
      (case c29 => k_is)
      (case k29 => k_is)
      (case a30 => k_is)
      (case l30 => k_is)
      (case c30 => k_is)
      (case k30 => k_is)
      (case a31 => k_is)
      (case l31 => k_is)
      (case c31 => k_is)
      (case k31 => k_is)
      (case a32 => k_is)
      (case l32 => k_is)
      (case c32 => k_is)
      (case k32 => k_is)
      (case a33 => k_is)
      (case l33 => k_is)
      (case c33 => k_is)
      (case k33 => k_is)
      (case a34 => k_is)
      (case l34 => k_is)
      (case c34 => k_is)
      (case k34 => k_is)
      (case a35 => k_is)
      (case l35 => k_is)
      (case c35 => k_is)
      (case k35 => k_is)
      (case a36 => k_is)
      (case l36 => k_is)
      (case c36 => k_is)
      (case k36 => k_is)
      (case z_abs => k_is)
      (case z_all => k_is)
      (case z_bool => k_is)
      (case z_dict => k_is)
      (case z_int => k_is)
      (case z_isinstance => k_is)
      (case z_len => k_is)
      (case z_list => k_is)
      (case z_max => k_is)
      (case z_min => k_is)
      (case z_range => k_is)
      (case z_str => k_is)
      (case z_sum => k_is)
      (case z_tuple => k_is)
      (case gD => k_is)
      (case gZ => k_is)
      (case lZ => k_is)
      (case xa => k_is)
      (case xl => k_is)
      (case xs => k_is)
      (case xg => k_is)
      (case xgg => k_is)
      (case xn => k_is)
      (case xi => k_is)
      (case xt => k_is)
      (case xk => k_is)
      (case xe => k_is)
      (case xy => k_is)
      (case xd => k_is)
      (case xf => k_is)
      (case xc => k_is)
      (case xq => k_is)
      (case xw => k_is)
