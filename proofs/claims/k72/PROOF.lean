import PyProof.Rows.All
import Wide.All
import OpenK.AllK
import Wide.FinOn
import KE.DatumMore
import KE.DatumMoreOrd
import HandS.ForSpec
import HandS.Comp
import HandS.Dict
import HandS.Iter
import HandS.Text
import HandS.Conv
import HandS.Defaults
import HandS.HeadHook1
import HandS.HeadHook4
import HandS.TupAny
import HandS.TupLen
import HandS.IsInst
import KE.SortData
import KE.DataIsa
import KE.KDictSum
import PyProof.DictMoreH
import HandS.WideBits
import HandS.Codes
import HandS.Head0
import HandS.Head1
import HandS.Head2
import HandS.HeadEnd
import HandS.HeadHook2
import HandS.HeadHook3
import PySem.Challenge.RW_edgemoss_k72_why_a_cell_is_loose
set_option Elab.async false
set_option linter.all false
set_option maxRecDepth 100000
set_option maxHeartbeats 0
/-! Core1: mirror values, their state, judgements over them. -/
namespace G
open PySem PySem.Spec PyProof.Rows L2
open PySem.W (Datum Tup T3)

/-! ### outcomes -/
/-- an exception: the name of its class, the number that it carries and that number's name -/
structure Exn where
  cls : Str
  arg : Option (Str × Int)
  deriving DecidableEq
inductive R (α : Type) where
  | ok (x : α) | exc (e : Exn) | bad
namespace R
variable {α β : Type}
def bind : R α → (α → R β) → R β
  | .ok x, k => k x
  | .exc e, _ => .exc e
  | .bad, _ => .bad
def sat : R α → (α → Prop) → (Exn → Prop) → Prop
  | .ok x, P, _ => P x
  | .exc e, _, E => E e
  | .bad, _, _ => False
theorem bind_sat {r : R α} {k : α → R β} {P : β → Prop} {E : Exn → Prop} : (r.bind k).sat P E ↔ r.sat (fun x => (k x).sat P E) E := by
  cases r <;> exact Iff.rfl
theorem sat.imp {r : R α} {P Q : α → Prop} {E E' : Exn → Prop} (h : r.sat P E) (f : ∀ x, r = .ok x → P x → Q x) (g : ∀ e, E e → E' e) : r.sat Q E' := by
  cases r with
  | ok x => exact f x rfl h
  | exc e => exact g e h
  | bad => exact h
/-- on along a bind -/
theorem on {r : R α} {k : α → R β} {P : β → Prop} {Q : α → Prop} {E : Exn → Prop} (h : (r.bind k).sat P E) (f : ∀ x, r = .ok x → (k x).sat P E → Q x) : r.sat Q E :=
  (bind_sat.mp h).imp f fun _ x => x
@[simp] theorem ok_bind (x : α) (k : α → R β) : (R.ok x).bind k = k x := rfl
@[simp] theorem exc_bind (e : Exn) (k : α → R β) : (R.exc e : R α).bind k = .exc e := rfl
@[simp] theorem bad_bind (k : α → R β) : (R.bad : R α).bind k = .bad := rfl
@[simp] theorem sat_ok (x : α) (P : α → Prop) (E : Exn → Prop) : (R.ok x).sat P E = P x := rfl
theorem bind_assoc {γ : Type} (r : R α) (k : α → R β) (l : β → R γ) : (r.bind k).bind l = r.bind fun x => (k x).bind l := by
  cases r <;> rfl
def map (f : α → β) (r : R α) : R β := r.bind fun x => .ok (f x)
end R
/-- guarded -/
@[irreducible] def chk {α : Type} (c : Bool) (r : R α) : R α := match c with
  | true => r
  | false => .bad
theorem chk_sat {α : Type} {c : Bool} {r : R α} {P : α → Prop} {E : Exn → Prop} (h : (chk c r).sat P E) : c = true ∧ r.sat P E := by
  unfold chk at h
  cases c with
  | true => exact ⟨rfl, h⟩
  | false => exact h.elim
@[simp] theorem chk_true {α : Type} (r : R α) : chk true r = r := by
  unfold chk
  rfl

/-! ### values -/
class Py (α : Type) where
  rep : PySem.W.Frag → α → V → Hp → Prop
  up : ∀ {K x v F N}, Same F N → rep K x v F → rep K x v N
section
variable {K : PySem.W.Frag} {F N : Hp}
theorem sqL_up {a : Addr} {xs : List V} (e : Same F N) (h : SqL K F a xs) : SqL K N a xs := e.seq h
theorem sqT_up {a : Addr} {xs : List V} (e : Same F N) (h : SqT K F a xs) : SqT K N a xs := by
  rcases h with (h | ⟨o, h⟩) | h
  · exact .inl (.inl (e _ _ h))
  · exact .inl (.inr ⟨o, e _ _ h⟩)
  · exact .inr h
mutual
/-- v stands for the data d; lists are tracked themselves -/
inductive Dq (K : PySem.W.Frag) (F : Hp) : V → PyData → Prop
  | non : Dq K F .non .none
  | bl (b : Bool) : Dq K F (.bl b) (.bool b)
  | int (i : Int) : Dq K F (.int i) (.int i)
  | str (x : Str) : Dq K F (.str x) (.str x)
  | lst {a : Addr} {xs : List V} {ds : List PyData} : F a = some (.lst xs) → Dqs K F xs ds → Dq K F (.ref a) (.list ds)
  | tup {a : Addr} {xs : List V} {ds : List PyData} : SqT K F a xs → Dqs K F xs ds → Dq K F (.ref a) (.tuple ds)
inductive Dqs (K : PySem.W.Frag) (F : Hp) : List V → List PyData → Prop
  | nil : Dqs K F [] []
  | cons {v : V} {vs : List V} {d : PyData} {ds : List PyData} : Dq K F v d → Dqs K F vs ds → Dqs K F (v :: vs) (d :: ds)
end
mutual
theorem dq_up (e : Same F N) : ∀ (d : PyData) (v : V), Dq K F v d → Dq K N v d
  | .none, _, h => by cases h; exact .non
  | .bool _, _, h => by cases h; exact .bl _
  | .int _, _, h => by cases h; exact .int _
  | .str _, _, h => by cases h; exact .str _
  | .list ds, _, h => by
    cases h with
    | lst hs ha => exact .lst (e _ _ hs) (dqs_up e ds _ ha)
  | .tuple ds, _, h => by
    cases h with
    | tup hs ha => exact .tup (sqT_up e hs) (dqs_up e ds _ ha)
  | .dict _, _, h => by cases h
theorem dqs_up (e : Same F N) : ∀ (ds : List PyData) (vs : List V), Dqs K F vs ds → Dqs K N vs ds
  | [], _, h => by cases h; exact .nil
  | d :: ds, _, h => by
    cases h with
    | cons h1 h2 => exact .cons (dq_up e d _ h1) (dqs_up e ds _ h2)
end
mutual
theorem Dq.dp : ∀ (d : PyData) (v : V), Dq K F v d → Dp K F v d
  | .none, _, h => by cases h; exact .non
  | .bool _, _, h => by cases h; exact .bl _
  | .int _, _, h => by cases h; exact .int _
  | .str _, _, h => by cases h; exact .str _
  | .list ds, _, h => by
    cases h with
    | lst hs ha => exact .lst (SqL.of hs) (Dqs.dp ds _ ha)
  | .tuple ds, _, h => by
    cases h with
    | tup hs ha => exact .tup hs (Dqs.dp ds _ ha)
  | .dict _, _, h => by cases h
theorem Dqs.dp : ∀ (ds : List PyData) (vs : List V), Dqs K F vs ds → DpAll K F vs ds
  | [], _, h => by cases h; exact .nil
  | d :: ds, _, h => by
    cases h with
    | cons h1 h2 => exact .cons (Dq.dp d _ h1) (Dqs.dp ds _ h2)
end
end
instance datumPy {α : Type} [DecidableEq α] [Datum α] : Py α where
  rep K x v F := Dq K F v (Datum.toD x)
  up e h := dq_up e _ _ h
/-- data of any form -/
instance dynPy : Py PyData where
  rep K x v F := Dq K F v x
  up e h := dq_up e _ _ h
/-- values that no heap is asked for -/
class Imm (α : Type) [Py α] where
  free : ∀ {K : PySem.W.Frag} {x : α} {v : V} {F N : Hp}, Py.rep K x v F → Py.rep K x v N
section
variable {K : PySem.W.Frag} {F : Hp} {v : V}
theorem rep_int {i : Int} : Py.rep K i v F ↔ v = .int i := ⟨fun h => by cases h; rfl, fun h => by subst h; exact Dq.int i⟩
theorem rep_bool {i : Bool} : Py.rep K i v F ↔ v = .bl i := ⟨fun h => by cases h; rfl, fun h => by subst h; exact Dq.bl i⟩
theorem rep_str {i : Str} : Py.rep K i v F ↔ v = .str i := ⟨fun h => by cases h; rfl, fun h => by subst h; exact Dq.str i⟩
theorem rep_unit : Py.rep K () v F ↔ v = .non := ⟨fun h => by cases h; rfl, fun h => by subst h; exact Dq.non⟩
instance : Imm Int := ⟨fun h => rep_int.mpr (rep_int.mp h)⟩
instance : Imm Bool := ⟨fun h => rep_bool.mpr (rep_bool.mp h)⟩
instance : Imm Str := ⟨fun h => rep_str.mpr (rep_str.mp h)⟩
instance : Imm Unit := ⟨fun h => rep_unit.mpr (rep_unit.mp h)⟩
variable {α β γ : Type} [DecidableEq α] [Datum α] [DecidableEq β] [Datum β] [DecidableEq γ] [Datum γ]
abbrev Reps (K : PySem.W.Frag) (F : Hp) (xs : List α) (vs : List V) : Prop := Dqs K F vs (xs.map Datum.toD)
theorem rep_list {xs : List α} : Py.rep K xs v F ↔ ∃ a vs, v = .ref a ∧ F a = some (.lst vs) ∧ Reps K F xs vs :=
  ⟨fun h => by
    cases h with
    | lst hs ha => exact ⟨_, _, rfl, hs, ha⟩, fun ⟨_, _, e, hs, ha⟩ => by subst e; exact Dq.lst hs ha⟩
theorem rep_tup {xs : Tup α} : Py.rep K xs v F ↔ ∃ a vs, v = .ref a ∧ SqT K F a vs ∧ Reps K F xs.items vs :=
  ⟨fun h => by
    cases h with
    | tup hs ha => exact ⟨_, _, rfl, hs, ha⟩, fun ⟨_, _, e, hs, ha⟩ => by subst e; exact Dq.tup hs ha⟩
theorem rep_pair {p : α × β} : Py.rep K p v F ↔ ∃ a u w, v = .ref a ∧ SqT K F a [u, w] ∧ Py.rep K p.1 u F ∧ Py.rep K p.2 w F :=
  ⟨fun h => by
    cases h with
    | tup hs ha =>
      cases ha with
      | cons h1 h2 =>
        cases h2 with
        | cons h2 h3 =>
          cases h3
          exact ⟨_, _, _, rfl, hs, h1, h2⟩, fun ⟨_, _, _, e, hs, h1, h2⟩ => by subst e; exact Dq.tup hs (.cons h1 (.cons h2 .nil))⟩
theorem rep_t3 {p : T3 α β γ} : Py.rep K p v F ↔ ∃ a u w z, v = .ref a ∧ SqT K F a [u, w, z] ∧ Py.rep K p.a u F ∧ Py.rep K p.b w F ∧ Py.rep K p.c z F :=
  ⟨fun h => by
    cases h with
    | tup hs ha =>
      cases ha with
      | cons h1 h2 =>
        cases h2 with
        | cons h2 h3 =>
          cases h3 with
          | cons h3 h4 =>
            cases h4
            exact ⟨_, _, _, _, rfl, hs, h1, h2, h3⟩, fun ⟨_, _, _, _, e, hs, h1, h2, h3⟩ => by subst e; exact Dq.tup hs (.cons h1 (.cons h2 (.cons h3 .nil)))⟩
theorem Reps.length : ∀ {xs : List α} {vs : List V}, Reps K F xs vs → vs.length = xs.length
  | [], _, h => by cases h; rfl
  | _ :: _, _, h => by
    cases h with
    | cons _ t => rw [List.length_cons, List.length_cons, Reps.length t]
theorem Reps.nil : Reps K F ([] : List α) [] := Dqs.nil
theorem Reps.cons {x : α} {xs : List α} {w : V} {vs : List V} (h : Py.rep K x w F) (t : Reps K F xs vs) : Reps K F (x :: xs) (w :: vs) := Dqs.cons h t
theorem Reps.head {x : α} {xs : List α} {w : V} {vs : List V} (h : Reps K F (x :: xs) (w :: vs)) : Py.rep K x w F ∧ Reps K F xs vs := by
  cases h with
  | cons h t => exact ⟨h, t⟩
theorem Reps.append : ∀ {xs ys : List α} {vs ws : List V}, Reps K F xs vs → Reps K F ys ws → Reps K F (xs ++ ys) (vs ++ ws)
  | [], _, _, _, h, k => by cases h; exact k
  | _ :: _, _, _, _, h, k => by
    cases h with
    | cons h t => exact Dqs.cons h (Reps.append t k)
theorem Reps.get : ∀ {xs : List α} {vs : List V}, Reps K F xs vs → ∀ {i : Nat} {x : α}, xs[i]? = some x → ∃ w, vs[i]? = some w ∧ Py.rep K x w F
  | [], _, _, i, _, e => by simp at e
  | y :: xs, _, h, 0, x, e => by
    cases h with
    | cons h t =>
      have e' := Option.some.inj (show some y = some x from e)
      subst e'
      exact ⟨_, rfl, h⟩
  | y :: xs, _, h, i + 1, x, e => by
    cases h with
    | cons h t => exact Reps.get t (i := i) (by simpa using e)
theorem Reps.get' : ∀ {xs : List α} {vs : List V}, Reps K F xs vs → ∀ {i : Nat} {w : V}, vs[i]? = some w → ∃ x, xs[i]? = some x ∧ Py.rep K x w F
  | [], _, h, i, _, e => by cases h; simp at e
  | y :: xs, _, h, 0, x, e => by
    cases h with
    | cons h t =>
      have e' := Option.some.inj (show some _ = some x from e)
      subst e'
      exact ⟨_, rfl, h⟩
  | y :: xs, _, h, i + 1, x, e => by
    cases h with
    | cons h t => exact Reps.get' t (i := i) (by simpa using e)
theorem Reps.take : ∀ {xs : List α} {vs : List V} (n : Nat), Reps K F xs vs → Reps K F (xs.take n) (vs.take n)
  | _, _, 0, _ => Dqs.nil
  | [], _, _ + 1, h => by cases h; exact Dqs.nil
  | _ :: _, _, n + 1, h => by
    cases h with
    | cons h t => exact Dqs.cons h (Reps.take n t)
theorem Reps.drop : ∀ {xs : List α} {vs : List V} (n : Nat), Reps K F xs vs → Reps K F (xs.drop n) (vs.drop n)
  | _, _, 0, h => h
  | [], _, _ + 1, h => by cases h; exact Dqs.nil
  | _ :: _, _, n + 1, h => by
    cases h with
    | cons h t => exact Reps.drop n t
theorem Reps.set : ∀ {xs : List α} {vs : List V} (n : Nat) {x : α} {w : V}, Reps K F xs vs → Py.rep K x w F → Reps K F (xs.set n x) (vs.set n w)
  | [], _, _, _, _, h, _ => by cases h; exact Dqs.nil
  | _ :: _, _, 0, _, _, h, k => by
    cases h with
    | cons h t => exact Dqs.cons k t
  | _ :: _, _, n + 1, _, _, h, k => by
    cases h with
    | cons h t => exact Dqs.cons h (Reps.set n t k)
theorem Reps.up {N : Hp} {xs : List α} {vs : List V} (e : Same F N) (h : Reps K F xs vs) : Reps K N xs vs := dqs_up e _ _ h
end

/-! ### slots -/
structure Sl where
  ok : PySem.W.Frag → List Addr → Hp → Option V → Prop
  up : ∀ {K as F N o}, Same F N → ok K as F o → ok K as N o
  upA : ∀ {K as F o} (bs : List Addr), ok K as F o → ok K (as ++ bs) F o
/-- nothing is known -/
def un : Sl := ⟨fun _ _ _ _ => True, fun _ h => h, fun _ h => h⟩
/-- it holds x -/
def im {α : Type} [Py α] (x : α) : Sl := ⟨fun K _ F o => ∃ v, o = some v ∧ Py.rep K x v F, fun e ⟨v, h, r⟩ => ⟨v, h, Py.up e r⟩, fun _ h => h⟩
theorem get_app {as : List Addr} {j : Nat} {a : Addr} (bs : List Addr) (h : as[j]? = some a) : (as ++ bs)[j]? = some a := by
  rw [List.getElem?_append_left (List.getElem?_eq_some_iff.mp h).1, h]
/-- it holds the j-th of the things that change -/
def mu (j : Nat) : Sl := ⟨fun _ as _ o => ∃ a, as[j]? = some a ∧ o = some (.ref a), fun _ h => h, fun bs ⟨a, h, e⟩ => ⟨a, get_app bs h, e⟩⟩
/-- a tuple of such -/
def slotsOk (K : PySem.W.Frag) (as : List Addr) (F : Hp) : List Sl → List V → Prop
  | [], [] => True
  | g :: gs, v :: vs => g.ok K as F (some v) ∧ slotsOk K as F gs vs
  | _, _ => False
theorem slotsOk_up {K : PySem.W.Frag} {as : List Addr} {F N : Hp} (e : Same F N) : ∀ {gs : List Sl} {vs : List V}, slotsOk K as F gs vs → slotsOk K as N gs vs
  | [], [], h => h
  | g :: _, _ :: _, h => ⟨g.up e h.1, slotsOk_up e h.2⟩
  | [], _ :: _, h => h.elim
  | _ :: _, [], h => h.elim
theorem slotsOk_upA {K : PySem.W.Frag} {as : List Addr} {F : Hp} (bs : List Addr) : ∀ {gs : List Sl} {vs : List V}, slotsOk K as F gs vs → slotsOk K (as ++ bs) F gs vs
  | [], [], h => h
  | g :: _, _ :: _, h => ⟨g.upA bs h.1, slotsOk_upA bs h.2⟩
  | [], _ :: _, h => h.elim
  | _ :: _, [], h => h.elim
def tupS (gs : List Sl) : Sl := ⟨fun K as F o => ∃ t vs, o = some (.ref t) ∧ SqT K F t vs ∧ slotsOk K as F gs vs, fun e ⟨t, vs, h, q, r⟩ => ⟨t, vs, h, sqT_up e q, slotsOk_up e r⟩, fun bs ⟨t, vs, h, q, r⟩ => ⟨t, vs, h, q, slotsOk_upA bs r⟩⟩
abbrev Slots (K : PySem.W.Frag) (as : List Addr) (F : Hp) (Γ : List Sl) (σ : L2.St) : Prop := Paired (fun g o => g.ok K as F o) Γ σ
section
variable {K : PySem.W.Frag} {as : List Addr} {F N : Hp} {σ : L2.St}
theorem Slots.up {Γ : List Sl} (e : Same F N) (h : Slots K as F Γ σ) : Slots K as N Γ σ := by
  induction h with
  | nil => exact .nil
  | cons x _ ih => exact .cons (Sl.up _ e x) ih
theorem Slots.upA {Γ : List Sl} (bs : List Addr) (h : Slots K as F Γ σ) : Slots K (as ++ bs) F Γ σ := by
  induction h with
  | nil => exact .nil
  | cons x _ ih => exact .cons (Sl.upA _ bs x) ih
theorem Slots.get : ∀ {Γ : List Sl} {σ : L2.St} {i : Nat} {g : Sl}, Slots K as F Γ σ → Γ[i]? = some g → ∃ o, σ[i]? = some o ∧ g.ok K as F o
  | _, _, i, _, .nil, e => by simp at e
  | _, _, 0, _, .cons x _, e => ⟨_, rfl, by have e' := Option.some.inj (show some _ = some _ from e); subst e'; exact x⟩
  | _, _, i + 1, _, .cons _ t, e => Slots.get (i := i) t (by simpa using e)
theorem Slots.set : ∀ {Γ : List Sl} {σ : L2.St} {g : Sl} {o : Option V} (i : Nat), Slots K as F Γ σ → g.ok K as F o → Slots K as F (Γ.set i g) (σ.set i o)
  | _, _, _, _, _, .nil, _ => .nil
  | _, _, _, _, 0, .cons _ t, k => .cons k t
  | _, _, _, _, i + 1, .cons x t, k => .cons x (Slots.set i t k)
theorem Slots.length {Γ : List Sl} (h : Slots K as F Γ σ) : Γ.length = σ.length := Paired.length h
end

/-! ### things that change -/
structure MC where
  live : Bool
  ok : PySem.W.Frag → Addr → Hp → HO → Prop
  up : ∀ {K a F N u}, Same F N → ok K a F u → ok K a N u
def gone : MC := ⟨false, fun _ _ _ _ => True, fun _ h => h⟩
/-- a list -/
def lst {α : Type} [DecidableEq α] [Datum α] (xs : List α) : MC := ⟨true, fun K _ F u => ∃ vs, u = .lst vs ∧ Reps K F xs vs, fun e ⟨vs, h, r⟩ => ⟨vs, h, r.up e⟩⟩
/-- what a def began with: the frozen heap, the heap, what it was handed to change -/
structure Bs where
  F0 : Hp
  H0 : Hp
  A0 : List Addr
  /-- what is lent and must lie as it lay -/
  bor : List Addr := []
  Hb : Hp := fun _ => none
structure Ok (K : PySem.W.Frag) (B : Bs) (as : List Addr) (m : List MC) (F H : Hp) : Prop where
  keep : ∀ b o, B.H0 b = some o → b ∉ B.A0 → H b = some o
  stay : ∀ b, H b = none → B.H0 b = none
  sub0 : Same B.F0 F
  sub : Same F H
  fresh : ∀ b, F b ≠ none → B.F0 b = none → B.H0 b = none ∨ b ∈ B.A0
  len : as.length = m.length
  nod : as.Nodup
  org : ∀ a ∈ as, a ∈ B.A0 ∨ B.H0 a = none
  chg : ∀ (j : Nat) (a : Addr) (c : MC), as[j]? = some a → m[j]? = some c → c.live = true → F a = none ∧ a ∉ B.bor ∧ ∃ u, H a = some u ∧ c.ok K a F u
  old : ∀ a ∈ as, H a ≠ none
  lent : ∀ a ∈ B.bor, ∃ o, B.Hb a = some o ∧ H a = some o
/-- the state: slots Γ, things that change m -/
structure Des (K : PySem.W.Frag) (B : Bs) (Γ : List Sl) (m : List MC) (as : List Addr) (σ : L2.St) (F H : Hp) : Prop where
  sl : Slots K as F Γ σ
  ok : Ok K B as m F H
section
variable {K : PySem.W.Frag} {B : Bs} {as : List Addr} {m : List MC} {F N H H2 : Hp} {Γ : List Sl} {σ : L2.St}
/-- the frozen heap grows by new things -/
theorem Ok.ext (d : Ok K B as m F H) (h1 : Same F N) (h2 : Same H H2) (h3 : Same N H2) (h4 : ∀ b, N b ≠ none → F b = none → H b = none) : Ok K B as m N H2 where
  keep := fun b o e hb => h2 b o (d.keep b o e hb)
  stay := fun b e => d.stay b (h2.free e)
  sub0 := d.sub0.trans h1
  sub := h3
  fresh := fun b n z => by
    cases e : F b with
    | some o => exact d.fresh b (by rw [e]; exact fun q => nomatch q) z
    | none => exact .inl (d.stay b (h4 b n e))
  len := d.len
  nod := d.nod
  org := d.org
  chg := fun j a c e1 e2 l => by
    obtain ⟨z, y, u, hu, r⟩ := d.chg j a c e1 e2 l
    refine ⟨?_, y, u, h2 _ _ hu, c.up h1 r⟩
    cases e : N a with
    | none => rfl
    | some o =>
      have q := h4 a (by rw [e]; exact fun q => nomatch q) z
      rw [q] at hu
      cases hu
  old := fun a ha => by
    cases e : H a with
    | none => exact absurd e (d.old a ha)
    | some o => rw [h2 a o e]; exact fun q => nomatch q
  lent := fun a ha => by
    obtain ⟨o, e1, e2⟩ := d.lent a ha
    exact ⟨o, e1, h2 a o e2⟩
theorem Des.ext (d : Des K B Γ m as σ F H) (h1 : Same F N) (h2 : Same H H2) (h3 : Same N H2) (h4 : ∀ b, N b ≠ none → F b = none → H b = none) : Des K B Γ m as σ N H2 :=
  ⟨d.sl.up h1, d.ok.ext h1 h2 h3 h4⟩
/-- a new thing, frozen at once -/
theorem Des.new {p : Addr} {o : HO} (d : Des K B Γ m as σ F H) (hp : H p = none) : Same F (upd F p o) ∧ Des K B Γ m as σ (upd F p o) (upd H p o) := by
  have hF : F p = none := d.ok.sub.free hp
  have hn : ∀ {X : Hp}, X p = none → Same X (upd X p o) := fun {X} e b u q => by
    rw [upd_ne (ne_of_none q e)]
    exact q
  refine ⟨hn hF, d.ext (hn hF) (hn hp) (fun b u q => ?_) fun b n z => ?_⟩
  · by_cases e : b = p
    · rw [e, upd_same] at q
      rw [e, upd_same]
      exact q
    · rw [upd_ne e] at q
      rw [upd_ne e]
      exact d.ok.sub b u q
  · by_cases e : b = p
    · rw [e]
      exact hp
    · rw [upd_ne e] at n
      exact absurd z n
/-- a new thing that changes -/
theorem Des.newM {p : Addr} {o : HO} {c : MC} (d : Des K B Γ m as σ F H) (hp : H p = none) (hc : c.ok K p F o) : Des K B Γ (m ++ [c]) (as ++ [p]) σ F (upd H p o) := by
  have hF : F p = none := d.ok.sub.free hp
  have hn : Same H (upd H p o) := fun b u q => by
    rw [upd_ne (ne_of_none q hp)]
    exact q
  have e := d.ok.ext (N := F) (H2 := upd H p o) (Same.refl F) hn (d.ok.sub.trans hn) fun b n z => absurd z n
  have hb : p ∉ B.bor := fun z => by
    obtain ⟨o, _, q⟩ := d.ok.lent p z
    rw [hp] at q
    cases q
  refine ⟨d.sl.upA [p], e.keep, e.stay, e.sub0, e.sub, e.fresh, by rw [List.length_append, List.length_append, d.ok.len]; rfl, ?_, ?_, ?_, ?_, e.lent⟩
  · rw [List.nodup_append]
    refine ⟨d.ok.nod, by simp, fun a ha b hb => ?_⟩
    have hb' : b = p := by simpa using hb
    subst hb'
    intro q
    subst q
    exact d.ok.old a ha hp
  · intro a ha
    rcases List.mem_append.mp ha with ha | ha
    · exact d.ok.org a ha
    · have : a = p := by simpa using ha
      subst this
      exact .inr (d.ok.stay a hp)
  · intro j a c' e1 e2 l
    by_cases hj : j < as.length
    · rw [List.getElem?_append_left hj] at e1
      rw [List.getElem?_append_left (by rw [← d.ok.len]; exact hj)] at e2
      exact e.chg j a c' e1 e2 l
    · rw [List.getElem?_append_right (Nat.le_of_not_lt hj)] at e1
      rw [List.getElem?_append_right (by rw [← d.ok.len]; exact Nat.le_of_not_lt hj)] at e2
      rw [← d.ok.len] at e2
      cases hk : j - as.length with
      | zero =>
        rw [hk] at e1 e2
        have a1 : p = a := Option.some.inj e1
        have a2 : c = c' := Option.some.inj e2
        subst a1 a2
        exact ⟨hF, hb, o, upd_same, hc⟩
      | succ n =>
        rw [hk] at e1
        simp at e1
  · intro a ha
    rcases List.mem_append.mp ha with ha | ha
    · exact e.old a ha
    · have : a = p := by simpa using ha
      subst this
      rw [upd_same]
      exact fun q => nomatch q
/-- what changes is changed -/
theorem Des.put {j : Nat} {a : Addr} {c c' : MC} {o : HO} (d : Des K B Γ m as σ F H) (ha : as[j]? = some a) (hc : m[j]? = some c) (hl : c.live = true) (h' : c'.ok K a F o) : Des K B Γ (m.set j c') as σ F (upd H a o) := by
  obtain ⟨z, y, u, hu, r⟩ := d.ok.chg j a c ha hc hl
  have hm : a ∈ as := List.mem_of_getElem? ha
  have ne : ∀ {b : Addr} {X : HO}, F b = some X → b ≠ a := fun q e => by rw [e, z] at q; cases q
  refine ⟨d.sl, fun b o' e hb => ?_, fun b e => ?_, d.ok.sub0, fun b o' e => ?_, d.ok.fresh, by rw [List.length_set]; exact d.ok.len, d.ok.nod, d.ok.org, fun k b c2 e1 e2 l => ?_, fun b hb => ?_, fun b hb => ?_⟩
  · have hne : b ≠ a := fun q => by
      subst q
      rcases d.ok.org b hm with k | k
      · exact hb k
      · rw [k] at e; cases e
    rw [upd_ne hne]
    exact d.ok.keep b o' e hb
  · by_cases q : b = a
    · rw [q, upd_same] at e
      cases e
    · rw [upd_ne q] at e
      exact d.ok.stay b e
  · rw [upd_ne (ne e)]
    exact d.ok.sub b o' e
  · by_cases hk : k = j
    · subst hk
      rw [ha] at e1
      cases e1
      rw [List.getElem?_set_self (List.getElem?_eq_some_iff.mp hc).1] at e2
      cases e2
      exact ⟨z, y, o, upd_same, h'⟩
    · rw [List.getElem?_set_ne (Ne.symm hk)] at e2
      obtain ⟨z2, y2, u2, hu2, r2⟩ := d.ok.chg k b c2 e1 e2 l
      have hne : b ≠ a := fun q => by
        subst q
        have h1 := (List.getElem?_eq_some_iff.mp e1)
        have h2 := (List.getElem?_eq_some_iff.mp ha)
        exact hk ((List.getElem_inj d.ok.nod).mp (h1.2.trans h2.2.symm))
      exact ⟨z2, y2, u2, by rw [upd_ne hne]; exact hu2, r2⟩
  · by_cases q : b = a
    · rw [q, upd_same]
      exact fun q => nomatch q
    · rw [upd_ne q]
      exact d.ok.old b hb
  · obtain ⟨o', e1, e2⟩ := d.ok.lent b hb
    have q : b ≠ a := fun q => y (by rw [← q]; exact hb)
    exact ⟨o', e1, by rw [upd_ne q]; exact e2⟩
theorem Des.setSlot {g : Sl} {o : Option V} (i : Nat) (d : Des K B Γ m as σ F H) (h : g.ok K as F o) : Des K B (Γ.set i g) m as (σ.set i o) F H := ⟨d.sl.set i h, d.ok⟩
end
end G

/-! Core2: the judgements; names, constants, numbers, tests, statements. -/
namespace G
open PySem PySem.Spec PyProof.Rows L2
open PySem.W (Datum Tup T3)

/-! ### readings by meaning -/
def tEv (X : Cx) (e : Expr) : TE := fun σ H Q => ∀ pins s, Inv X pins σ H s → wpAny (model X.prog X.w) X.A (eval e X.env) (EP X pins σ Q) X.xe s
def tTs (X : Cx) (e : Expr) : TT := fun σ H Q => ∀ pins s, Inv X pins σ H s → wpAny (model X.prog X.w) X.A (isTrue e X.env (eval e X.env)) (TP X pins σ Q) X.xe s
def tWh (X : Cx) (e : Expr) : TT := fun σ H Q => ∀ whole pins s, Inv X pins σ H s → wpAny (model X.prog X.w) X.A (isTrue e X.env whole) (TP X pins σ Q) X.xe s
def tAr (X : Cx) (es : List Expr) : TA := fun σ H Q => ∀ pos pins s, Inv X pins σ H s → wpAny (model X.prog X.w) X.A (spliced (backTo pos (starEach es X.env))) (AP X pins σ Q) X.xe s
def tSt (X : Cx) (st : Stmt) : TS := fun D σ H => ∀ pins s, Inv X pins σ H s → wpAny (model X.prog X.w) X.A (exec st X.env) (SP X pins D) X.xe s
def tSs (X : Cx) (st : List Stmt) : TS := fun D σ H => ∀ pins s, Inv X pins σ H s → wpAny (model X.prog X.w) X.A (execs st X.env) (SP X pins D) X.xe s
section
variable {X : Cx} {e : Expr} {es : List Expr} {st : Stmt} {sts : List Stmt}
theorem peS : PE X e (tEv X e) := ⟨fun pins s _ _ _ I h => h pins s I⟩
theorem ptS : PT X e (tTs X e) := ⟨fun pins s _ _ _ I h => h pins s I⟩
theorem pwS : PW X e (tWh X e) := ⟨fun whole pins s _ _ _ I h => h whole pins s I⟩
theorem paS : PA X es (tAr X es) := ⟨fun pos pins s _ _ _ I h => h pos pins s I⟩
theorem psS : PS X st (tSt X st) := ⟨fun pins s _ _ _ I h => h pins s I⟩
theorem pssS : PSs X sts (tSs X sts) := ⟨fun pins s _ _ _ I h => h pins s I⟩
theorem tEv_of {t : TE} (h : PE X e t) {σ : L2.St} {H : Hp} {Q : VK} (q : t σ H Q) : tEv X e σ H Q := fun pins s I => h.run pins s σ H Q I q
theorem tTs_of {t : TT} (h : PT X e t) {σ : L2.St} {H : Hp} {Q : Bool → Hp → Prop} (q : t σ H Q) : tTs X e σ H Q := fun pins s I => h.run pins s σ H Q I q
theorem tWh_of {t : TT} (h : PW X e t) {σ : L2.St} {H : Hp} {Q : Bool → Hp → Prop} (q : t σ H Q) : tWh X e σ H Q := fun whole pins s I => h.run whole pins s σ H Q I q
theorem tAr_of {t : TA} (h : PA X es t) {σ : L2.St} {H : Hp} {Q : List V → Hp → Prop} (q : t σ H Q) : tAr X es σ H Q := fun pos pins s I => h.run pos pins s σ H Q I q
theorem tSt_of {t : TS} (h : PS X st t) {σ : L2.St} {H : Hp} {D : Ends} (q : t D σ H) : tSt X st D σ H := fun pins s I => h.run pins s σ H D I q
theorem tSs_of {t : TS} (h : PSs X sts t) {σ : L2.St} {H : Hp} {D : Ends} (q : t D σ H) : tSs X sts D σ H := fun pins s I => h.run pins s σ H D I q
end

/-! ### exceptions -/
def RepX (K : PySem.W.Frag) (H : Hp) (ex : Exn) (cls : Value) (d : Option Addr) : Prop := cls = .ref (He.ga K ex.cls) ∧
  match ex.arg with
  | none => d = none
  | some (f, i) => ∃ dd fs, d = some dd ∧ H dd = some (.xd fs) ∧ fs.lookup f = some (.int i)
abbrev PXT := Exn → List Sl → List MC → Prop
/-- no exception -/
abbrev nx0 : PXT := fun _ _ _ => False
def Xs (X : Cx) (B : Bs) (PX : PXT) (as : List Addr) (F : Hp) : Prop := ∃ W : WX, Takes X W ∧
  ∀ ex Γ m bs σ F' H cls d, Same F F' → Des X.K B Γ m (as ++ bs) σ F' H → RepX X.K H ex cls d → PX ex Γ m → W cls d σ H
theorem Xs.up {X : Cx} {B : Bs} {PX : PXT} {as : List Addr} {F N : Hp} (h : Xs X B PX as F) (e : Same F N) : Xs X B PX as N := by
  obtain ⟨W, t, k⟩ := h
  exact ⟨W, t, fun ex Γ m bs σ F' H cls d e' => k ex Γ m bs σ F' H cls d (e.trans e')⟩
theorem Xs.upA {X : Cx} {B : Bs} {PX : PXT} {as : List Addr} {F : Hp} (h : Xs X B PX as F) (bs : List Addr) : Xs X B PX (as ++ bs) F := by
  obtain ⟨W, t, k⟩ := h
  exact ⟨W, t, fun ex Γ m cs σ F' H cls d e' D => k ex Γ m (bs ++ cs) σ F' H cls d e' (by rw [← List.append_assoc]; exact D)⟩
theorem xs0 {X : Cx} {B : Bs} {as : List Addr} {F : Hp} : Xs X B nx0 as F := ⟨_, takes0, fun _ _ _ _ _ _ _ _ _ _ _ _ h => h.elim⟩

/-! ### judgements -/
section
variable (X : Cx) (B : Bs) (PX : PXT)
/-- e gives x -/
def WE {α : Type} [Py α] (e : Expr) (Γ : List Sl) (m : List MC) (P : α → List MC → Prop) : Prop :=
  ∀ as σ F H (Q : VK), Des X.K B Γ m as σ F H → Xs X B PX as F →
    (∀ x m' v N H2, Same F N → Des X.K B Γ m' as σ N H2 → Py.rep X.K x v N → P x m' → Q v H2) → tEv X e σ H Q
/-- a test -/
def WT (e : Expr) (Γ : List Sl) (m : List MC) (P : Bool → List MC → Prop) : Prop :=
  ∀ as σ F H (Q : Bool → Hp → Prop), Des X.K B Γ m as σ F H → Xs X B PX as F →
    (∀ b m' N H2, Same F N → Des X.K B Γ m' as σ N H2 → P b m' → Q b H2) → tTs X e σ H Q
def WW (e : Expr) (Γ : List Sl) (m : List MC) (P : Bool → List MC → Prop) : Prop :=
  ∀ as σ F H (Q : Bool → Hp → Prop), Des X.K B Γ m as σ F H → Xs X B PX as F →
    (∀ b m' N H2, Same F N → Des X.K B Γ m' as σ N H2 → P b m' → Q b H2) → tWh X e σ H Q
/-- arguments -/
def WA (es : List Expr) (Γ : List Sl) (m : List MC) (P : List Sl → List MC → Prop) : Prop :=
  ∀ as σ F H (Q : List V → Hp → Prop), Des X.K B Γ m as σ F H → Xs X B PX as F →
    (∀ Γa m' bs vs N H2, Same F N → Des X.K B Γ m' (as ++ bs) σ N H2 → slotsOk X.K (as ++ bs) N Γa vs → P Γa m' → Q vs H2) → tAr X es σ H Q
/-- e gives what g tells, perhaps a new thing that changes -/
def WG (e : Expr) (Γ : List Sl) (m : List MC) (P : Sl → List MC → Prop) : Prop :=
  ∀ as σ F H (Q : VK), Des X.K B Γ m as σ F H → Xs X B PX as F →
    (∀ g m' bs v N H2, Same F N → Des X.K B Γ m' (as ++ bs) σ N H2 → g.ok X.K (as ++ bs) N (some v) → P g m' → Q v H2) → tEv X e σ H Q
/-- what is wanted behind statements -/
structure De where
  nx : List Sl → List MC → Prop
  rt : Sl → List MC → Prop
  bk : List Sl → List MC → Prop := fun _ _ => False
  ct : List Sl → List MC → Prop := fun _ _ => False
structure EndsOk (as : List Addr) (F : Hp) (D : De) (E : Ends) : Prop where
  nx : ∀ Γ m bs σ N H, Same F N → Des X.K B Γ m (as ++ bs) σ N H → D.nx Γ m → E.nx σ H
  rt : ∀ g m bs v N H, Same F N → Ok X.K B (as ++ bs) m N H → g.ok X.K (as ++ bs) N (some v) → D.rt g m → E.rt v H
  bk : ∀ Γ m bs σ N H, Same F N → Des X.K B Γ m (as ++ bs) σ N H → D.bk Γ m → E.bk σ H
  ct : ∀ Γ m bs σ N H, Same F N → Des X.K B Γ m (as ++ bs) σ N H → D.ct Γ m → E.ct σ H
def WS (st : Stmt) (Γ : List Sl) (m : List MC) (D : De) : Prop :=
  ∀ as σ F H (E : Ends), Des X.K B Γ m as σ F H → Xs X B PX as F → EndsOk X B as F D E → tSt X st E σ H
def WSs (sts : List Stmt) (Γ : List Sl) (m : List MC) (D : De) : Prop :=
  ∀ as σ F H (E : Ends), Des X.K B Γ m as σ F H → Xs X B PX as F → EndsOk X B as F D E → tSs X sts E σ H
end
section
variable {X : Cx} {B : Bs} {PX : PXT} {Γ : List Sl} {m : List MC} {e a b : Expr} {es : List Expr} {pos : Pos} {α β γ : Type}
theorem EndsOk.up {as bs : List Addr} {F N : Hp} {D : De} {E : Ends} (h : EndsOk X B as F D E) (e : Same F N) : EndsOk X B (as ++ bs) N D E :=
  ⟨fun Γ m cs σ N' H e' d => h.nx Γ m (bs ++ cs) σ N' H (e.trans e') (by rw [← List.append_assoc]; exact d), fun g m cs v N' H e' d r => h.rt g m (bs ++ cs) v N' H (e.trans e') (by rw [← List.append_assoc]; exact d) (by rw [← List.append_assoc]; exact r),
    fun Γ m cs σ N' H e' d => h.bk Γ m (bs ++ cs) σ N' H (e.trans e') (by rw [← List.append_assoc]; exact d), fun Γ m cs σ N' H e' d => h.ct Γ m (bs ++ cs) σ N' H (e.trans e') (by rw [← List.append_assoc]; exact d)⟩
theorem EndsOk.up0 {as : List Addr} {F N : Hp} {D : De} {E : Ends} (h : EndsOk X B as F D E) (e : Same F N) : EndsOk X B as N D E :=
  ⟨fun Γ m cs σ N' H e' d => h.nx Γ m cs σ N' H (e.trans e') d, fun g m cs v N' H e' d => h.rt g m cs v N' H (e.trans e') d,
    fun Γ m cs σ N' H e' d => h.bk Γ m cs σ N' H (e.trans e') d, fun Γ m cs σ N' H e' d => h.ct Γ m cs σ N' H (e.trans e') d⟩
theorem des0 {K : PySem.W.Frag} {as : List Addr} {σ : L2.St} {F H : Hp} (d : Des K B Γ m as σ F H) : Des K B Γ m (as ++ []) σ F H := by
  rw [List.append_nil]
  exact d
/-! ### names, constants -/
theorem we_var [Py α] {i : Nat} {x : Str} {y : α} {P : α → List MC → Prop} (hN : X.N[i]? = some x) (hg : Γ[i]? = some (im y)) (h : P y m)
    (hv : Vis X.env.scope x := by first | exact Or.inl rfl | exact Or.inr (Or.inl rfl) | exact Or.inr (Or.inr rfl)) (hd : (x == ("__debug__" : Str)) = false := by decide)
    (hcd : (x == ("__classdict__" : Str)) = false := by decide) : WE X B PX (.Name x pos) Γ m P := fun as σ F H Q d hx k => by
  obtain ⟨o, ho, v, rfl, r⟩ := d.sl.get hg
  exact tEv_of (pe_var hN hv hd hcd) ⟨v, ho, k y m v F H (Same.refl F) d r h⟩
theorem we_const [Py α] {t : V} {x : α} {P : α → List MC → Prop} (he : PE X e (tC t)) (hr : ∀ F : Hp, Py.rep X.K x t F) (h : P x m) : WE X B PX e Γ m P := fun as σ F H Q d hx k =>
  tEv_of he (k x m t F H (Same.refl F) d (hr F) h)
theorem we_int {i : Int} {j : Nat} {P : Int → List MC → Prop} (h : P i m) : WE X B PX (.Constant (.int i) j pos) Γ m P := we_const pe_int (fun _ => rep_int.mpr rfl) h
theorem we_bool {i : Bool} {j : Nat} {P : Bool → List MC → Prop} (h : P i m) : WE X B PX (.Constant (.bool i) j pos) Γ m P := we_const pe_bl (fun _ => rep_bool.mpr rfl) h
theorem we_str {i : Str} {j : Nat} {P : Str → List MC → Prop} (h : P i m) : WE X B PX (.Constant (.str i) j pos) Γ m P := we_const pe_str (fun _ => rep_str.mpr rfl) h
theorem we_none {j : Nat} {P : Unit → List MC → Prop} (h : P () m) : WE X B PX (.Constant .none j pos) Γ m P := we_const pe_non (fun _ => rep_unit.mpr rfl) h
/-- a constant of the module -/
theorem we_glob [Py α] {x : Str} {v : V} {u : Value} {y : α} {P : α → List MC → Prop} (hm : X.mg x = some u) (r : RelV v u) (hr : ∀ F : Hp, Py.rep X.K y v F) (h : P y m) (hg : Gl X x := by rfl) (hd : (x == ("__debug__" : Str)) = false := by decide) : WE X B PX (.Name x pos) Γ m P :=
  we_const (pe_glob hg hm r hd) hr h
/-- weaken -/
theorem WE.imp [Py α] {P P' : α → List MC → Prop} (h : WE X B PX e Γ m P) (f : ∀ x m', P x m' → P' x m') : WE X B PX e Γ m P' := fun as σ F H Q d hx k =>
  h as σ F H Q d hx fun x m' v N H2 e' d' r p => k x m' v N H2 e' d' r (f x m' p)
/-- the same values by another type -/
theorem WE.as [Py α] [Py β] {P : β → List MC → Prop} (f : α → β) (hf : ∀ K x v F, Py.rep K x v F → Py.rep K (f x) v F) (h : WE X B PX e Γ m fun x m' => P (f x) m') : WE X B PX e Γ m P := fun as σ F H Q d hx k =>
  h as σ F H Q d hx fun x m' v N H2 e' d' r p => k (f x) m' v N H2 e' d' (hf _ _ _ _ r) p
theorem WE.dyn [DecidableEq α] [Datum α] {P : PyData → List MC → Prop} (h : WE X B PX e Γ m fun (x : α) m' => P (Datum.toD x) m') : WE X B PX e Γ m P := WE.as Datum.toD (fun _ _ _ _ r => r) h

/-! ### operators -/
/-- what a rule of values asks, told of mirror values -/
def RV2 [Py α] [Py β] [Py γ] (X : Cx) (B : Bs) (r : R2) (x : α) (y : β) (P : γ → Prop) : Prop :=
  ∀ Γ m as σ F H v w (Q : VK), Des X.K B Γ m as σ F H → Py.rep X.K x v F → Py.rep X.K y w F →
    (∀ z u N H2, Same F N → Des X.K B Γ m as σ N H2 → Py.rep X.K z u N → P z → Q u H2) → r v w H Q
theorem we_op [Py α] [Py β] [Py γ] {r : R2} {e : Expr} {P : γ → List MC → Prop} (he : ∀ ta tb, PE X a ta → PE X b tb → PE X e (tOp r ta tb))
    (h : WE X B PX a Γ m fun (x : α) m1 => WE X B PX b Γ m1 fun (y : β) m2 => RV2 X B r x y fun z => P z m2) : WE X B PX e Γ m P := fun as σ F H Q d hx k => by
  refine tEv_of (he _ _ peS peS) (h as σ F H _ d hx fun x m1 v N H1 e1 d1 r1 p1 => ?_)
  refine p1 as σ N H1 _ d1 (hx.up e1) fun y m2 w N2 H2 e2 d2 r2 p2 => ?_
  exact p2 Γ m2 as σ N2 H2 v w Q d2 (Py.up e2 r1) r2 fun z u N3 H3 e3 d3 r3 p3 => k z m2 u N3 H3 ((e1.trans e2).trans e3) d3 r3 p3
theorem rv_I0 {P : Int → Prop} {g : Int → Int → Int} {x y : Int} (h : P (g x y)) : RV2 X B (rI0 fun i j => .int (g i j)) x y P := fun Γ m as σ F H v w Q d r1 r2 k => by
  rw [rep_int] at r1 r2
  subst r1 r2
  exact ⟨x, y, rfl, rfl, k _ _ F H (Same.refl F) d (rep_int.mpr rfl) h⟩
theorem rv_I {P : Int → Prop} {C : Int → Int → Prop} {g : Int → Int → Int} {x y : Int} (hc : C x y) (h : P (g x y)) : RV2 X B (rI C fun i j => .int (g i j)) x y P := fun Γ m as σ F H v w Q d r1 r2 k => by
  rw [rep_int] at r1 r2
  subst r1 r2
  exact ⟨x, y, rfl, rfl, hc, k _ _ F H (Same.refl F) d (rep_int.mpr rfl) h⟩
theorem rv_B0 {P : Bool → Prop} {g : Int → Int → Bool} {x y : Int} (h : P (g x y)) : RV2 X B (rI0 fun i j => .bl (g i j)) x y P := fun Γ m as σ F H v w Q d r1 r2 k => by
  rw [rep_int] at r1 r2
  subst r1 r2
  exact ⟨x, y, rfl, rfl, k _ _ F H (Same.refl F) d (rep_bool.mpr rfl) h⟩
variable {P : Int → List MC → Prop} {PB : Bool → List MC → Prop}
theorem we_add (h : WE X B PX a Γ m fun (i : Int) m1 => WE X B PX b Γ m1 fun (j : Int) m2 => P (i + j) m2) : WE X B PX (.BinOp a .Add b pos) Γ m P :=
  we_op (fun _ _ => pe_op op_add) (h.imp fun _ _ h => h.imp fun _ _ h => rv_I0 (g := fun i j => i + j) h)
theorem we_sub (h : WE X B PX a Γ m fun (i : Int) m1 => WE X B PX b Γ m1 fun (j : Int) m2 => P (i - j) m2) : WE X B PX (.BinOp a .Sub b pos) Γ m P :=
  we_op (fun _ _ => pe_op op_sub) (h.imp fun _ _ h => h.imp fun _ _ h => rv_I0 (g := fun i j => i - j) h)
theorem we_mul (h : WE X B PX a Γ m fun (i : Int) m1 => WE X B PX b Γ m1 fun (j : Int) m2 => CMul i j ∧ P (i * j) m2) : WE X B PX (.BinOp a .Mult b pos) Γ m P :=
  we_op (fun _ _ => pe_op op_mul) (h.imp fun _ _ h => h.imp fun _ _ h => rv_I (g := fun i j => i * j) h.1 h.2)
theorem we_fdiv (h : WE X B PX a Γ m fun (i : Int) m1 => WE X B PX b Γ m1 fun (j : Int) m2 => CDiv i j ∧ P (i / j) m2) : WE X B PX (.BinOp a .FloorDiv b pos) Γ m P :=
  we_op (fun _ _ => pe_op op_fdiv) (h.imp fun _ _ h => h.imp fun _ _ h => rv_I (g := fun i j => i / j) h.1 h.2)
theorem we_mod (h : WE X B PX a Γ m fun (i : Int) m1 => WE X B PX b Γ m1 fun (j : Int) m2 => 0 < j ∧ P (i % j) m2) : WE X B PX (.BinOp a .Mod b pos) Γ m P :=
  we_op (fun _ _ => pe_op op_mod) (h.imp fun _ _ h => h.imp fun _ _ h => rv_I (g := fun i j => i % j) h.1 h.2)
theorem we_pow (h : WE X B PX a Γ m fun (i : Int) m1 => WE X B PX b Γ m1 fun (j : Int) m2 => CPow i j ∧ P (i ^ j.toNat) m2) : WE X B PX (.BinOp a .Pow b pos) Γ m P :=
  we_op (fun _ _ => pe_op op_pow) (h.imp fun _ _ h => h.imp fun _ _ h => rv_I (g := fun i j => i ^ j.toNat) h.1 h.2)
theorem we_shr (h : WE X B PX a Γ m fun (i : Int) m1 => WE X B PX b Γ m1 fun (j : Int) m2 => 0 ≤ j ∧ P (i / 2 ^ j.toNat) m2) : WE X B PX (.BinOp a .RShift b pos) Γ m P :=
  we_op (fun _ _ => pe_op op_shr) (h.imp fun _ _ h => h.imp fun _ _ h => rv_I (g := fun i j => i / 2 ^ j.toNat) h.1 h.2)
theorem we_and (h : WE X B PX a Γ m fun (i : Int) m1 => WE X B PX b Γ m1 fun (j : Int) m2 => P (Builtin.bitAnd i j) m2) : WE X B PX (.BinOp a .BitAnd b pos) Γ m P :=
  we_op (fun _ _ => pe_op op_and) (h.imp fun _ _ h => h.imp fun _ _ h => rv_I0 (g := fun i j => Builtin.bitAnd i j) h)
theorem we_neg (h : WE X B PX a Γ m fun (i : Int) m1 => P (-i) m1) : WE X B PX (.UnaryOp .USub a pos) Γ m P := fun as σ F H Q d hx k => by
  refine tEv_of (pe_un un_neg peS) (h as σ F H _ d hx fun i m1 v N H1 e1 d1 r1 p1 => ?_)
  rw [rep_int] at r1
  subst r1
  exact ⟨i, rfl, k _ m1 _ N H1 e1 d1 (rep_int.mpr rfl) p1⟩
/-! comparisons of numbers -/
theorem we_lt (h : WE X B PX a Γ m fun (i : Int) m1 => WE X B PX b Γ m1 fun (j : Int) m2 => PB (decide (i < j)) m2) : WE X B PX (.Compare a [.Lt] [b] pos) Γ m PB :=
  we_op (fun _ _ h1 h2 => pe_cmpR op_lt h1 h2 (nomark _)) (h.imp fun _ _ h => h.imp fun _ _ h => rv_B0 (g := fun i j => decide (i < j)) h)
theorem we_le (h : WE X B PX a Γ m fun (i : Int) m1 => WE X B PX b Γ m1 fun (j : Int) m2 => PB (decide (i ≤ j)) m2) : WE X B PX (.Compare a [.LtE] [b] pos) Γ m PB :=
  we_op (fun _ _ h1 h2 => pe_cmpR op_le h1 h2 (nomark _)) (h.imp fun _ _ h => h.imp fun _ _ h => rv_B0 (g := fun i j => decide (i ≤ j)) h)
theorem we_gt (h : WE X B PX a Γ m fun (i : Int) m1 => WE X B PX b Γ m1 fun (j : Int) m2 => PB (decide (j < i)) m2) : WE X B PX (.Compare a [.Gt] [b] pos) Γ m PB :=
  we_op (fun _ _ h1 h2 => pe_cmpR op_gt h1 h2 (nomark _)) (h.imp fun _ _ h => h.imp fun _ _ h => rv_B0 (g := fun i j => decide (j < i)) h)
theorem we_ge (h : WE X B PX a Γ m fun (i : Int) m1 => WE X B PX b Γ m1 fun (j : Int) m2 => PB (decide (j ≤ i)) m2) : WE X B PX (.Compare a [.GtE] [b] pos) Γ m PB :=
  we_op (fun _ _ h1 h2 => pe_cmpR op_ge h1 h2 (nomark _)) (h.imp fun _ _ h => h.imp fun _ _ h => rv_B0 (g := fun i j => decide (j ≤ i)) h)
/-! == and != of data -/
section
variable [DecidableEq α] [Datum α]
def rEqY (K : PySem.W.Frag) : R2 := fun x y H Q => ∃ d e, Dp K H x d ∧ Dp K H y e ∧ d.plain = true ∧ e.plain = true ∧ d.depth ≤ 64 ∧ Q (.bl (PyData.eqv d e)) H
def rNeY (K : PySem.W.Frag) : R2 := fun x y H Q => ∃ d e, Dp K H x d ∧ Dp K H y e ∧ d.plain = true ∧ e.plain = true ∧ d.depth ≤ 64 ∧ Q (.bl (!PyData.eqv d e)) H
theorem op_eqY (hu : X.A.units + 64 < cLine) : OpR X (compareOp .Eq) (rEqY X.K) := by
  intro pins s σ H x y v u Q I rx ry h
  obtain ⟨d, e, hd, he, sd, se, hz, q⟩ := h
  obtain ⟨as, r1⟩ := Dp.reads I d x v hd rx
  obtain ⟨bs, r2⟩ := Dp.reads I e y u he ry
  exact SeqAt.eq_plain r1 r2 sd se (by have := Nat.min_le_left d.depth e.depth; omega) ⟨.bl _, H, I, rfl, q⟩
theorem op_neY (hu : X.A.units + 64 < cLine) : OpR X (compareOp .NotEq) (rNeY X.K) := by
  intro pins s σ H x y v u Q I rx ry h
  obtain ⟨d, e, hd, he, sd, se, hz, q⟩ := h
  obtain ⟨as, r1⟩ := Dp.reads I d x v hd rx
  obtain ⟨bs, r2⟩ := Dp.reads I e y u he ry
  exact SeqAt.ne_plain r1 r2 sd se (by have := Nat.min_le_left d.depth e.depth; omega) ⟨.bl _, H, I, rfl, q⟩
theorem rv_eqY {P : Bool → Prop} {x y : α} (hz : Datum.depth α ≤ 64) (h : P (decide (x = y))) : RV2 X B (rEqY X.K) x y P := fun Γ m as σ F H v w Q d r1 r2 k =>
  ⟨_, _, Dq.dp _ _ (dq_up d.ok.sub _ _ r1), Dq.dp _ _ (dq_up d.ok.sub _ _ r2), Datum.plain x, Datum.plain y, Nat.le_trans (Datum.depth_le x) hz, k _ _ F H (Same.refl F) d (rep_bool.mpr rfl) (by rw [Datum.eqv]; exact h)⟩
theorem rv_neY {P : Bool → Prop} {x y : α} (hz : Datum.depth α ≤ 64) (h : P (decide (x ≠ y))) : RV2 X B (rNeY X.K) x y P := fun Γ m as σ F H v w Q d r1 r2 k =>
  ⟨_, _, Dq.dp _ _ (dq_up d.ok.sub _ _ r1), Dq.dp _ _ (dq_up d.ok.sub _ _ r2), Datum.plain x, Datum.plain y, Nat.le_trans (Datum.depth_le x) hz, k _ _ F H (Same.refl F) d (rep_bool.mpr rfl) (by rw [Datum.eqv, ← decide_not]; exact h)⟩
theorem we_eq (α : Type) [DecidableEq α] [Datum α] (hu : X.A.units + 64 < cLine) (h : WE X B PX a Γ m fun (i : α) m1 => WE X B PX b Γ m1 fun (j : α) m2 => PB (decide (i = j)) m2) (hz : Datum.depth α ≤ 64 := by decide) : WE X B PX (.Compare a [.Eq] [b] pos) Γ m PB :=
  we_op (fun _ _ h1 h2 => pe_cmpR (op_eqY hu) h1 h2 (nomark _)) (h.imp fun _ _ h => h.imp fun _ _ h => rv_eqY hz h)
theorem we_ne (α : Type) [DecidableEq α] [Datum α] (hu : X.A.units + 64 < cLine) (h : WE X B PX a Γ m fun (i : α) m1 => WE X B PX b Γ m1 fun (j : α) m2 => PB (decide (i ≠ j)) m2) (hz : Datum.depth α ≤ 64 := by decide) : WE X B PX (.Compare a [.NotEq] [b] pos) Γ m PB :=
  we_op (fun _ _ h1 h2 => pe_cmpR (op_neY hu) h1 h2 (nomark _)) (h.imp fun _ _ h => h.imp fun _ _ h => rv_neY hz h)
end

/-! ### tests -/
theorem wt_val (h : WE X B PX e Γ m PB) (he : ∀ whole, isTrue e X.env whole = (do let v ← whole; standAt e.pos; holding [v] (truthy v)) := by intro _; rfl) : WT X B PX e Γ m PB := fun as σ F H Q d hx k =>
  tTs_of (pt_val peS he) (h as σ F H _ d hx fun x m1 v N H1 e1 d1 r1 p1 => ⟨x, rep_bool.mp r1, k x m1 N H1 e1 d1 p1⟩)
theorem wt_ww (h : WW X B PX e Γ m PB) : WT X B PX e Γ m PB := fun as σ F H Q d hx k => tTs_of pwS.pt (h as σ F H Q d hx k)
theorem wt_not (h : WT X B PX a Γ m fun c m' => PB (!c) m') : WT X B PX (.UnaryOp .Not a pos) Γ m PB := fun as σ F H Q d hx k =>
  tTs_of (pt_not ptS) (h as σ F H _ d hx fun x m1 N H1 e1 d1 p1 => k _ m1 N H1 e1 d1 p1)
theorem ww_and1 (h : WT X B PX a Γ m PB) : WW X B PX (.BoolOp .And [a] pos) Γ m PB := fun as σ F H Q d hx k => tWh_of (pw_and1 ptS) (h as σ F H Q d hx k)
theorem ww_or1 (h : WT X B PX a Γ m PB) : WW X B PX (.BoolOp .Or [a] pos) Γ m PB := fun as σ F H Q d hx k => tWh_of (pw_or1 ptS) (h as σ F H Q d hx k)
theorem ww_and {rest : List Expr} (h : WT X B PX a Γ m fun c m' => match c with
    | true => WW X B PX (.BoolOp .And (b :: rest) pos) Γ m' PB
    | false => PB false m') : WW X B PX (.BoolOp .And (a :: b :: rest) pos) Γ m PB := fun as σ F H Q d hx k =>
  tWh_of (pw_and ptS pwS) (h as σ F H _ d hx fun c m1 N H1 e1 d1 p1 => by
    cases c with
    | true => exact iteT (p1 as σ N H1 Q d1 (hx.up e1) fun b m2 N2 H2 e2 d2 p2 => k b m2 N2 H2 (e1.trans e2) d2 p2)
    | false => exact iteF (k _ m1 N H1 e1 d1 p1))
theorem ww_or {rest : List Expr} (h : WT X B PX a Γ m fun c m' => match c with
    | true => PB true m'
    | false => WW X B PX (.BoolOp .Or (b :: rest) pos) Γ m' PB) : WW X B PX (.BoolOp .Or (a :: b :: rest) pos) Γ m PB := fun as σ F H Q d hx k =>
  tWh_of (pw_or ptS pwS) (h as σ F H _ d hx fun c m1 N H1 e1 d1 p1 => by
    cases c with
    | true => exact iteT (k _ m1 N H1 e1 d1 p1)
    | false => exact iteF (p1 as σ N H1 Q d1 (hx.up e1) fun b m2 N2 H2 e2 d2 p2 => k b m2 N2 H2 (e1.trans e2) d2 p2))
/-! .. as values -/
theorem we_not (h : WE X B PX a Γ m fun (c : Bool) m' => PB (!c) m') : WE X B PX (.UnaryOp .Not a pos) Γ m PB := fun as σ F H Q d hx k =>
  tEv_of (pe_not peS) (h as σ F H _ d hx fun c m1 v N H1 e1 d1 r1 p1 => ⟨c, rep_bool.mp r1, k _ m1 _ N H1 e1 d1 (rep_bool.mpr rfl) p1⟩)
theorem we_one {op : BoolOp} (h : WE X B PX a Γ m PB) : WE X B PX (.BoolOp op [a] pos) Γ m PB := fun as σ F H Q d hx k => tEv_of (pe_one peS) (h as σ F H Q d hx k)
theorem we_andV {rest : List Expr} (h : WE X B PX a Γ m fun (c : Bool) m' => match c with
    | true => WE X B PX (.BoolOp .And (b :: rest) pos) Γ m' PB
    | false => PB false m') : WE X B PX (.BoolOp .And (a :: b :: rest) pos) Γ m PB := fun as σ F H Q d hx k =>
  tEv_of (pe_and peS peS) (h as σ F H _ d hx fun c m1 v N H1 e1 d1 r1 p1 => ⟨c, rep_bool.mp r1, by
    cases c with
    | true => exact iteT (p1 as σ N H1 Q d1 (hx.up e1) fun b m2 v2 N2 H2 e2 d2 r2 p2 => k b m2 v2 N2 H2 (e1.trans e2) d2 r2 p2)
    | false => exact iteF (k _ m1 _ N H1 e1 d1 (rep_bool.mpr rfl) p1)⟩)
theorem we_orV {rest : List Expr} (h : WE X B PX a Γ m fun (c : Bool) m' => match c with
    | true => PB true m'
    | false => WE X B PX (.BoolOp .Or (b :: rest) pos) Γ m' PB) : WE X B PX (.BoolOp .Or (a :: b :: rest) pos) Γ m PB := fun as σ F H Q d hx k =>
  tEv_of (pe_or peS peS) (h as σ F H _ d hx fun c m1 v N H1 e1 d1 r1 p1 => ⟨c, rep_bool.mp r1, by
    cases c with
    | true => exact iteT (k _ m1 _ N H1 e1 d1 (rep_bool.mpr rfl) p1)
    | false => exact iteF (p1 as σ N H1 Q d1 (hx.up e1) fun b m2 v2 N2 H2 e2 d2 r2 p2 => k b m2 v2 N2 H2 (e1.trans e2) d2 r2 p2)⟩)
theorem WT.imp {P P' : Bool → List MC → Prop} (h : WT X B PX e Γ m P) (f : ∀ x m', P x m' → P' x m') : WT X B PX e Γ m P' := fun as σ F H Q d hx k =>
  h as σ F H Q d hx fun x m' N H2 e' d' p => k x m' N H2 e' d' (f x m' p)

/-! ### statements -/
variable {D : De} {st : Stmt} {rest : List Stmt}
theorem wss_nil (h : D.nx Γ m) : WSs X B PX [] Γ m D := fun as σ F H E d hx k => tSs_of pss_nil (k.nx Γ m [] σ F H (Same.refl F) (by rw [List.append_nil]; exact d) h)
theorem wss_cons (h : WS X B PX st Γ m { D with nx := fun Γ' m' => WSs X B PX rest Γ' m' D }) : WSs X B PX (st :: rest) Γ m D := fun as σ F H E d hx k =>
  tSs_of (pss_cons psS pssS) (h as σ F H _ d hx ⟨fun Γ' m' bs σ' N H' e' d' q => q (as ++ bs) σ' N H' E d' ((hx.up e').upA bs) (k.up e'), k.rt, k.bk, k.ct⟩)
theorem wss_one (h : WS X B PX st Γ m D) : WSs X B PX [st] Γ m D := fun as σ F H E d hx k => tSs_of (pss_one psS) (h as σ F H E d hx k)
theorem ws_pass (h : D.nx Γ m) : WS X B PX (.Pass pos) Γ m D := fun as σ F H E d hx k => tSt_of ps_pass (k.nx Γ m [] σ F H (Same.refl F) (des0 d) h)
theorem ws_break (h : D.bk Γ m) : WS X B PX (.Break pos) Γ m D := fun as σ F H E d hx k => tSt_of ps_break (k.bk Γ m [] σ F H (Same.refl F) (des0 d) h)
theorem ws_continue (h : D.ct Γ m) : WS X B PX (.Continue pos) Γ m D := fun as σ F H E d hx k => tSt_of ps_continue (k.ct Γ m [] σ F H (Same.refl F) (des0 d) h)
theorem ok0 {K : PySem.W.Frag} {as : List Addr} {F H : Hp} (d : Ok K B as m F H) : Ok K B (as ++ []) m F H := by
  rw [List.append_nil]
  exact d
theorem ws_retG (h : WG X B PX e Γ m D.rt) : WS X B PX (.Return (some e) pos) Γ m D := fun as σ F H E d hx k =>
  tSt_of (ps_ret peS) (h as σ F H _ d hx fun g m' bs v N H2 e' d' r p => k.rt g m' bs v N H2 e' d'.ok r p)
theorem wg_e [Py α] {P : Sl → List MC → Prop} (h : WE X B PX e Γ m fun (x : α) m' => P (im x) m') : WG X B PX e Γ m P := fun as σ F H Q d hx k =>
  h as σ F H Q d hx fun x m' v N H2 e' d' r p => k (im x) m' [] v N H2 e' (des0 d') ⟨v, rfl, r⟩ p
theorem ws_ret [Py α] (h : WE X B PX e Γ m fun (x : α) m' => D.rt (im x) m') : WS X B PX (.Return (some e) pos) Γ m D := ws_retG (wg_e h)
theorem ws_retN (h : D.rt (im ()) m) : WS X B PX (.Return none pos) Γ m D := fun as σ F H E d hx k =>
  tSt_of ps_retN (k.rt (im ()) m [] .non F H (Same.refl F) (ok0 d.ok) ⟨.non, rfl, rep_unit.mpr rfl⟩ h)
/-- a name that holds what changes -/
theorem wg_mu {i j : Nat} {x : Str} {P : Sl → List MC → Prop} (hN : X.N[i]? = some x) (hg : Γ[i]? = some (mu j)) (h : P (mu j) m)
    (hv : Vis X.env.scope x := by first | exact Or.inl rfl | exact Or.inr (Or.inl rfl) | exact Or.inr (Or.inr rfl)) (hd : (x == ("__debug__" : Str)) = false := by decide)
    (hcd : (x == ("__classdict__" : Str)) = false := by decide) : WG X B PX (.Name x pos) Γ m P := fun as σ F H Q d hx k => by
  obtain ⟨o, ho, r⟩ := d.sl.get hg
  obtain ⟨a, ha, rfl⟩ := id r
  exact tEv_of (pe_var hN hv hd hcd) ⟨.ref a, ho, k (mu j) m [] (.ref a) F H (Same.refl F) (des0 d) ((mu j).upA [] r) h⟩
theorem WG.imp {P P' : Sl → List MC → Prop} (h : WG X B PX e Γ m P) (f : ∀ x m', P x m' → P' x m') : WG X B PX e Γ m P' := fun as σ F H Q d hx k =>
  h as σ F H Q d hx fun x m' bs v N H2 e' d' r p => k x m' bs v N H2 e' d' r (f x m' p)
theorem ws_expr [Py α] (h : WE X B PX e Γ m fun (_ : α) m' => D.nx Γ m') (hs : swapsWith e none pos.line X.env = pure false := by rfl) : WS X B PX (.Expr e pos) Γ m D := fun as σ F H E d hx k =>
  tSt_of (ps_expr peS hs) (h as σ F H _ d hx fun x m' v N H2 e' d' r p => k.nx Γ m' [] σ N H2 e' (des0 d') p)
theorem ws_if {c : Expr} {s1 s2 : List Stmt} (h : WT X B PX c Γ m fun b m' => match b with
    | true => WSs X B PX s1 Γ m' D
    | false => WSs X B PX s2 Γ m' D) : WS X B PX (.If c s1 s2 pos) Γ m D := fun as σ F H E d hx k =>
  tSt_of (ps_if ptS pssS pssS) (h as σ F H _ d hx fun b m' N H2 e' d' p => by
    cases b with
    | true => exact iteT (p as σ N H2 E d' (hx.up e') (k.up0 e'))
    | false => exact iteF (p as σ N H2 E d' (hx.up e') (k.up0 e')))
/-- x = e -/
theorem ws_set [Py α] (hN : X.N.Nodup) {i : Nat} {x : Str} {pos' : Pos} (hi : X.N[i]? = some x) (h : WE X B PX e Γ m fun (y : α) m' => D.nx (Γ.set i (im y)) m')
    (hx : Loc X.env.scope x := by first | exact Or.inl rfl | exact Or.inr rfl) (hs : swapsWith e (some (.Name x pos')) pos.line X.env = pure false := by rfl)
    (hf : X.fn x = true ∨ X.env.scope.names.lookup x = some .local := by first | exact .inl rfl | exact .inr rfl | assumption) : WS X B PX (.Assign [.Name x pos'] e pos) Γ m D := fun as σ F H E d hxs k =>
  tSt_of (ps_set (i := i) hN hi hx peS hs hf) (h as σ F H _ d hxs fun y m' v N H2 e' d' r p => k.nx _ m' [] _ N H2 e' (des0 (d'.setSlot (g := im y) i ⟨v, rfl, r⟩)) p)
/-- x = e, whatever it is -/
theorem ws_setG (hN : X.N.Nodup) {i : Nat} {x : Str} {pos' : Pos} (hi : X.N[i]? = some x) (h : WG X B PX e Γ m fun g m' => D.nx (Γ.set i g) m')
    (hx : Loc X.env.scope x := by first | exact Or.inl rfl | exact Or.inr rfl) (hs : swapsWith e (some (.Name x pos')) pos.line X.env = pure false := by rfl)
    (hf : X.fn x = true ∨ X.env.scope.names.lookup x = some .local := by first | exact .inl rfl | exact .inr rfl | assumption) : WS X B PX (.Assign [.Name x pos'] e pos) Γ m D := fun as σ F H E d hxs k =>
  tSt_of (ps_set (i := i) hN hi hx peS hs hf) (h as σ F H _ d hxs fun g m' bs v N H2 e' d' r p => k.nx _ m' bs _ N H2 e' (d'.setSlot i r) p)
/-- weaken the state: slots forgotten -/
theorem WS.weak {Γ' : List Sl} (h : WS X B PX st Γ' m D) (hw : ∀ K as F σ, Slots K as F Γ σ → Slots K as F Γ' σ) : WS X B PX st Γ m D := fun as σ F H E d hx k => h as σ F H E ⟨hw _ _ _ _ d.sl, d.ok⟩ hx k
end
end G

/-! Core3: arguments, promises, calls, a def's body; freezing and lending. -/
namespace G
open PySem PySem.Spec PyProof.Rows L2
open PySem.W (Datum Tup T3)

/-! ### other numbers for the things that change -/
mutual
inductive Rn (ρ : Nat → Nat → Prop) : Sl → Sl → Prop
  | ind {g g' : Sl} (h : ∀ K as as' F o, g.ok K as F o → g'.ok K as' F o) : Rn ρ g g'
  | mu {i j : Nat} (h : ρ i j) : Rn ρ (mu i) (mu j)
  | tup {gs gs' : List Sl} (h : Rns ρ gs gs') : Rn ρ (tupS gs) (tupS gs')
inductive Rns (ρ : Nat → Nat → Prop) : List Sl → List Sl → Prop
  | nil : Rns ρ [] []
  | cons {g g' : Sl} {gs gs' : List Sl} (h : Rn ρ g g') (t : Rns ρ gs gs') : Rns ρ (g :: gs) (g' :: gs')
end
theorem ind_im {α : Type} [Py α] {x : α} : ∀ K as as' F o, (im x).ok K as F o → (im x).ok K as' F o := fun _ _ _ _ _ h => h
theorem Rn.im {ρ : Nat → Nat → Prop} {α : Type} [Py α] {x : α} : Rn ρ (im x) (im x) := .ind ind_im
section
variable {ρ : Nat → Nat → Prop} {K : PySem.W.Frag} {as as' : List Addr} {F : Hp}
mutual
theorem Rn.ok (hρ : ∀ i j a, ρ i j → as[i]? = some a → as'[j]? = some a) : ∀ {g g' : Sl}, Rn ρ g g' → ∀ {o : Option V}, g.ok K as F o → g'.ok K as' F o
  | _, _, .ind h, _, r => h _ _ _ _ _ r
  | _, _, .mu h, _, ⟨a, ha, e⟩ => ⟨a, hρ _ _ _ h ha, e⟩
  | _, _, .tup h, _, ⟨t, vs, e, q, r⟩ => ⟨t, vs, e, q, Rns.ok hρ h r⟩
theorem Rns.ok (hρ : ∀ i j a, ρ i j → as[i]? = some a → as'[j]? = some a) : ∀ {gs gs' : List Sl}, Rns ρ gs gs' → ∀ {vs : List V}, slotsOk K as F gs vs → slotsOk K as' F gs' vs
  | _, _, .nil, [], r => r
  | _, _, .nil, _ :: _, r => r.elim
  | _, _, .cons h t, [], r => r.elim
  | _, _, .cons h t, _ :: _, r => ⟨Rn.ok hρ h r.1, Rns.ok hρ t r.2⟩
end
end

/-! ### promises -/
structure Fs where
  out : List Sl → List MC → (Sl → List MC → Prop) → (Exn → List MC → Prop) → Prop
abbrev bs0 (F H : Hp) (as : List Addr) : Bs := { F0 := F, H0 := H, A0 := as }
def spF (K : PySem.W.Frag) (f : Fs) : Sp := fun vs H Q E => ∃ (Γ : List Sl) (m : List MC) (as : List Addr) (F : Hp) (P : Sl → List MC → Prop) (PE : Exn → List MC → Prop),
  Ok K (bs0 F H as) as m F H ∧ slotsOk K as F Γ vs ∧ f.out Γ m P PE ∧
  (∀ g m' bs v N H2, Ok K (bs0 F H as) (as ++ bs) m' N H2 → g.ok K (as ++ bs) N (some v) → P g m' → Q v H2) ∧
  ∀ ex m' bs cls d N H2, Ok K (bs0 F H as) (as ++ bs) m' N H2 → RepX K H2 ex cls d → PE ex m' → E cls d H2
theorem slotsOk_len {K : PySem.W.Frag} {as : List Addr} {F : Hp} : ∀ {gs : List Sl} {vs : List V}, slotsOk K as F gs vs → gs.length = vs.length
  | [], [], _ => rfl
  | _ :: _, _ :: _, h => by rw [List.length_cons, List.length_cons, slotsOk_len h.2]
  | [], _ :: _, h => h.elim
  | _ :: _, [], h => h.elim
theorem slotsOk_app {K : PySem.W.Frag} {as : List Addr} {F : Hp} : ∀ {gs gs' : List Sl} {vs vs' : List V}, slotsOk K as F gs vs → slotsOk K as F gs' vs' → slotsOk K as F (gs ++ gs') (vs ++ vs')
  | [], _, [], _, _, k => k
  | _ :: _, _, _ :: _, _, h, k => ⟨h.1, slotsOk_app h.2 k⟩
  | [], _, _ :: _, _, h, _ => h.elim
  | _ :: _, _, [], _, h, _ => h.elim
/-- what the caller's things are behind a call: those at js anew, further ones -/
def setAll (m : List MC) (js : List Nat) (cs : List MC) : List MC := match js with
  | [] => m
  | j :: js => match cs with
    | [] => m
    | c :: cs => setAll (m.set j c) js cs
def joinM (m : List MC) (js : List Nat) (m2 : List MC) : List MC := setAll m js (m2.take js.length) ++ m2.drop js.length
theorem setAll_nil (m : List MC) (cs : List MC) : setAll m [] cs = m := by rw [setAll]
theorem setAll_len : ∀ (m : List MC) (js : List Nat) (cs : List MC), (setAll m js cs).length = m.length
  | _, [], _ => by rw [setAll_nil]
  | m, j :: js, c :: cs => by
    show (setAll (m.set j c) js cs).length = _
    rw [setAll_len, List.length_set]
  | _, _ :: _, [] => rfl
theorem setAll_other : ∀ (m : List MC) (js : List Nat) (cs : List MC) (k : Nat), k ∉ js → (setAll m js cs)[k]? = m[k]?
  | _, [], _, _, _ => by rw [setAll_nil]
  | m, j :: js, c :: cs, k, h => by
    show (setAll (m.set j c) js cs)[k]? = _
    rw [setAll_other _ js cs k (fun z => h (List.mem_cons_of_mem _ z)), List.getElem?_set_ne (fun z => h (by rw [z]; exact List.mem_cons_self))]
  | _, _ :: _, [], _, _ => rfl
theorem setAll_at : ∀ (m : List MC) (js : List Nat) (cs : List MC) (i j : Nat) (c : MC), js.Nodup → js[i]? = some j → cs[i]? = some c → j < m.length → (setAll m js cs)[j]? = some c
  | _, [], _, i, _, _, _, h, _, _ => by simp at h
  | _, _ :: _, [], i, _, _, _, _, h, _ => by simp at h
  | m, j0 :: js, c0 :: cs, 0, j, c, nd, h1, h2, hl => by
    have e1 : j0 = j := Option.some.inj h1
    have e2 : c0 = c := Option.some.inj h2
    subst e1 e2
    show (setAll (m.set j0 c0) js cs)[j0]? = _
    rw [setAll_other _ js cs j0 (List.nodup_cons.mp nd).1, List.getElem?_set_self hl]
  | m, j0 :: js, c0 :: cs, i + 1, j, c, nd, h1, h2, hl => by
    show (setAll (m.set j0 c0) js cs)[j]? = _
    exact setAll_at (m.set j0 c0) js cs i j c (List.nodup_cons.mp nd).2 (by simpa using h1) (by simpa using h2) (by rw [List.length_set]; exact hl)
/-- the things at js -/
def AtAll (as : List Addr) : List Nat → List Addr → Prop
  | [], [] => True
  | j :: js, a :: cs => as[j]? = some a ∧ AtAll as js cs
  | _, _ => False
def MAll (m : List MC) : List Nat → List MC → Prop
  | [], [] => True
  | j :: js, c :: cs => m[j]? = some c ∧ c.live = true ∧ MAll m js cs
  | _, _ => False
theorem AtAll.get {as : List Addr} : ∀ {js : List Nat} {cs : List Addr}, AtAll as js cs → ∀ {i : Nat} {a : Addr}, cs[i]? = some a → ∃ j, js[i]? = some j ∧ as[j]? = some a
  | [], [], _, i, _, e => by simp at e
  | j :: _, _ :: _, h, 0, a, e => by
    have e' := Option.some.inj (show some _ = some a from e)
    subst e'
    exact ⟨j, rfl, h.1⟩
  | _ :: js, _ :: cs, h, i + 1, a, e => AtAll.get (js := js) (cs := cs) h.2 (i := i) (by simpa using e)
  | [], _ :: _, h, _, _, _ => h.elim
  | _ :: _, [], h, _, _, _ => h.elim
theorem AtAll.get' {as : List Addr} : ∀ {js : List Nat} {cs : List Addr}, AtAll as js cs → ∀ {i j : Nat}, js[i]? = some j → ∃ a, cs[i]? = some a ∧ as[j]? = some a
  | [], [], _, i, _, e => by simp at e
  | j0 :: _, a :: _, h, 0, j, e => by
    have e' := Option.some.inj (show some _ = some j from e)
    subst e'
    exact ⟨a, rfl, h.1⟩
  | _ :: js, _ :: cs, h, i + 1, a, e => AtAll.get' (js := js) (cs := cs) h.2 (i := i) (by simpa using e)
  | [], _ :: _, h, _, _, _ => h.elim
  | _ :: _, [], h, _, _, _ => h.elim
theorem AtAll.len {as : List Addr} : ∀ {js : List Nat} {cs : List Addr}, AtAll as js cs → js.length = cs.length
  | [], [], _ => rfl
  | _ :: _, _ :: _, h => by rw [List.length_cons, List.length_cons, AtAll.len h.2]
  | [], _ :: _, h => h.elim
  | _ :: _, [], h => h.elim
theorem MAll.len {m : List MC} : ∀ {js : List Nat} {cs : List MC}, MAll m js cs → js.length = cs.length
  | [], [], _ => rfl
  | _ :: _, _ :: _, h => by rw [List.length_cons, List.length_cons, MAll.len h.2.2]
  | [], _ :: _, h => h.elim
  | _ :: _, [], h => h.elim
theorem MAll.get {m : List MC} : ∀ {js : List Nat} {cs : List MC}, MAll m js cs → ∀ {i j : Nat}, js[i]? = some j → ∃ c, cs[i]? = some c ∧ m[j]? = some c ∧ c.live = true
  | [], [], _, i, _, e => by simp at e
  | j0 :: _, c :: _, h, 0, j, e => by
    have e' := Option.some.inj (show some _ = some j from e)
    subst e'
    exact ⟨c, rfl, h.1, h.2.1⟩
  | _ :: js, _ :: cs, h, i + 1, a, e => MAll.get (js := js) (cs := cs) h.2.2 (i := i) (by simpa using e)
  | [], _ :: _, h, _, _, _ => h.elim
  | _ :: _, [], h, _, _, _ => h.elim
theorem atAll_of {K : PySem.W.Frag} {B : Bs} {as : List Addr} {m : List MC} {F H : Hp} (d : Ok K B as m F H) : ∀ {js : List Nat} {cs : List MC}, MAll m js cs → ∃ bs, AtAll as js bs
  | [], [], _ => ⟨[], trivial⟩
  | j :: js, c :: cs, h => by
    obtain ⟨bs, hb⟩ := atAll_of d h.2.2
    have hl : j < as.length := by
      rw [d.len]
      exact (List.getElem?_eq_some_iff.mp h.1).1
    exact ⟨as[j] :: bs, List.getElem?_eq_getElem hl, hb⟩
  | [], _ :: _, h => h.elim
  | _ :: _, [], h => h.elim
section
variable {K : PySem.W.Frag} {B : Bs} {as : List Addr} {m : List MC} {F N H H2 : Hp} {Γ : List Sl} {σ : L2.St}
/-- from the caller: what a callee begins with -/
theorem Ok.lend {js : List Nat} {cs : List MC} {bs : List Addr} (d : Ok K B as m F H) (hm : MAll m js cs) (ha : AtAll as js bs) (nd : js.Nodup) : Ok K (bs0 F H bs) bs cs F H where
  keep := fun b o e _ => e
  stay := fun b e => e
  sub0 := Same.refl F
  sub := d.sub
  fresh := fun b n z => absurd z n
  len := by rw [← ha.len, hm.len]
  nod := by
    refine List.pairwise_iff_getElem.mpr fun i k hi hk hik e => ?_
    obtain ⟨j1, h1, h2⟩ := ha.get (List.getElem?_eq_getElem hi)
    obtain ⟨j2, h3, h4⟩ := ha.get (List.getElem?_eq_getElem hk)
    rw [e] at h2
    have q1 := List.getElem?_eq_some_iff.mp h2
    have q2 := List.getElem?_eq_some_iff.mp h4
    have ej : j1 = j2 := (List.getElem_inj d.nod).mp (q1.2.trans q2.2.symm)
    subst ej
    have q3 := List.getElem?_eq_some_iff.mp h1
    have q4 := List.getElem?_eq_some_iff.mp h3
    have := (List.getElem_inj nd).mp (q3.2.trans q4.2.symm)
    omega
  org := fun a h => .inl h
  chg := fun i a c e1 e2 l => by
    obtain ⟨j, h1, h2⟩ := ha.get e1
    obtain ⟨c', h3, h4, h5⟩ := hm.get h1
    rw [e2] at h3
    cases h3
    obtain ⟨z, _, q⟩ := d.chg j a c h2 h4 l
    exact ⟨z, fun q => (nomatch q), q⟩
  old := fun a h => by
    obtain ⟨i, hi⟩ := List.getElem?_of_mem h
    obtain ⟨j, _, h2⟩ := ha.get hi
    exact d.old a (List.mem_of_getElem? h2)
  lent := fun a h => nomatch h
/-- .. and what the caller has behind it -/
theorem Ok.back {js : List Nat} {cs m2 : List MC} {bs bs2 : List Addr} (d : Ok K B as m F H) (hm : MAll m js cs) (ha : AtAll as js bs) (nd : js.Nodup) (e : Ok K (bs0 F H bs) (bs ++ bs2) m2 N H2) (hl : (m2.take js.length).all (·.live) = true) :
    Same F N ∧ Ok K B (as ++ bs2) (joinM m js m2) N H2 := by
  have ml : m2.length = js.length + bs2.length := by
    have := e.len
    rw [List.length_append, ← ha.len] at this
    exact this.symm
  have sub : ∀ a ∈ bs, ∃ j, j ∈ js ∧ as[j]? = some a := fun a h => by
    obtain ⟨i, hi⟩ := List.getElem?_of_mem h
    obtain ⟨j, h1, h2⟩ := ha.get hi
    exact ⟨j, List.mem_of_getElem? h1, h2⟩
  have subm : ∀ a ∈ bs, a ∈ as := fun a h => let ⟨j, _, h2⟩ := sub a h; List.mem_of_getElem? h2
  have live : ∀ i, i < js.length → ∃ c, m2[i]? = some c ∧ c.live = true := fun i hi => by
    have h2 : i < m2.length := by omega
    refine ⟨m2[i], List.getElem?_eq_getElem h2, ?_⟩
    have h3 : (m2.take js.length)[i]? = some m2[i] := by rw [List.getElem?_take, if_pos hi, List.getElem?_eq_getElem h2]
    exact List.all_eq_true.mp hl _ (List.mem_of_getElem? h3)
  have bsN : ∀ a ∈ bs, N a = none := fun a h => by
    obtain ⟨i, hi⟩ := List.getElem?_of_mem h
    have hil : i < js.length := by rw [ha.len]; exact (List.getElem?_eq_some_iff.mp hi).1
    obtain ⟨c, hc, lc⟩ := live i hil
    exact (e.chg i a c (by rw [List.getElem?_append_left (List.getElem?_eq_some_iff.mp hi).1]; exact hi) hc lc).1
  have fr2 : ∀ a ∈ bs2, H a = none := fun a h => by
    rcases e.org a (List.mem_append_right _ h) with q | q
    · have := (List.nodup_append.mp e.nod).2.2 a q a h
      exact absurd rfl this
    · exact q
  have borb : ∀ b ∈ B.bor, b ∉ bs := fun b hb hb2 => by
    obtain ⟨j, hj, h2⟩ := sub b hb2
    obtain ⟨i, hi⟩ := List.getElem?_of_mem hj
    obtain ⟨c, _, h4, h5⟩ := hm.get hi
    exact (d.chg j b c h2 h4 h5).2.1 hb
  refine ⟨e.sub0, ?_, ?_, d.sub0.trans e.sub0, e.sub, ?_, ?_, ?_, ?_, ?_, ?_, ?_⟩
  · intro b o hb hA
    refine e.keep b o (d.keep b o hb hA) fun z => ?_
    rcases d.org b (subm b z) with q | q
    · exact hA q
    · rw [q] at hb
      cases hb
  · intro b h
    exact d.stay b (e.stay b h)
  · intro b n z
    cases q : F b with
    | some o => exact d.fresh b (by rw [q]; exact fun q => nomatch q) z
    | none =>
      rcases e.fresh b n q with h | h
      · exact .inl (d.stay b h)
      · exact absurd (bsN b h) n
  · unfold joinM
    rw [List.length_append, List.length_append, setAll_len, List.length_drop, d.len]
    omega
  · rw [List.nodup_append]
    refine ⟨d.nod, (List.nodup_append.mp e.nod).2.1, fun a h b hb q => ?_⟩
    subst q
    exact d.old a h (fr2 a hb)
  · intro a h
    rcases List.mem_append.mp h with h | h
    · exact d.org a h
    · exact .inr (d.stay a (fr2 a h))
  · intro k a c e1 e2 l
    unfold joinM at e2
    by_cases hk : k < as.length
    · rw [List.getElem?_append_left hk] at e1
      rw [List.getElem?_append_left (by rw [setAll_len, ← d.len]; exact hk)] at e2
      by_cases hj : k ∈ js
      · obtain ⟨i, hi⟩ := List.getElem?_of_mem hj
        have hil := (List.getElem?_eq_some_iff.mp hi).1
        obtain ⟨c2, hc2, lc2⟩ := live i hil
        have q := setAll_at m js (m2.take js.length) i k c2 nd hi (by rw [List.getElem?_take, if_pos hil]; exact hc2) (by rw [← d.len]; exact hk)
        rw [q] at e2
        cases e2
        obtain ⟨a2, h1, h2⟩ := ha.get' hi
        rw [e1] at h2
        cases h2
        obtain ⟨z, _, u, hu, r⟩ := e.chg i a c (by rw [List.getElem?_append_left (List.getElem?_eq_some_iff.mp h1).1]; exact h1) hc2 l
        obtain ⟨c3, h3, h4, h5⟩ := hm.get hi
        exact ⟨z, (d.chg k a c3 e1 h4 h5).2.1, u, hu, r⟩
      · rw [setAll_other m js _ k hj] at e2
        obtain ⟨z, y, u, hu, r⟩ := d.chg k a c e1 e2 l
        have na : a ∉ bs := fun h => by
          obtain ⟨j, h1, h2⟩ := sub a h
          have q1 := List.getElem?_eq_some_iff.mp e1
          have q2 := List.getElem?_eq_some_iff.mp h2
          have ej : k = j := (List.getElem_inj d.nod).mp (q1.2.trans q2.2.symm)
          subst ej
          exact hj h1
        refine ⟨?_, y, u, e.keep a u hu na, c.up e.sub0 r⟩
        cases q : N a with
        | none => rfl
        | some o =>
          rcases e.fresh a (by rw [q]; exact fun q => nomatch q) z with h | h
          · have h' : H a = none := h
            rw [h'] at hu
            cases hu
          · exact absurd h na
    · have hk' := Nat.le_of_not_lt hk
      rw [List.getElem?_append_right hk'] at e1
      rw [List.getElem?_append_right (by rw [setAll_len, ← d.len]; exact hk'), setAll_len, ← d.len, List.getElem?_drop] at e2
      obtain ⟨z, _, u, hu, r⟩ := e.chg (js.length + (k - as.length)) a c (by rw [List.getElem?_append_right (by rw [← ha.len]; omega), ← ha.len]; rw [show js.length + (k - as.length) - js.length = k - as.length by omega]; exact e1) e2 l
      refine ⟨z, fun hb => ?_, u, hu, r⟩
      obtain ⟨o, _, q⟩ := d.lent a hb
      rw [fr2 a (List.mem_of_getElem? e1)] at q
      cases q
  · intro a h
    rcases List.mem_append.mp h with h | h
    · exact fun q => d.old a h (e.stay a q)
    · exact e.old a (List.mem_append_right _ h)
  · intro a h
    obtain ⟨o, e1, e2⟩ := d.lent a h
    exact ⟨o, e1, e.keep a o e2 (borb a h)⟩
end
/-- the caller's number of a callee's thing -/
def rhoC (js : List Nat) (n : Nat) (i j : Nat) : Prop := js[i]? = some j ∨ ∃ t, i = js.length + t ∧ j = n + t
theorem rhoC_ok {as bs bs2 : List Addr} {js : List Nat} (ha : AtAll as js bs) : ∀ i j a, rhoC js as.length i j → (bs ++ bs2)[i]? = some a → (as ++ bs2)[j]? = some a := by
  rintro i j a (h | ⟨t, rfl, rfl⟩) e
  · obtain ⟨b, h1, h2⟩ := ha.get' h
    rw [List.getElem?_append_left (List.getElem?_eq_some_iff.mp h1).1, h1] at e
    cases e
    exact get_app bs2 h2
  · rw [List.getElem?_append_right (by rw [← ha.len]; omega), ← ha.len, show js.length + t - js.length = t by omega] at e
    rw [List.getElem?_append_right (by omega), show as.length + t - as.length = t by omega]
    exact e
section
variable {X : Cx} {B : Bs} {PX : PXT} {Γ : List Sl} {m : List MC} {e a b : Expr} {es : List Expr} {pos p : Pos} {α β γ : Type} {P : Sl → List MC → Prop} {PA' : List Sl → List MC → Prop}
theorem wa_nil (h : PA' [] m) : WA X B PX [] Γ m PA' := fun as σ F H Q d hx k => tAr_of pa_nil (k [] m [] [] F H (Same.refl F) (des0 d) trivial h)
theorem wa_cons (h : WG X B PX e Γ m fun g m1 => WA X B PX es Γ m1 fun Γa m2 => PA' (g :: Γa) m2) (hs : starEach (e :: es) X.env = (false, eval e X.env) :: starEach es X.env := by rfl) : WA X B PX (e :: es) Γ m PA' := fun as σ F H Q d hx k =>
  tAr_of (pa_cons peS paS hs) (h as σ F H _ d hx fun g m1 bs v N H1 e1 d1 r1 p1 => p1 (as ++ bs) σ N H1 _ d1 ((hx.up e1).upA bs) fun Γa m2 bs2 vs N2 H2 e2 d2 r2 p2 => by
    rw [List.append_assoc] at d2 r2
    refine k (g :: Γa) m2 (bs ++ bs2) (v :: vs) N2 H2 (e1.trans e2) d2 ⟨?_, r2⟩ p2
    have q := g.upA bs2 (g.up e2 r1)
    rw [List.append_assoc] at q
    exact q)
/-- an argument that is a plain value -/
theorem wa_e [Py α] (h : WE X B PX e Γ m fun (x : α) m1 => WA X B PX es Γ m1 fun Γa m2 => PA' (im x :: Γa) m2) (hs : starEach (e :: es) X.env = (false, eval e X.env) :: starEach es X.env := by rfl) : WA X B PX (e :: es) Γ m PA' :=
  wa_cons (wg_e h) hs
/-- the callee runs, what it lets out is taken -/
theorem run_fnZ {CX : CXT} {k : Nat} {f : Addr} {fd : FuncData} {ps : List Str} {sp : Sp} {ds : List Value} {dvs : List V} {E : XK} {pins : List (Addr × Obj)} {σ : L2.St} {H : Hp} {s : Shared} {Q : VK} {us : List Value} {vs : List V}
    (F : FnOk X.prog X.w X.K X.mg X.base CX k f fd ps sp) (hr : Room k X.A) (hb : Binds X.K fd ps ds) (hd : Vals dvs ds) (hx : PassesAt CX X σ E)
    (I : Inv X pins σ H s) (r : Vals vs us) (h : sp (vs ++ dvs) H Q E) : wpAny (model X.prog X.w) X.A (call (.ref f) us) (EP X pins σ Q) X.xe s := by
  have r2 := r.append hd
  have hl : (us ++ ds).length = ps.length := by rw [← r2.length]; exact F.len _ _ _ _ h
  refine wpAny_call (codeAny_mono (F.run X.A X.stack s H ⟨us, []⟩ (us ++ ds) (vs ++ dvs) Q E hr I.env0 (hb s us I.kIn hl) r2 h) fun r s' hq => ?_)
  cases r with
  | error e => exact hx pins H s e s' I hq
  | ok fl =>
    cases fl with
    | ret u => exact I.after hq
    | next => exact hq.elim
    | brk => exact hq.elim
    | cont => exact hq.elim
theorem pe_callZ {CX : CXT} {k : Nat} {f : Addr} {fd : FuncData} {ps : List Str} {sp : Sp} {ds : List Value} {dvs : List V} {x : Str} {ta : TA} (F : FnOk X.prog X.w X.K X.mg X.base CX k f fd ps sp) (hr : Room k X.A) (hm : X.mg x = some (.ref f)) (hk : PySem.W.keepIn X.K (.ref f) = true)
    (hb : Binds X.K fd ps ds) (hd : Vals dvs ds) (ha : PA X (e :: es) ta) (hg : Gl X x := by rfl) (hdb : (x == ("__debug__" : Str)) = false := by decide) (he : starEach (e :: es) X.env = (false, eval e X.env) :: starEach es X.env := by rfl) (hpl : (backTo pos (starEach es X.env)).any (·.1) = false := by rfl) :
    PE X (.Call (.Name x p) (e :: es) [] pos) (fun σ H Q => ta σ H fun vs H1 => ∃ E, PassesAt CX X σ E ∧ sp (vs ++ dvs) H1 Q E) := by
  refine ⟨fun pins s σ H Q I h => wpAny_Call_Name_kw (ld_glob I hg hm ?_ hdb)⟩
  refine PySem.W.callWith_K (h₀ := X.base) I.ok.mod.kin hk (thn (ha.run pos pins s σ H _ I h) fun us s1 ⟨vs, H1, I1, r, E, hx, q⟩ => ⟨I1.kIn, ?_⟩) he hpl
  exact run_fnZ F hr hb hd hx I1 r q
/-- what a call asks of the promise: js the things that are handed on, Γc how the callee sees the arguments -/
def CallOk (PX : PXT) (Γ : List Sl) (fs : Fs) (Γd : List Sl) (P : Sl → List MC → Prop) (Γa : List Sl) (m1 : List MC) : Prop :=
  ∃ (js : List Nat) (cs : List MC) (Γc : List Sl), js.Nodup ∧ MAll m1 js cs ∧ Rns (fun j i => js[i]? = some j) Γa Γc ∧
    fs.out (Γc ++ Γd) cs (fun g m2 => (m2.take js.length).all (·.live) = true ∧ ∃ g', Rn (rhoC js m1.length) g g' ∧ P g' (joinM m1 js m2))
      fun ex m2 => (m2.take js.length).all (·.live) = true ∧ PX ex Γ (joinM m1 js m2)
theorem call_sp {fs : Fs} {Γd Γa : List Sl} {m1 : List MC} {dvs vs : List V} {as bs : List Addr} {σ : L2.St} {F N H1 : Hp} {Q : VK} (hdv : ∀ as F, slotsOk X.K as F Γd dvs) (hx : Xs X B PX as F)
    (k : ∀ g m' bs v N H2, Same F N → Des X.K B Γ m' (as ++ bs) σ N H2 → g.ok X.K (as ++ bs) N (some v) → P g m' → Q v H2) (e1 : Same F N) (d1 : Des X.K B Γ m1 (as ++ bs) σ N H1) (r1 : slotsOk X.K (as ++ bs) N Γa vs) (c : CallOk PX Γ fs Γd P Γa m1) :
    ∃ E, PassesAt (L2.CX X.prog X.w) X σ E ∧ spF X.K fs (vs ++ dvs) H1 Q E := by
  obtain ⟨js, cs, Γc, nd, hm, hr, ho⟩ := c
  obtain ⟨W, tk, hW⟩ := hx
  obtain ⟨as2, ha⟩ := atAll_of d1.ok hm
  refine ⟨L2.WE W σ, passAt tk σ, Γc ++ Γd, cs, as2, N, _, _, d1.ok.lend hm ha nd, slotsOk_app (Rns.ok (fun j i a h e => ?_) hr r1) (hdv _ _), ho, ?_, ?_⟩
  · obtain ⟨b, h1, h2⟩ := ha.get' h
    rw [e] at h2
    cases h2
    exact h1
  · rintro g m' bs' v N2 H2 e2 r2 ⟨hl, g', hg, p⟩
    obtain ⟨s2, o2⟩ := d1.ok.back hm ha nd e2 hl
    rw [← d1.ok.len] at hg
    have r3 := Rn.ok (rhoC_ok (bs2 := bs') ha) hg r2
    have sl2 := (d1.sl.up s2).upA bs'
    rw [List.append_assoc] at o2 r3 sl2
    exact k g' _ (bs ++ bs') v N2 H2 (e1.trans s2) ⟨sl2, o2⟩ r3 p
  · rintro ex m' bs' cls dd N2 H2 e2 r2 ⟨hl, p⟩
    obtain ⟨s2, o2⟩ := d1.ok.back hm ha nd e2 hl
    have sl2 := (d1.sl.up s2).upA bs'
    rw [List.append_assoc] at o2 sl2
    exact hW ex Γ _ (bs ++ bs') σ N2 H2 cls dd (e1.trans s2) ⟨sl2, o2⟩ r2 p
/-- A CALL of a def -/
theorem wg_call {fs : Fs} {k : Nat} {f : Addr} {fd : FuncData} {ps : List Str} {ds : List Value} {dvs : List V} {Γd : List Sl} {x : Str} (Gf : FnOk X.prog X.w X.K X.mg X.base (L2.CX X.prog X.w) k f fd ps (spF X.K fs)) (hr : Room k X.A)
    (hm : X.mg x = some (.ref f)) (hk : PySem.W.keepIn X.K (.ref f) = true) (hb : Binds X.K fd ps ds) (hd : Vals dvs ds) (hdv : ∀ as F, slotsOk X.K as F Γd dvs) (ha : WA X B PX (e :: es) Γ m (CallOk PX Γ fs Γd P))
    (hg : Gl X x := by rfl) (hdb : (x == ("__debug__" : Str)) = false := by decide) (he : starEach (e :: es) X.env = (false, eval e X.env) :: starEach es X.env := by rfl) (hpl : (backTo pos (starEach es X.env)).any (·.1) = false := by rfl) :
    WG X B PX (.Call (.Name x p) (e :: es) [] pos) Γ m P := fun as σ F H Q d hx k =>
  tEv_of (pe_callZ Gf hr hm hk hb hd paS hg hdb he hpl) (ha as σ F H _ d hx fun Γa m1 bs vs N H1 e1 d1 r1 c => call_sp hdv hx k e1 d1 r1 c)
/-- a value where nothing that changes has come -/
theorem WG.typed [Py α] {P : α → List MC → Prop} (h : WG X B PX e Γ m fun g m' => ∃ x, g = im x ∧ m'.length = m.length ∧ P x m') : WE X B PX e Γ m P := fun as σ F H Q d hx k =>
  h as σ F H Q d hx fun g m' bs v N H2 e' d' r ⟨x, eg, hl, p⟩ => by
    subst eg
    obtain ⟨w, ew, r'⟩ := r
    cases ew
    have hb : bs = [] := by
      have h1 := d'.ok.len
      have h2 := d.ok.len
      rw [List.length_append] at h1
      exact List.eq_nil_of_length_eq_zero (by omega)
    subst hb
    rw [List.append_nil] at d'
    exact k x m' v N H2 e' d' r' p
end

/-! ### a def's body -/
def rhoR (n : Nat) (os : List Nat) (i j : Nat) : Prop := (i < n ∧ i = j) ∨ ∃ t, os[t]? = some i ∧ j = n + t
/-- what is handed back: the first n things, and those at os -/
def Ret (n : Nat) (P : Sl → List MC → Prop) (g : Sl) (m' : List MC) : Prop := ∃ (os : List Nat) (cs : List MC) (g' : Sl), os.Nodup ∧ (∀ j ∈ os, n ≤ j) ∧ MAll m' os cs ∧ Rn (rhoR n os) g g' ∧ P g' (m'.take n ++ cs)
theorem ret_im {α : Type} [Py α] {n : Nat} {P : Sl → List MC → Prop} {x : α} {m' : List MC} (h : P (im x) (m'.take n)) : Ret n P (im x) m' := ⟨[], [], im x, List.nodup_nil, (fun _ h => nomatch h), trivial, Rn.im, by rw [List.append_nil]; exact h⟩
theorem Ok.drop {K : PySem.W.Frag} {B : Bs} {as : List Addr} {m : List MC} {F H : Hp} {n : Nat} {os : List Nat} {cs : List MC} (d : Ok K B as m F H) (hA : as.take n = B.A0) (hn : n ≤ as.length) (hm : MAll m os cs) (nd : os.Nodup) (ho : ∀ j ∈ os, n ≤ j) :
    ∃ bs, AtAll as os bs ∧ Ok K B (B.A0 ++ bs) (m.take n ++ cs) F H := by
  obtain ⟨bs, ha⟩ := atAll_of d hm
  have pick : ∀ k a, (B.A0 ++ bs)[k]? = some a → ∃ j, as[j]? = some a ∧ ((k < n ∧ k = j) ∨ ∃ t, os[t]? = some j ∧ k = n + t) := fun k a e => by
    rw [← hA] at e
    have hl : (as.take n).length = n := by rw [List.length_take]; omega
    by_cases hk : k < n
    · rw [List.getElem?_append_left (by rw [hl]; exact hk), List.getElem?_take, if_pos hk] at e
      exact ⟨k, e, .inl ⟨hk, rfl⟩⟩
    · rw [List.getElem?_append_right (by rw [hl]; exact Nat.le_of_not_lt hk), hl] at e
      obtain ⟨j, h1, h2⟩ := ha.get e
      exact ⟨j, h2, .inr ⟨k - n, h1, by omega⟩⟩
  have mem : ∀ a ∈ B.A0 ++ bs, a ∈ as := fun a h => by
    obtain ⟨k, hk⟩ := List.getElem?_of_mem h
    obtain ⟨j, hj, _⟩ := pick k a hk
    exact List.mem_of_getElem? hj
  refine ⟨bs, ha, d.keep, d.stay, d.sub0, d.sub, d.fresh, ?_, ?_, fun a h => d.org a (mem a h), ?_, fun a h => d.old a (mem a h), d.lent⟩
  · rw [List.length_append, List.length_append, ← hA, List.length_take, List.length_take, ← ha.len, ← hm.len, d.len]
  · refine List.pairwise_iff_getElem.mpr fun i k hi hk hik e => ?_
    obtain ⟨j1, h1, q1⟩ := pick i _ (List.getElem?_eq_getElem hi)
    obtain ⟨j2, h2, q2⟩ := pick k _ (List.getElem?_eq_getElem hk)
    rw [e] at h1
    have z1 := List.getElem?_eq_some_iff.mp h1
    have z2 := List.getElem?_eq_some_iff.mp h2
    have ej : j1 = j2 := (List.getElem_inj d.nod).mp (z1.2.trans z2.2.symm)
    subst ej
    rcases q1 with ⟨q1, q3⟩ | ⟨t1, q1, q3⟩
    · rcases q2 with ⟨q2, q4⟩ | ⟨t2, q2, q4⟩
      · omega
      · have := ho j1 (List.mem_of_getElem? q2)
        omega
    · rcases q2 with ⟨q2, q4⟩ | ⟨t2, q2, q4⟩
      · have := ho j1 (List.mem_of_getElem? q1)
        omega
      · have z3 := List.getElem?_eq_some_iff.mp q1
        have z4 := List.getElem?_eq_some_iff.mp q2
        have := (List.getElem_inj nd).mp (z3.2.trans z4.2.symm)
        omega
  · intro k a c e1 e2 l
    obtain ⟨j, h1, q1⟩ := pick k a e1
    refine d.chg j a c h1 ?_ l
    have hl : (m.take n).length = n := by rw [List.length_take, ← d.len]; omega
    rcases q1 with ⟨q1, rfl⟩ | ⟨t, q1, rfl⟩
    · rw [List.getElem?_append_left (by rw [hl]; exact q1), List.getElem?_take, if_pos q1] at e2
      exact e2
    · rw [List.getElem?_append_right (by rw [hl]; omega), hl, show n + t - n = t by omega] at e2
      obtain ⟨c', h3, h4, _⟩ := hm.get q1
      rw [e2] at h3
      cases h3
      exact h4
/-- A DEF keeps its promise: N its names, n what it is handed to change -/
theorem fn_ok {P : Program} {w : World} {K : PySem.W.Frag} {mg : Str → Option Value} {base : Heap} {x qual : Str} {params : Arguments} {body : List Stmt} {scope : Scope} {dvs : List V} {kws : List (Str × V)} {f : Addr} {fd : FuncData} {N ps : List Str} {k : Nat} {fs : Fs}
    (F : FunD K x qual params body scope dvs kws f fd) (S : FnScope N ps scope) (len : ∀ Γ m P PE, fs.out Γ m P PE → Γ.length = ps.length)
    (hbody : ∀ (cdv : Value) (A : Around) (outer : List Env) (s : Shared) (H : Hp) (E : XK) (B : Bs) (Γ : List Sl) (m : List MC) (Pr : Sl → List MC → Prop) (PE : Exn → List MC → Prop), Room k (A.deeper (envOfC qual scope s.heap.objs.size f cdv)) → fs.out Γ m Pr PE →
      WSs (cxOf (L2.CX P w) P w K mg base N qual scope f cdv A outer s H E) B (fun ex _ m' => PE ex (m'.take m.length)) body (Γ ++ List.replicate (N.length - Γ.length) un) m ⟨fun _ m' => Ret m.length Pr (im ()) m', Ret m.length Pr, fun _ _ => False, fun _ _ => False⟩) :
    FnOk P w K mg base (L2.CX P w) (k + 1) f fd ps (spF K fs) := by
  refine F.ok S (fun vs H Q E h => ?_) (fun cdv A outer s H vs Q E hr h => ?_)
  · obtain ⟨Γ, m, as, F', Pr, PE, o, r, ho, _, _⟩ := h
    rw [← slotsOk_len r]
    exact len Γ m Pr PE ho
  · obtain ⟨Γ, m, as, F', Pr, PE, o, r, ho, kr, ke⟩ := h
    refine ⟨_, pssS, ?_⟩
    have hl := slotsOk_len r
    have sl : Slots K as F' (Γ ++ List.replicate (N.length - Γ.length) un) (L2.start N vs) := by
      unfold L2.start
      have h1 : ∀ {gs : List Sl} {vs : List V}, slotsOk K as F' gs vs → Slots K as F' gs (vs.map some) := by
        intro gs
        induction gs with
        | nil =>
          intro vs h
          cases vs with
          | nil => exact .nil
          | cons _ _ => exact h.elim
        | cons g gs ih =>
          intro vs h
          cases vs with
          | nil => exact h.elim
          | cons v vs => exact .cons h.1 (ih h.2)
      have h2 : ∀ n : Nat, Slots K as F' (List.replicate n un) (List.replicate n none) := by
        intro n
        induction n with
        | zero => exact .nil
        | succ n ih =>
          rw [List.replicate_succ, List.replicate_succ]
          exact .cons trivial ih
      rw [hl]
      have app : ∀ {gs gs' : List Sl} {σ σ' : L2.St}, Slots K as F' gs σ → Slots K as F' gs' σ' → Slots K as F' (gs ++ gs') (σ ++ σ') := by
        intro gs gs' σ σ' h h'
        induction h with
        | nil => exact h'
        | cons x _ ih => exact .cons x ih
      exact app (h1 r) (h2 _)
    have fin : ∀ {g : Sl} {m' : List MC} {bs : List Addr} {v : V} {N' H' : Hp}, Ok K (bs0 F' H as) (as ++ bs) m' N' H' → g.ok K (as ++ bs) N' (some v) → Ret m.length Pr g m' → Q v H' := by
      rintro g m' bs v N' H' d rg ⟨os, cs, g', nd, hos, hm, hg, p⟩
      have hn : m.length = as.length := o.len.symm
      have hA : (as ++ bs).take m.length = (bs0 F' H as).A0 := by
        rw [hn]
        exact List.take_left' rfl
      obtain ⟨cs', ha, d'⟩ := d.drop hA (by rw [List.length_append]; omega) hm nd hos
      refine kr g' _ cs' v N' H' d' (Rn.ok ?_ hg rg) p
      rintro i j a (⟨h1, rfl⟩ | ⟨t, h1, rfl⟩) e
      · rw [List.getElem?_append_left (by omega)] at e
        rw [List.getElem?_append_left (by omega)]
        exact e
      · obtain ⟨a', h2, h3⟩ := ha.get' h1
        rw [e] at h3
        cases h3
        rw [List.getElem?_append_right (by omega), hn, show as.length + t - as.length = t by omega]
        exact h2
    refine hbody cdv A outer s H E (bs0 F' H as) Γ m Pr PE hr ho as (L2.start N vs) F' H _ ⟨sl, o⟩ ⟨fun cls d _ H => E cls d H, takes_of rfl rfl rfl rfl, ?_⟩ ⟨?_, ?_, ?_, ?_⟩
    · intro ex Γ' m' bs σ F2 H2 cls d _ D rx p
      have hn : m.length = as.length := o.len.symm
      have hA : (as ++ bs).take m.length = (bs0 F' H as).A0 := by
        rw [hn]
        exact List.take_left' rfl
      obtain ⟨cs', ha, d'⟩ := D.ok.drop (os := []) (cs := []) hA (by rw [List.length_append]; omega) trivial List.nodup_nil fun _ h => nomatch h
      rw [List.append_nil] at d'
      exact ke ex _ cs' cls d F2 H2 d' rx p
    · intro Γ' m' bs σ N' H' _ D p
      exact fin (g := im ()) D.ok ⟨.non, rfl, rep_unit.mpr rfl⟩ p
    · intro g m' bs v N' H' _ D rg p
      exact fin D rg p
    · intro _ _ _ _ _ _ _ _ h
      exact h.elim
    · intro _ _ _ _ _ _ _ _ h
      exact h.elim
end G

/-! Core4: freezing, lending; tuples, lists, places, lengths; built-in calls; lists that change. -/
namespace G
open PySem PySem.Spec PyProof.Rows L2
open PySem.W (Datum Tup T3)

section
variable {K : PySem.W.Frag} {B : Bs} {as : List Addr} {m : List MC} {F N H H2 : Hp} {Γ : List Sl} {σ : L2.St}
/-- the j-th thing is frozen -/
theorem Ok.freeze {j : Nat} {a : Addr} {c : MC} (d : Ok K B as m F H) (ha : as[j]? = some a) (hc : m[j]? = some c) (hl : c.live = true) :
    ∃ u, Same F (upd F a u) ∧ c.ok K a F u ∧ Ok K B as (m.set j gone) (upd F a u) H := by
  obtain ⟨z, y, u, hu, r⟩ := d.chg j a c ha hc hl
  have hs : Same F (upd F a u) := fun b o q => by
    rw [upd_ne (ne_of_none q z)]
    exact q
  refine ⟨u, hs, r, d.keep, d.stay, d.sub0.trans hs, fun b o q => ?_, fun b n e => ?_, by rw [List.length_set]; exact d.len, d.nod, d.org, fun k b c2 e1 e2 l => ?_, d.old, d.lent⟩
  · by_cases e : b = a
    · subst e
      rw [upd_same] at q
      rw [← q]
      exact hu
    · rw [upd_ne e] at q
      exact d.sub b o q
  · by_cases q : b = a
    · subst q
      exact (d.org b (List.mem_of_getElem? ha)).symm
    · rw [upd_ne q] at n
      exact d.fresh b n e
  · by_cases hk : k = j
    · subst hk
      rw [List.getElem?_set_self (List.getElem?_eq_some_iff.mp hc).1] at e2
      cases e2
      cases l
    · rw [List.getElem?_set_ne (Ne.symm hk)] at e2
      obtain ⟨z2, y2, u2, hu2, r2⟩ := d.chg k b c2 e1 e2 l
      have hne : b ≠ a := fun q => by
        subst q
        have h1 := (List.getElem?_eq_some_iff.mp e1)
        have h2 := (List.getElem?_eq_some_iff.mp ha)
        exact hk ((List.getElem_inj d.nod).mp (h1.2.trans h2.2.symm))
      exact ⟨by rw [upd_ne hne]; exact z2, y2, u2, hu2, c2.up hs r2⟩
end
/-- how a thing reads once it is frozen -/
def Fz (c : MC) (g : Sl) : Prop := ∀ K as F a u, c.ok K a F u → F a = some u → g.ok K as F (some (.ref a))
theorem fz_lst {α : Type} [DecidableEq α] [Datum α] {xs : List α} : Fz (lst xs) (im xs) := fun K as F a u ⟨vs, h, r⟩ e => ⟨_, rfl, rep_list.mpr ⟨a, vs, rfl, by rw [e, h], r⟩⟩
section
variable {X : Cx} {B : Bs} {PX : PXT} {Γ : List Sl} {m : List MC} {e a b : Expr} {es : List Expr} {pos p : Pos} {α β γ : Type} {D : De} {sts : List Stmt}
/-- the thing that slot i holds changes no more -/
theorem wss_freeze (i j : Nat) {c : MC} {g : Sl} (hg : Γ[i]? = some (mu j)) (hc : m[j]? = some c) (hz : Fz c g) (h : WSs X B PX sts (Γ.set i g) (m.set j gone) D) (hl : c.live = true := by rfl) : WSs X B PX sts Γ m D := fun as σ F H E d hx k => by
  obtain ⟨o, ho, a, ha, rfl⟩ := d.sl.get hg
  obtain ⟨u, hs, r, ok⟩ := d.ok.freeze ha hc hl
  refine h as σ _ H E ⟨?_, ok⟩ (hx.up hs) (k.up0 hs)
  have q := (d.sl.up hs).set (g := g) (o := some (.ref a)) i (hz _ _ _ a u (c.up hs r) upd_same)
  have e1 : σ.set i (some (V.ref a)) = σ := by
    refine List.ext_getElem? fun n => ?_
    by_cases hn : n = i
    · subst hn
      rw [List.getElem?_set_self (List.getElem?_eq_some_iff.mp ho).1, ho]
    · rw [List.getElem?_set_ne (Ne.symm hn)]
  rw [e1] at q
  exact q
/-- a value that is new and changes, frozen at once -/
theorem frz_k [Py α] {P : α → List MC → Prop} {as : List Addr} {σ : L2.St} {F H : Hp} {Q : VK} (d : Des X.K B Γ m as σ F H)
    (k : ∀ x m' v N H2, Same F N → Des X.K B Γ m' as σ N H2 → Py.rep X.K x v N → P x m' → Q v H2) :
    ∀ g m' bs v N H2, Same F N → Des X.K B Γ m' (as ++ bs) σ N H2 → g.ok X.K (as ++ bs) N (some v) → (∃ c x m1, g = mu m.length ∧ m' = m1 ++ [c] ∧ m1.length = m.length ∧ c.live = true ∧ Fz c (im x) ∧ P x m1) → Q v H2 :=
  fun g m' bs v N H2 e' d' r ⟨c, x, m1, eg, em, hl, lv, hz, p⟩ => by
    subst eg em
    obtain ⟨a, ha, ev⟩ := r
    have ev' := Option.some.inj ev
    subst ev'
    have hc : (m1 ++ [c])[m.length]? = some c := by rw [List.getElem?_append_right (by omega), hl, Nat.sub_self]; rfl
    obtain ⟨u, hs, r, ok⟩ := d'.ok.freeze ha hc lv
    have hlen : bs.length = 1 := by
      have h1 := d'.ok.len
      have h2 := d.ok.len
      rw [List.length_append, List.length_append, List.length_cons, List.length_nil] at h1
      omega
    have hA : (as ++ bs).take as.length = as := List.take_left' rfl
    obtain ⟨w, ew, rw'⟩ := hz X.K [] _ a u (c.up hs r) upd_same
    cases ew
    have em : ((m1 ++ [c]).set m.length gone).take as.length = m1 := by
      rw [d.ok.len, ← hl, List.set_append_right _ _ (Nat.le_refl _), List.take_left' rfl]
    -- the last thing is left out
    have ok2 : Ok X.K B as m1 (upd N a u) H2 := by
      have nda := (List.nodup_append.mp ok.nod).1
      refine ⟨ok.keep, ok.stay, ok.sub0, ok.sub, ok.fresh, by rw [d.ok.len, hl], nda, fun b hb => ok.org b (List.mem_append_left _ hb), fun k b c2 e1 e2 l => ?_, fun b hb => ok.old b (List.mem_append_left _ hb), ok.lent⟩
      refine ok.chg k b c2 (get_app bs e1) ?_ l
      have hk : k < m1.length := (List.getElem?_eq_some_iff.mp e2).1
      rw [← hl, List.set_append_right _ _ (Nat.le_refl _), List.getElem?_append_left hk]
      exact e2
    refine k x m1 (.ref a) _ H2 (e'.trans hs) ⟨?_, ok2⟩ rw' p
    exact (d.sl.up (e'.trans hs))
theorem WG.frz [Py α] {P : α → List MC → Prop} (h : WG X B PX e Γ m fun g m' => ∃ c x m1, g = mu m.length ∧ m' = m1 ++ [c] ∧ m1.length = m.length ∧ c.live = true ∧ Fz c (im x) ∧ P x m1) : WE X B PX e Γ m P := fun as σ F H Q d hx k =>
  h as σ F H Q d hx (frz_k d k)
/-- slots while all that changes is lent -/
inductive LendR (m : List MC) : List Sl → List Sl → Prop
  | nil : LendR m [] []
  | keep {g : Sl} {gs gs' : List Sl} (t : LendR m gs gs') : LendR m (g :: gs) (g :: gs')
  | thing {j : Nat} {c : MC} {g : Sl} {gs gs' : List Sl} (hc : m[j]? = some c) (hl : c.live = true) (hz : Fz c g) (t : LendR m gs gs') : LendR m (mu j :: gs) (g :: gs')
  | tup {hs hs' gs gs' : List Sl} (h : LendR m hs hs') (t : LendR m gs gs') : LendR m (tupS hs :: gs) (tupS hs' :: gs')
def lentH (as : List Addr) (F H : Hp) : Hp := fun b => if b ∈ as then H b else F b
theorem lend_one {K : PySem.W.Frag} {B : Bs} {as : List Addr} {F H : Hp} {j : Nat} {c : MC} {g : Sl} {o : Option V} (ok : Ok K B as m F H) (hs : Same F (lentH as F H)) (hc : m[j]? = some c) (hl : c.live = true) (hz : Fz c g) (x : (mu j).ok K as F o) : g.ok K as (lentH as F H) o := by
  obtain ⟨a, ha, e⟩ := x
  obtain ⟨z, _, u, hu, r⟩ := ok.chg j a c ha hc hl
  rw [e]
  refine hz _ _ _ a u (c.up hs r) ?_
  unfold lentH
  rw [if_pos (List.mem_of_getElem? ha)]
  exact hu
theorem lend_slotsOk {K : PySem.W.Frag} {B : Bs} {as : List Addr} {F H : Hp} (ok : Ok K B as m F H) (hs : Same F (lentH as F H)) {Γ Γ' : List Sl} (hr : LendR m Γ Γ') : ∀ {vs : List V}, slotsOk K as F Γ vs → slotsOk K as (lentH as F H) Γ' vs := by
  induction hr with
  | nil =>
    intro vs h
    cases vs with
    | nil => trivial
    | cons _ _ => exact h.elim
  | keep t ih =>
    intro vs h
    cases vs with
    | nil => exact h.elim
    | cons v vs => exact ⟨Sl.up _ hs h.1, ih h.2⟩
  | thing hc hl hz t ih =>
    intro vs h
    cases vs with
    | nil => exact h.elim
    | cons v vs => exact ⟨lend_one ok hs hc hl hz h.1, ih h.2⟩
  | tup hh t ih1 ih2 =>
    intro vs h
    cases vs with
    | nil => exact h.elim
    | cons v vs =>
      obtain ⟨⟨t, ws, e, q, r⟩, h2⟩ := h
      exact ⟨⟨t, ws, e, sqT_up hs q, ih1 r⟩, ih2 h2⟩
theorem lend_slots {K : PySem.W.Frag} {B : Bs} {as : List Addr} {F H : Hp} (ok : Ok K B as m F H) (hs : Same F (lentH as F H)) {Γ Γ' : List Sl} (hr : LendR m Γ Γ') : ∀ {σ : L2.St}, Slots K as F Γ σ → Slots K as (lentH as F H) Γ' σ := by
  induction hr with
  | nil =>
    intro σ h
    cases h
    exact .nil
  | keep t ih =>
    intro σ h
    cases h with
    | cons x y => exact .cons (Sl.up _ hs x) (ih y)
  | thing hc hl hz t ih =>
    intro σ h
    cases h with
    | cons x y => exact .cons (lend_one ok hs hc hl hz x) (ih y)
  | tup hh t ih1 ih2 =>
    intro σ h
    cases h with
    | cons x y =>
      obtain ⟨t, ws, e, q, r⟩ := x
      exact .cons ⟨t, ws, e, sqT_up hs q, lend_slotsOk ok hs hh r⟩ (ih2 y)
/-- e reads what changes; its value is plain -/
theorem we_lend [Py α] [Imm α] {Γ' : List Sl} {P : α → List MC → Prop} (hr : LendR m Γ Γ') (h : ∀ B', WE X B' nx0 e Γ' (m.map fun _ => gone) fun x _ => P x m) : WE X B PX e Γ m P := fun as σ F H Q d hx k => by
  have hs : Same F (lentH as F H) := fun b o q => by
    unfold lentH
    by_cases hb : b ∈ as
    · rw [if_pos hb]
      exact d.ok.sub b o q
    · rw [if_neg hb]
      exact q
  have ok' : Ok X.K { F0 := B.F0, H0 := B.H0, A0 := B.A0, bor := as ++ B.bor, Hb := H } as (m.map fun _ => gone) (lentH as F H) H := by
    refine ⟨d.ok.keep, d.ok.stay, d.ok.sub0.trans hs, fun b o q => ?_, fun b n z => ?_, by rw [List.length_map]; exact d.ok.len, d.ok.nod, d.ok.org, fun j a c e1 e2 l => ?_, d.ok.old, fun a ha => ?_⟩
    · unfold lentH at q
      by_cases hb : b ∈ as
      · rw [if_pos hb] at q
        exact q
      · rw [if_neg hb] at q
        exact d.ok.sub b o q
    · by_cases hb : b ∈ as
      · exact (d.ok.org b hb).symm
      · unfold lentH at n
        rw [if_neg hb] at n
        exact d.ok.fresh b n z
    · rw [List.getElem?_map] at e2
      cases q : m[j]? with
      | none => rw [q] at e2; cases e2
      | some c' =>
        rw [q] at e2
        have e3 : gone = c := Option.some.inj e2
        subst e3
        cases l
    · rcases List.mem_append.mp ha with ha | ha
      · cases q : H a with
        | none => exact absurd q (d.ok.old a ha)
        | some o => exact ⟨o, q, rfl⟩
      · obtain ⟨o, _, q⟩ := d.ok.lent a ha
        exact ⟨o, q, q⟩
  refine h _ as σ _ H Q ⟨lend_slots d.ok hs hr d.sl, ok'⟩ xs0 fun x m' v N H2 e' d' r p => ?_
  have lt : ∀ a, a ∈ as ++ B.bor → H2 a = H a := fun a ha => by
    obtain ⟨o, h1, h2⟩ := d'.ok.lent a ha
    have h1' : H a = some o := h1
    rw [h2, h1']
  refine k x m v F H2 (Same.refl F) ⟨d.sl, ?_⟩ (Imm.free r) p
  refine ⟨d'.ok.keep, d'.ok.stay, d.ok.sub0, (hs.trans e').trans d'.ok.sub, d.ok.fresh, d.ok.len, d.ok.nod, d.ok.org, fun j a c e1 e2 l => ?_, fun a ha => by rw [lt a (List.mem_append_left _ ha)]; exact d.ok.old a ha, fun a ha => ?_⟩
  · obtain ⟨z, y, u, hu, r⟩ := d.ok.chg j a c e1 e2 l
    exact ⟨z, y, u, by rw [lt a (List.mem_append_left _ (List.mem_of_getElem? e1))]; exact hu, r⟩
  · obtain ⟨o, h1, h2⟩ := d.ok.lent a ha
    exact ⟨o, h1, by rw [lt a (List.mem_append_right _ ha)]; exact h2⟩
end

/-! ### tuples and lists that are written -/
section
variable {X : Cx} {B : Bs} {PX : PXT} {Γ : List Sl} {m : List MC} {e a b c : Expr} {es : List Expr} {pos p : Pos} {α β γ : Type}
/-- items of one type -/
def WL [Py α] (X : Cx) (B : Bs) (PX : PXT) (es : List Expr) (Γ : List Sl) (m : List MC) (P : List α → List MC → Prop) : Prop :=
  ∀ as σ F H (Q : List V → Hp → Prop), Des X.K B Γ m as σ F H → Xs X B PX as F →
    (∀ xs m' vs N H2, Same F N → Des X.K B Γ m' as σ N H2 → Paired (fun x v => Py.rep X.K x v N) xs vs → P xs m' → Q vs H2) → tAr X es σ H Q
theorem wl_nil [Py α] {P : List α → List MC → Prop} (h : P [] m) : WL X B PX [] Γ m P := fun as σ F H Q d hx k => tAr_of pa_nil (k [] m [] F H (Same.refl F) d .nil h)
theorem paired_up [Py α] {K : PySem.W.Frag} {F N : Hp} (e : Same F N) {xs : List α} {vs : List V} (h : Paired (fun x v => Py.rep K x v F) xs vs) : Paired (fun x v => Py.rep K x v N) xs vs := by
  induction h with
  | nil => exact .nil
  | cons x _ ih => exact .cons (Py.up e x) ih
theorem wl_cons [Py α] {P : List α → List MC → Prop} (h : WE X B PX e Γ m fun (x : α) m1 => WL X B PX es Γ m1 fun xs m2 => P (x :: xs) m2) (hs : starEach (e :: es) X.env = (false, eval e X.env) :: starEach es X.env := by rfl) : WL X B PX (e :: es) Γ m P := fun as σ F H Q d hx k =>
  tAr_of (pa_cons peS paS hs) (h as σ F H _ d hx fun x m1 v N H1 e1 d1 r1 p1 => p1 as σ N H1 _ d1 (hx.up e1) fun xs m2 vs N2 H2 e2 d2 r2 p2 =>
    k (x :: xs) m2 (v :: vs) N2 H2 (e1.trans e2) d2 (.cons (Py.up e2 r1) r2) p2)
theorem reps_of [DecidableEq α] [Datum α] {K : PySem.W.Frag} {F : Hp} : ∀ {xs : List α} {vs : List V}, Paired (fun x v => Py.rep K x v F) xs vs → Reps K F xs vs
  | _, _, .nil => Reps.nil
  | _, _, .cons x t => Reps.cons x (reps_of t)
theorem dqs_of {K : PySem.W.Frag} {F : Hp} : ∀ {xs : List PyData} {vs : List V}, Paired (fun x v => Py.rep K x v F) xs vs → Dqs K F vs xs
  | _, _, .nil => .nil
  | _, _, .cons x t => .cons x (dqs_of t)
theorem we_tupL [DecidableEq α] [Datum α] {k} {P : Tup α → List MC → Prop} (h : WL X B PX es Γ m fun (xs : List α) m' => xs.length ≤ sizeLine ∧ P ⟨xs⟩ m') : WE X B PX (.Tuple es k pos) Γ m P := fun as σ F H Q d hx q =>
  tEv_of (pe_tup paS) (h as σ F H _ d hx fun xs m' vs N H2 e' d' r ⟨hl, p⟩ => ⟨by rw [← Paired.length r]; exact hl, fun t ht => by
    obtain ⟨s, d2⟩ := d'.new (o := .tup vs) ht
    exact q ⟨xs⟩ m' _ _ _ (e'.trans s) d2 (rep_tup.mpr ⟨t, vs, rfl, SqT.of upd_same, (reps_of r).up s⟩) p⟩)
theorem we_listL [DecidableEq α] [Datum α] {P : List α → List MC → Prop} (h : WL X B PX es Γ m fun (xs : List α) m' => xs.length ≤ sizeLine ∧ P xs m') : WE X B PX (.List es pos) Γ m P := fun as σ F H Q d hx q =>
  tEv_of (pe_lst paS) (h as σ F H _ d hx fun xs m' vs N H2 e' d' r ⟨hl, p⟩ => ⟨by rw [← Paired.length r]; exact hl, fun t ht => by
    obtain ⟨s, d2⟩ := d'.new (o := .lst vs) ht
    exact q xs m' _ _ _ (e'.trans s) d2 (rep_list.mpr ⟨t, vs, rfl, upd_same, (reps_of r).up s⟩) p⟩)
/-- a new list that changes -/
theorem wg_list [DecidableEq α] [Datum α] {P : Sl → List MC → Prop} (h : WL X B PX es Γ m fun (xs : List α) m' => xs.length ≤ sizeLine ∧ P (mu m'.length) (m' ++ [lst xs])) : WG X B PX (.List es pos) Γ m P := fun as σ F H Q d hx q =>
  tEv_of (pe_lst paS) (h as σ F H _ d hx fun xs m' vs N H2 e' d' r ⟨hl, p⟩ => ⟨by rw [← Paired.length r]; exact hl, fun t ht =>
    q (mu m'.length) _ [t] (.ref t) N _ e' (d'.newM (c := lst xs) ht ⟨vs, rfl, reps_of r⟩) ⟨t, by rw [← d'.ok.len, List.getElem?_append_right (Nat.le_refl _), Nat.sub_self]; rfl, rfl⟩ p⟩)
theorem we_dtup {k} {P : PyData → List MC → Prop} (h : WL X B PX es Γ m fun (xs : List PyData) m' => xs.length ≤ sizeLine ∧ P (.tuple xs) m') : WE X B PX (.Tuple es k pos) Γ m P := fun as σ F H Q d hx q =>
  tEv_of (pe_tup paS) (h as σ F H _ d hx fun xs m' vs N H2 e' d' r ⟨hl, p⟩ => ⟨by rw [← Paired.length r]; exact hl, fun t ht => by
    obtain ⟨s, d2⟩ := d'.new (o := .tup vs) ht
    exact q (.tuple xs) m' _ _ _ (e'.trans s) d2 (Dq.tup (SqT.of upd_same) (dqs_up s _ _ (dqs_of r))) p⟩)
theorem we_pair [DecidableEq α] [Datum α] [DecidableEq β] [Datum β] {k} {P : α × β → List MC → Prop} (h : WE X B PX a Γ m fun (x : α) m1 => WE X B PX b Γ m1 fun (y : β) m2 => P (x, y) m2)
    (hs : starEach [a, b] X.env = (false, eval a X.env) :: starEach [b] X.env := by rfl) (hs2 : starEach [b] X.env = (false, eval b X.env) :: starEach [] X.env := by rfl) : WE X B PX (.Tuple [a, b] k pos) Γ m P := fun as σ F H Q d hx q =>
  tEv_of (pe_tup (pa_cons peS (pa_cons peS pa_nil hs2) hs)) (h as σ F H _ d hx fun x m1 v N H1 e1 d1 r1 p1 => p1 as σ N H1 _ d1 (hx.up e1) fun y m2 w N2 H2 e2 d2 r2 p2 => ⟨by show 2 ≤ sizeLine; decide, fun t ht => by
    obtain ⟨s, d3⟩ := d2.new (o := .tup [v, w]) ht
    exact q (x, y) m2 _ _ _ ((e1.trans e2).trans s) d3 (rep_pair.mpr ⟨t, v, w, rfl, SqT.of upd_same, Py.up (e2.trans s) r1, Py.up s r2⟩) p2⟩)
theorem we_t3 [DecidableEq α] [Datum α] [DecidableEq β] [Datum β] [DecidableEq γ] [Datum γ] {k} {P : T3 α β γ → List MC → Prop} (h : WE X B PX a Γ m fun (x : α) m1 => WE X B PX b Γ m1 fun (y : β) m2 => WE X B PX c Γ m2 fun (z : γ) m3 => P ⟨x, y, z⟩ m3)
    (hs : starEach [a, b, c] X.env = (false, eval a X.env) :: starEach [b, c] X.env := by rfl) (hs2 : starEach [b, c] X.env = (false, eval b X.env) :: starEach [c] X.env := by rfl) (hs3 : starEach [c] X.env = (false, eval c X.env) :: starEach [] X.env := by rfl) : WE X B PX (.Tuple [a, b, c] k pos) Γ m P := fun as σ F H Q d hx q =>
  tEv_of (pe_tup (pa_cons peS (pa_cons peS (pa_cons peS pa_nil hs3) hs2) hs)) (h as σ F H _ d hx fun x m1 v N H1 e1 d1 r1 p1 => p1 as σ N H1 _ d1 (hx.up e1) fun y m2 w N2 H2 e2 d2 r2 p2 => p2 as σ N2 H2 _ d2 (hx.up (e1.trans e2)) fun z m3 u N3 H3 e3 d3 r3 p3 => ⟨by show 3 ≤ sizeLine; decide, fun t ht => by
    obtain ⟨s, d4⟩ := d3.new (o := .tup [v, w, u]) ht
    exact q ⟨x, y, z⟩ m3 _ _ _ (((e1.trans e2).trans e3).trans s) d4 (rep_t3.mpr ⟨t, v, w, u, rfl, SqT.of upd_same, Py.up ((e2.trans e3).trans s) r1, Py.up (e3.trans s) r2, Py.up s r3⟩) p3⟩)
/-- a tuple of whatever it may be -/
theorem wg_tupS {k} {P : Sl → List MC → Prop} (h : WA X B PX es Γ m fun gs m' => gs.length ≤ sizeLine ∧ P (tupS gs) m') : WG X B PX (.Tuple es k pos) Γ m P := fun as σ F H Q d hx q =>
  tEv_of (pe_tup paS) (h as σ F H _ d hx fun gs m' bs vs N H2 e' d' r ⟨hl, p⟩ => ⟨by rw [← slotsOk_len r]; exact hl, fun t ht => by
    obtain ⟨s, d2⟩ := d'.new (o := .tup vs) ht
    exact q (tupS gs) m' bs _ _ _ (e'.trans s) d2 ⟨t, vs, rfl, SqT.of upd_same, slotsOk_up s r⟩ p⟩)

/-! ### places -/
def idx (xs : List α) (i : Int) : R α := match atI xs i with
  | some x => .ok x
  | none => .bad
theorem idx_sat {xs : List α} {i : Int} {P : α → Prop} {E : Exn → Prop} (h : (idx xs i).sat P E) : ∃ x, atI xs i = some x ∧ P x := by
  unfold idx at h
  cases e : atI xs i with
  | none => rw [e] at h; exact h.elim
  | some x => rw [e] at h; exact ⟨x, rfl, h⟩
theorem atI_len {xs : List α} {ys : List β} (h : xs.length = ys.length) {i : Int} {x : α} (e : atI xs i = some x) : ∃ j : Nat, xs[j]? = some x ∧ atI ys i = ys[j]? := by
  unfold atI at e ⊢
  rw [← h]
  cases q : ixN xs.length i with
  | none => rw [q] at e; cases e
  | some j => rw [q] at e; exact ⟨j, e, rfl⟩
theorem reps_at [DecidableEq α] [Datum α] {K : PySem.W.Frag} {F : Hp} {xs : List α} {vs : List V} (r : Reps K F xs vs) {i : Int} {x : α} (e : atI xs i = some x) : ∃ v, atI vs i = some v ∧ Py.rep K x v F := by
  obtain ⟨j, h1, h2⟩ := atI_len r.length.symm e
  obtain ⟨w, h3, h4⟩ := r.get h1
  exact ⟨w, by rw [h2, h3], h4⟩
theorem we_ixL [DecidableEq α] [Datum α] {P : α → List MC → Prop} (h : WE X B PX a Γ m fun (xs : List α) m1 => WE X B PX b Γ m1 fun (i : Int) m2 => (idx xs i).sat (fun x => P x m2) fun _ => False) (hs : PlainIx b := by exact fun _ _ => rfl) : WE X B PX (.Subscript a b pos) Γ m P := fun as σ F H Q d hx k =>
  tEv_of (pe_ix ix_list peS peS hs) (h as σ F H _ d hx fun xs m1 v N H1 e1 d1 r1 p1 => p1 as σ N H1 _ d1 (hx.up e1) fun i m2 w N2 H2 e2 d2 r2 p2 => by
    obtain ⟨l, vs, rfl, hl, hr⟩ := rep_list.mp (Py.up e2 r1)
    rw [rep_int] at r2
    subst r2
    obtain ⟨x, hx', px⟩ := idx_sat p2
    obtain ⟨u, hu, ru⟩ := reps_at hr hx'
    exact ⟨l, vs, i, u, rfl, rfl, SqL.of (d2.ok.sub _ _ hl), hu, k x m2 u N2 H2 (e1.trans e2) d2 ru px⟩)
theorem sqT_sub {K : PySem.W.Frag} {F H : Hp} (s : Same F H) {t : Addr} {xs : List V} (h : SqT K F t xs) : SqT K H t xs := sqT_up s h
theorem we_ixT [DecidableEq α] [Datum α] {P : α → List MC → Prop} (h : WE X B PX a Γ m fun (xs : Tup α) m1 => WE X B PX b Γ m1 fun (i : Int) m2 => (idx xs.items i).sat (fun x => P x m2) fun _ => False) (hs : PlainIx b := by exact fun _ _ => rfl) : WE X B PX (.Subscript a b pos) Γ m P := fun as σ F H Q d hx k =>
  tEv_of (pe_ix ix_tup peS peS hs) (h as σ F H _ d hx fun xs m1 v N H1 e1 d1 r1 p1 => p1 as σ N H1 _ d1 (hx.up e1) fun i m2 w N2 H2 e2 d2 r2 p2 => by
    obtain ⟨l, vs, rfl, hl, hr⟩ := rep_tup.mp (Py.up e2 r1)
    rw [rep_int] at r2
    subst r2
    obtain ⟨x, hx', px⟩ := idx_sat p2
    obtain ⟨u, hu, ru⟩ := reps_at hr hx'
    exact ⟨l, vs, i, u, rfl, rfl, sqT_sub d2.ok.sub hl, hu, k x m2 u N2 H2 (e1.trans e2) d2 ru px⟩)
/-- an item of a tuple at a written place -/
theorem we_at [Py α] [Py β] {P : β → List MC → Prop} {i : Int} {j : Nat} {pi : Pos} (f : α → β) (hf : ∀ K x v F, Py.rep K x v F → ∃ l vs u, v = .ref l ∧ SqT K F l vs ∧ atI vs i = some u ∧ Py.rep K (f x) u F)
    (h : WE X B PX a Γ m fun (x : α) m1 => P (f x) m1) (hs : PlainIx (.Constant (.int i) j pi) := by exact fun _ _ => rfl) : WE X B PX (.Subscript a (.Constant (.int i) j pi) pos) Γ m P := fun as σ F H Q d hx k =>
  tEv_of (pe_ix ix_tup peS pe_int hs) (h as σ F H _ d hx fun x m1 v N H1 e1 d1 r1 p1 => by
    obtain ⟨l, vs, u, rfl, hl, hu, ru⟩ := hf _ _ _ _ r1
    exact ⟨l, vs, i, u, rfl, rfl, sqT_sub d1.ok.sub hl, hu, k (f x) m1 u N H1 e1 d1 ru p1⟩)
section
variable [DecidableEq α] [Datum α] [DecidableEq β] [Datum β] [DecidableEq γ] [Datum γ]
theorem we_fst {P : α → List MC → Prop} {j : Nat} {pi : Pos} (h : WE X B PX a Γ m fun (x : α × β) m1 => P x.1 m1) : WE X B PX (.Subscript a (.Constant (.int 0) j pi) pos) Γ m P :=
  we_at (fun x : α × β => x.1) (fun K x v F r => by
    obtain ⟨t, u, w, rfl, ht, h1, h2⟩ := rep_pair.mp r
    exact ⟨t, _, u, rfl, ht, rfl, h1⟩) h
theorem we_snd {P : β → List MC → Prop} {j : Nat} {pi : Pos} (h : WE X B PX a Γ m fun (x : α × β) m1 => P x.2 m1) : WE X B PX (.Subscript a (.Constant (.int 1) j pi) pos) Γ m P :=
  we_at (fun x : α × β => x.2) (fun K x v F r => by
    obtain ⟨t, u, w, rfl, ht, h1, h2⟩ := rep_pair.mp r
    exact ⟨t, _, w, rfl, ht, rfl, h2⟩) h
theorem we_3a {P : α → List MC → Prop} {j : Nat} {pi : Pos} (h : WE X B PX a Γ m fun (x : T3 α β γ) m1 => P x.a m1) : WE X B PX (.Subscript a (.Constant (.int 0) j pi) pos) Γ m P :=
  we_at (fun x : T3 α β γ => x.a) (fun K x v F r => by
    obtain ⟨t, u, w, z, rfl, ht, h1, h2, h3⟩ := rep_t3.mp r
    exact ⟨t, _, u, rfl, ht, rfl, h1⟩) h
theorem we_3b {P : β → List MC → Prop} {j : Nat} {pi : Pos} (h : WE X B PX a Γ m fun (x : T3 α β γ) m1 => P x.b m1) : WE X B PX (.Subscript a (.Constant (.int 1) j pi) pos) Γ m P :=
  we_at (fun x : T3 α β γ => x.b) (fun K x v F r => by
    obtain ⟨t, u, w, z, rfl, ht, h1, h2, h3⟩ := rep_t3.mp r
    exact ⟨t, _, w, rfl, ht, rfl, h2⟩) h
theorem we_3c {P : γ → List MC → Prop} {j : Nat} {pi : Pos} (h : WE X B PX a Γ m fun (x : T3 α β γ) m1 => P x.c m1) : WE X B PX (.Subscript a (.Constant (.int 2) j pi) pos) Γ m P :=
  we_at (fun x : T3 α β γ => x.c) (fun K x v F r => by
    obtain ⟨t, u, w, z, rfl, ht, h1, h2, h3⟩ := rep_t3.mp r
    exact ⟨t, _, z, rfl, ht, rfl, h3⟩) h
end
end

/-! ### built-in calls -/
section
variable {X : Cx} {B : Bs} {PX : PXT} {Γ : List Sl} {m : List MC} {e a b c : Expr} {es : List Expr} {pos p : Pos} {α β γ : Type} {P : Sl → List MC → Prop}
/-- what a call's rule asks, told of slots -/
def RCV (X : Cx) (B : Bs) (r : List V → Hp → VK → Prop) (Γa : List Sl) (m1 : List MC) (P : Sl → List MC → Prop) : Prop :=
  ∀ Γ as σ F H vs (Q : VK), Des X.K B Γ m1 as σ F H → slotsOk X.K as F Γa vs →
    (∀ g m' bs v N H2, Same F N → Des X.K B Γ m' (as ++ bs) σ N H2 → g.ok X.K (as ++ bs) N (some v) → P g m' → Q v H2) → r vs H Q
theorem wg_callB {r : List V → Hp → VK → Prop} {id : String} {x : Str} (hc : CallR X (.builtin id) r) (hm : X.mg x = none) (hv : bootBuiltins x = some (.builtin id)) (ha : WA X B PX (e :: es) Γ m fun Γa m1 => RCV X B r Γa m1 P)
    (hg : Gl X x := by rfl) (hn : x ≠ "__name__" := by decide) (hdb : (x == ("__debug__" : Str)) = false := by decide)
    (hs : starEach (e :: es) X.env = (false, eval e X.env) :: starEach es X.env := by rfl) (hpl : (backTo pos (starEach es X.env)).any (·.1) = false := by rfl) : WG X B PX (.Call (.Name x p) (e :: es) [] pos) Γ m P := fun as σ F H Q d hx k =>
  tEv_of (pe_callB hc hg hm hv paS hn hdb hs hpl) (ha as σ F H _ d hx fun Γa m1 bs vs N H1 e1 d1 r1 q => q Γ (as ++ bs) σ N H1 vs Q d1 r1 fun g m' cs v N2 H2 e2 d2 r2 p2 => by
    rw [List.append_assoc] at d2 r2
    exact k g m' (bs ++ cs) v N2 H2 (e1.trans e2) d2 r2 p2)
theorem wg_callTy {r : List V → Hp → VK → Prop} {T : String} {x : Str} (hc : CallR X (.type T) r) (hm : X.mg x = none) (hv : bootBuiltins x = some (.type T)) (ha : WA X B PX (e :: es) Γ m fun Γa m1 => RCV X B r Γa m1 P)
    (hg : Gl X x := by rfl) (hn : x ≠ "__name__" := by decide) (hdb : (x == ("__debug__" : Str)) = false := by decide)
    (hs : starEach (e :: es) X.env = (false, eval e X.env) :: starEach es X.env := by rfl) (hpl : (backTo pos (starEach es X.env)).any (·.1) = false := by rfl) : WG X B PX (.Call (.Name x p) (e :: es) [] pos) Γ m P := fun as σ F H Q d hx k =>
  tEv_of (pe_callTy hc hg hm hv paS hn hdb hs hpl) (ha as σ F H _ d hx fun Γa m1 bs vs N H1 e1 d1 r1 q => q Γ (as ++ bs) σ N H1 vs Q d1 r1 fun g m' cs v N2 H2 e2 d2 r2 p2 => by
    rw [List.append_assoc] at d2 r2
    exact k g m' (bs ++ cs) v N2 H2 (e1.trans e2) d2 r2 p2)
theorem slots1 {K : PySem.W.Frag} {as : List Addr} {F : Hp} {g : Sl} {vs : List V} (h : slotsOk K as F [g] vs) : ∃ v, vs = [v] ∧ g.ok K as F (some v) := by
  cases vs with
  | nil => exact h.elim
  | cons v t =>
    cases t with
    | nil => exact ⟨v, rfl, h.1⟩
    | cons _ _ => exact h.2.elim
theorem slots2 {K : PySem.W.Frag} {as : List Addr} {F : Hp} {g g' : Sl} {vs : List V} (h : slotsOk K as F [g, g'] vs) : ∃ v w, vs = [v, w] ∧ g.ok K as F (some v) ∧ g'.ok K as F (some w) := by
  cases vs with
  | nil => exact h.elim
  | cons v t =>
    cases t with
    | nil => exact h.2.elim
    | cons w t =>
      cases t with
      | nil => exact ⟨v, w, rfl, h.1, h.2.1⟩
      | cons _ _ => exact h.2.2.elim
theorem im_ok [Py α] {K : PySem.W.Frag} {as : List Addr} {F : Hp} {x : α} {v : V} (h : (im x).ok K as F (some v)) : Py.rep K x v F := by
  obtain ⟨w, e, r⟩ := h
  cases e
  exact r
/-- a plain answer -/
theorem rcv_one [Py α] [Py β] {r : List V → Hp → VK → Prop} {x : α} {y : β} (hr : ∀ F H v Q, Same F H → Py.rep X.K x v F → (∀ u, Py.rep X.K y u F → Q u H) → r [v] H Q) (h : P (im y) m) : RCV X B r [im x] m P := fun Γ as σ F H vs Q d rs k => by
  obtain ⟨v, rfl, r1⟩ := slots1 rs
  exact hr F H v Q d.ok.sub (im_ok r1) fun u ru => k (im y) m [] u F H (Same.refl F) (des0 d) ⟨u, rfl, ru⟩ h
def lenR (K : PySem.W.Frag) : List V → Hp → VK → Prop := fun xs H Q => ∃ x n, xs = [x] ∧ LenV K x H n ∧ Q (.int n) H
theorem lenV_list [DecidableEq α] [Datum α] {K : PySem.W.Frag} {F H : Hp} (s : Same F H) {xs : List α} {v : V} (r : Py.rep K xs v F) : LenV K v H xs.length := by
  obtain ⟨a, vs, rfl, h, q⟩ := rep_list.mp r
  exact .inl ⟨vs, SqL.of (s _ _ h), q.length.symm⟩
theorem lenV_tup [DecidableEq α] [Datum α] {K : PySem.W.Frag} {F H : Hp} (s : Same F H) {xs : Tup α} {v : V} (r : Py.rep K xs v F) : LenV K v H xs.items.length := by
  obtain ⟨a, vs, rfl, h, q⟩ := rep_tup.mp r
  exact .inr ⟨vs, sqT_up s h, q.length.symm⟩
end
end G

/-! Core5: targets, for, while, comprehensions. -/
namespace G
open PySem PySem.Spec PyProof.Rows L2
open PySem.W (Datum Tup T3)

/-! ### mirrors of loops -/
inductive Fl (S ρ : Type) where
  | nx (s : S) | bk (s : S) | rt (r : ρ)
section
variable {α β S ρ : Type}
def forR (f : S → α → R (Fl S ρ)) : List α → S → R (Fl S ρ)
  | [], s => .ok (.nx s)
  | x :: xs, s => (f s x).bind fun fl => match fl with
    | .nx s' => forR f xs s'
    | .bk s' => .ok (.nx s')
    | .rt r => .ok (.rt r)
def whileR (c : S → R Bool) (f : S → R (Fl S ρ)) : Nat → S → R (Fl S ρ)
  | 0, _ => .bad
  | n + 1, s => (c s).bind fun b => match b with
    | true => (f s).bind fun fl => match fl with
      | .nx s' => whileR c f n s'
      | .bk s' => .ok (.nx s')
      | .rt r => .ok (.rt r)
    | false => .ok (.nx s)
def compR (p : α → R Bool) (f : α → R β) : List α → R (List β)
  | [] => .ok []
  | x :: xs => (p x).bind fun b => match b with
    | true => (f x).bind fun y => (compR p f xs).bind fun ys => .ok (y :: ys)
    | false => compR p f xs
/-- loops that end by themselves -/
theorem forR_pure (f : S → α → S) : ∀ (xs : List α) (s : S), forR (ρ := ρ) (fun s x => .ok (.nx (f s x))) xs s = .ok (.nx (xs.foldl f s))
  | [], _ => rfl
  | x :: xs, s => by
    show forR (ρ := ρ) (fun s x => .ok (.nx (f s x))) xs (f s x) = _
    rw [forR_pure f xs]
    rfl
theorem compR_pure (p : α → Bool) (f : α → β) : ∀ xs : List α, compR (fun x => .ok (p x)) (fun x => .ok (f x)) xs = .ok ((xs.filter p).map f)
  | [] => rfl
  | x :: xs => by
    show (R.bind (.ok (p x)) fun b => _) = _
    cases e : p x with
    | true =>
      show ((compR (fun x => .ok (p x)) (fun x => .ok (f x)) xs).bind fun ys => .ok (f x :: ys)) = _
      rw [compR_pure p f xs, List.filter_cons_of_pos e]
      rfl
    | false =>
      show compR (fun x => .ok (p x)) (fun x => .ok (f x)) xs = _
      rw [compR_pure p f xs, List.filter_cons_of_neg (by rw [e]; decide)]
theorem compR_len {p : α → R Bool} {f : α → R β} : ∀ {xs : List α} {ys : List β}, compR p f xs = .ok ys → ys.length ≤ xs.length
  | [], _, h => by cases h; exact Nat.le_refl _
  | x :: xs, ys, h => by
    unfold compR at h
    cases e : p x with
    | ok b =>
      rw [e] at h
      cases b with
      | true =>
        cases e2 : f x with
        | ok y =>
          cases e3 : compR p f xs with
          | ok zs =>
            have h' : (R.ok (y :: zs) : R (List β)) = .ok ys := by
              rw [← h]
              show _ = ((f x).bind fun y => (compR p f xs).bind fun ys => .ok (y :: ys))
              rw [e2, e3]
              rfl
            have := R.ok.inj h'
            rw [← this, List.length_cons, List.length_cons]
            exact Nat.succ_le_succ (compR_len e3)
          | exc z => 
            have h' : ((f x).bind fun y => (compR p f xs).bind fun ys => .ok (y :: ys)) = .ok ys := h
            rw [e2, e3] at h'
            cases h'
          | bad =>
            have h' : ((f x).bind fun y => (compR p f xs).bind fun ys => .ok (y :: ys)) = .ok ys := h
            rw [e2, e3] at h'
            cases h'
        | exc z =>
          have h' : ((f x).bind fun y => (compR p f xs).bind fun ys => .ok (y :: ys)) = .ok ys := h
          rw [e2] at h'
          cases h'
        | bad =>
          have h' : ((f x).bind fun y => (compR p f xs).bind fun ys => .ok (y :: ys)) = .ok ys := h
          rw [e2] at h'
          cases h'
      | false =>
        have h' : compR p f xs = .ok ys := h
        exact Nat.le_succ_of_le (compR_len h')
    | exc z => rw [e] at h; cases h
    | bad => rw [e] at h; cases h
end

/-! ### weaker states -/
inductive WkS (n : Nat) : List Sl → List Sl → Prop
  | nil : WkS n [] []
  | un {g : Sl} {gs gs' : List Sl} (t : WkS n gs gs') : WkS n (g :: gs) (un :: gs')
  | im {α : Type} [Py α] {x : α} {gs gs' : List Sl} (t : WkS n gs gs') : WkS n (im x :: gs) (im x :: gs')
  | mu {j : Nat} {gs gs' : List Sl} (h : j < n) (t : WkS n gs gs') : WkS n (mu j :: gs) (mu j :: gs')
  | fre {g : Sl} {gs gs' : List Sl} (h : ∀ K as as' F o, g.ok K as F o → g.ok K as' F o) (t : WkS n gs gs') : WkS n (g :: gs) (g :: gs')
/-- Γ', m' are at least Γ, m -/
def Wk (Γ' : List Sl) (m' : List MC) (Γ : List Sl) (m : List MC) : Prop := WkS m.length Γ' Γ ∧ m'.take m.length = m
section
variable {K : PySem.W.Frag} {B : Bs} {as bs : List Addr} {m m' : List MC} {F H : Hp} {Γ Γ' : List Sl} {σ : L2.St}
theorem wkS_ok {n : Nat} (hn : as.length = n) (h : WkS n Γ' Γ) : ∀ {σ : L2.St}, Slots K (as ++ bs) F Γ' σ → Slots K as F Γ σ := by
  induction h with
  | nil =>
    intro σ h
    cases h
    exact .nil
  | un t ih =>
    intro σ h
    cases h with
    | cons x y => exact .cons trivial (ih y)
  | im t ih =>
    intro σ h
    cases h with
    | cons x y => exact .cons x (ih y)
  | mu hj t ih =>
    intro σ h
    cases h with
    | cons x y =>
      obtain ⟨a, ha, e⟩ := x
      refine .cons ⟨a, ?_, e⟩ (ih y)
      rw [List.getElem?_append_left (by omega)] at ha
      exact ha
  | fre hf t ih =>
    intro σ h
    cases h with
    | cons x y => exact .cons (hf _ _ _ _ _ x) (ih y)
theorem Ok.less (d : Ok K B (as ++ bs) m' F H) (hn : as.length = m.length) (h : m'.take m.length = m) : Ok K B as m F H := by
  refine ⟨d.keep, d.stay, d.sub0, d.sub, d.fresh, hn, (List.nodup_append.mp d.nod).1, fun a ha => d.org a (List.mem_append_left _ ha), fun j a c e1 e2 l => ?_, fun a ha => d.old a (List.mem_append_left _ ha), d.lent⟩
  refine d.chg j a c (get_app bs e1) ?_ l
  have hj := (List.getElem?_eq_some_iff.mp e2).1
  rw [← h, List.getElem?_take, if_pos hj] at e2
  exact e2
theorem Wk.ok (w : Wk Γ' m' Γ m) (hn : as.length = m.length) (d : Des K B Γ' m' (as ++ bs) σ F H) : Des K B Γ m as σ F H := ⟨wkS_ok hn w.1 d.sl, d.ok.less hn w.2⟩
end

/-! ### targets -/
/-- a target takes an x: the slots then -/
def TGR {α : Type} [Py α] (X : Cx) (B : Bs) (tg : Expr) (up : List Sl → α → List Sl) : Prop := ∃ g : TG, PG X tg g ∧
  ∀ Γ m as σ F H x v (Q : L2.St → Hp → Prop), Des X.K B Γ m as σ F H → Py.rep X.K x v F → (∀ σ' H' N, Same F N → Des X.K B (up Γ x) m as σ' N H' → Q σ' H') → g v σ H Q
section
variable {X : Cx} {B : Bs} {PX : PXT} {Γ : List Sl} {m : List MC} {e a b : Expr} {es : List Expr} {pos p p1 p2 : Pos} {α β γ : Type}
theorem tg_name [Py α] {i : Nat} {x : Str} (hN : X.N.Nodup) (hi : X.N[i]? = some x) (hx : Loc X.env.scope x := by first | exact Or.inl rfl | exact Or.inr rfl)
    (hf : X.fn x = true ∨ X.env.scope.names.lookup x = some .local := by first | exact .inl rfl | exact .inr rfl | assumption) : TGR (α := α) X B (.Name x pos) fun Γ y => Γ.set i (im y) :=
  ⟨gName i, pg_name hN hi hx hf, fun Γ m as σ F H x v Q d r k => k _ H F (Same.refl F) (d.setSlot (g := im x) i ⟨v, rfl, r⟩)⟩
theorem tg_pair [DecidableEq α] [Datum α] [DecidableEq β] [Datum β] {k : Nat} {ua : List Sl → α → List Sl} {ub : List Sl → β → List Sl} (hc : X.calm = true) (ha : TGR X B a ua) (hb : TGR X B b ub)
    (h1 : (assignEach [a, b] X.env).map (·.2) = assign a X.env :: (assignEach [b] X.env).map (·.2) := by rfl) (h2 : (assignEach [b] X.env).map (·.2) = assign b X.env :: (assignEach [] X.env).map (·.2) := by rfl) (hn : (assignEach [a, b] X.env).length = 2 := by rfl) (hst : (assignEach [a, b] X.env).findIdx? (·.1) = none := by rfl) :
    TGR (α := α × β) X B (.Tuple [a, b] k pos) fun Γ y => ub (ua Γ y.1) y.2 := by
  obtain ⟨ga, pa, qa⟩ := ha
  obtain ⟨gb, pb, qb⟩ := hb
  refine ⟨_, pg_tup (n := 2) hc (pgs_cons pa (pgs_cons pb pgs_nil h2) h1) hn hst, fun Γ m as σ F H x v Q d r kk => ?_⟩
  obtain ⟨t, u, w, rfl, ht, r1, r2⟩ := rep_pair.mp r
  refine ⟨t, _, rfl, sqT_sub d.ok.sub ht, rfl, u, [w], rfl, ?_⟩
  refine qa Γ m as σ F H x.1 u _ d r1 fun σ' H' N e1 d1 => ⟨w, [], rfl, ?_⟩
  exact qb _ m as σ' N H' x.2 w _ d1 (Py.up e1 r2) fun σ2 H2 N2 e2 d2 => ⟨rfl, kk σ2 H2 N2 (e1.trans e2) d2⟩
theorem tg_t3 [DecidableEq α] [Datum α] [DecidableEq β] [Datum β] [DecidableEq γ] [Datum γ] {c : Expr} {k : Nat} {ua : List Sl → α → List Sl} {ub : List Sl → β → List Sl} {uc : List Sl → γ → List Sl} (hc : X.calm = true) (ha : TGR X B a ua) (hb : TGR X B b ub) (hcc : TGR X B c uc)
    (h1 : (assignEach [a, b, c] X.env).map (·.2) = assign a X.env :: (assignEach [b, c] X.env).map (·.2) := by rfl) (h2 : (assignEach [b, c] X.env).map (·.2) = assign b X.env :: (assignEach [c] X.env).map (·.2) := by rfl) (h3 : (assignEach [c] X.env).map (·.2) = assign c X.env :: (assignEach [] X.env).map (·.2) := by rfl) (hn : (assignEach [a, b, c] X.env).length = 3 := by rfl) (hst : (assignEach [a, b, c] X.env).findIdx? (·.1) = none := by rfl) :
    TGR (α := T3 α β γ) X B (.Tuple [a, b, c] k pos) fun Γ y => uc (ub (ua Γ y.a) y.b) y.c := by
  obtain ⟨ga, pa, qa⟩ := ha
  obtain ⟨gb, pb, qb⟩ := hb
  obtain ⟨gc, pc, qc⟩ := hcc
  refine ⟨_, pg_tup (n := 3) hc (pgs_cons pa (pgs_cons pb (pgs_cons pc pgs_nil h3) h2) h1) hn hst, fun Γ m as σ F H x v Q d r kk => ?_⟩
  obtain ⟨t, u, w, z, rfl, ht, r1, r2, r3⟩ := rep_t3.mp r
  refine ⟨t, _, rfl, sqT_sub d.ok.sub ht, rfl, u, [w, z], rfl, ?_⟩
  refine qa Γ m as σ F H x.a u _ d r1 fun σ' H' N e1 d1 => ⟨w, [z], rfl, ?_⟩
  refine qb _ m as σ' N H' x.b w _ d1 (Py.up e1 r2) fun σ2 H2 N2 e2 d2 => ⟨z, [], rfl, ?_⟩
  exact qc _ m as σ2 N2 H2 x.c z _ d2 (Py.up (e1.trans e2) r3) fun σ3 H3 N3 e3 d3 => ⟨rfl, kk σ3 H3 N3 ((e1.trans e2).trans e3) d3⟩
/-- target = e -/
theorem ws_asgT [Py α] {D : De} {tg : Expr} {up : List Sl → α → List Sl} (ht : TGR X B tg up) (h : WE X B PX e Γ m fun (x : α) m' => D.nx (up Γ x) m')
    (hs : swapsWithSole [tg] e pos.line X.env = pure false := by rfl) (hw : swappedStores [tg] e X.env = pure none := by rfl) (h1 : (assignEach [tg] X.env).map (·.2) = [assign tg X.env] := by rfl) : WS X B PX (.Assign [tg] e pos) Γ m D := fun as σ F H E d hx k => by
  obtain ⟨g, pg, q⟩ := ht
  exact tSt_of (ps_asg peS pg hs hw h1) (h as σ F H _ d hx fun x m' v N H2 e' d' r pp => q Γ m' as σ N H2 x v _ d' r fun σ' H' N2 e2 d2 => k.nx _ m' [] σ' N2 H' (e'.trans e2) (des0 d2) pp)

/-! ### what is walked -/
def WalksX (α : Type) [Py α] (K : PySem.W.Frag) (B : Bs) (J : It) (xs : List α) (F : Hp) : Prop := ∀ i H, Same F H →
  (i < xs.length → J.go i H) ∧ (xs.length ≤ i → J.stop i H) ∧ ∀ x, xs[i]? = some x → ∀ v H', J.yld i H v H' → ∀ Γ m as σ N, Same F N → Des K B Γ m as σ N H → ∃ N', Same N N' ∧ Des K B Γ m as σ N' H' ∧ Py.rep K x v N'
def WI [Py α] (X : Cx) (B : Bs) (PX : PXT) (tg iter : Expr) (Γ : List Sl) (m : List MC) (P : List α → List MC → Prop) : Prop := ∃ wi : TI, PI X tg iter wi ∧
  ∀ as σ F H (Q : It → Hp → Prop), Des X.K B Γ m as σ F H → Xs X B PX as F → (∀ xs m' J N H2, Same F N → Des X.K B Γ m' as σ N H2 → WalksX α X.K B J xs N → P xs m' → Q J H2) → wi σ H Q
theorem walks_list [DecidableEq α] [Datum α] {K : PySem.W.Frag} {l : Addr} {xs : List α} {vs : List V} {F : Hp} (hl : F l = some (.lst vs)) (r : Reps K F xs vs) : WalksX α K B (Itl K l) xs F := fun i H s => by
  have q : SqL K H l vs := SqL.of (s _ _ hl)
  refine ⟨fun hi => ?_, fun hi => ⟨vs, q, by rw [r.length]; exact hi⟩, fun x hx v H' y Γ m as σ N e d => ?_⟩
  · have hi' : i < vs.length := by rw [r.length]; exact hi
    exact ⟨vs, vs[i], q, List.getElem?_eq_getElem hi'⟩
  · obtain ⟨e1, y⟩ := y
    subst e1
    obtain ⟨w, hw, rw'⟩ := r.get hx
    have := y vs q
    rw [hw] at this
    cases this
    exact ⟨N, Same.refl N, d, Py.up e rw'⟩
theorem walks_tup [DecidableEq α] [Datum α] {K : PySem.W.Frag} {l : Addr} {xs : List α} {vs : List V} {F : Hp} (hl : SqT K F l vs) (r : Reps K F xs vs) : WalksX α K B (Itt K l) xs F := fun i H s => by
  have q : SqT K H l vs := sqT_up s hl
  refine ⟨fun hi => ?_, fun hi => ⟨vs, q, by rw [r.length]; exact hi⟩, fun x hx v H' y Γ m as σ N e d => ?_⟩
  · have hi' : i < vs.length := by rw [r.length]; exact hi
    exact ⟨vs, vs[i], q, List.getElem?_eq_getElem hi'⟩
  · obtain ⟨e1, y⟩ := y
    subst e1
    obtain ⟨w, hw, rw'⟩ := r.get hx
    have := y vs q
    rw [hw] at this
    cases this
    exact ⟨N, Same.refl N, d, Py.up e rw'⟩
def rangeL (lo hi : Int) : List Int := (List.range (hi - lo).toNat).map fun i : Nat => lo + i
theorem rangeL_length (lo hi : Int) : (rangeL lo hi).length = (hi - lo).toNat := by
  unfold rangeL
  rw [List.length_map, List.length_range]
theorem walks_range {K : PySem.W.Frag} {lo hi : Int} {F : Hp} : WalksX Int K B (Itr lo (hi - lo).toNat) (rangeL lo hi) F := fun i H s => by
  refine ⟨fun h => ?_, fun h => ?_, fun x hx v H' y Γ m as σ N e d => ?_⟩
  · rw [rangeL_length] at h
    exact h
  · rw [rangeL_length] at h
    exact h
  · obtain ⟨e1, e2⟩ := y
    subst e1 e2
    unfold rangeL at hx
    rw [List.getElem?_map] at hx
    cases q : (List.range (hi - lo).toNat)[i]? with
    | none => rw [q] at hx; cases hx
    | some j =>
      rw [q] at hx
      have ej : i = j := by
        obtain ⟨h1, h2⟩ := List.getElem?_eq_some_iff.mp q
        rw [List.getElem_range] at h2
        exact h2
      subst ej
      have ex := Option.some.inj hx
      exact ⟨N, Same.refl N, d, by rw [← ex]; exact rep_int.mpr rfl⟩
theorem wi_list [DecidableEq α] [Datum α] {tg : Expr} {P : List α → List MC → Prop} (h : WE X B PX e Γ m P) : WI X B PX tg e Γ m P := ⟨_, pi_list peS, fun as σ F H Q d hx k => h as σ F H _ d hx fun xs m' v N H2 e' d' r p => by
  obtain ⟨l, vs, rfl, hl, hr⟩ := rep_list.mp r
  exact ⟨l, rfl, ⟨vs, SqL.of (d'.ok.sub _ _ hl)⟩, k xs m' _ N H2 e' d' (walks_list hl hr) p⟩⟩
theorem wi_tup [DecidableEq α] [Datum α] {tg : Expr} {P : List α → List MC → Prop} (h : WE X B PX e Γ m fun (xs : Tup α) m' => P xs.items m') : WI X B PX tg e Γ m P := ⟨_, pi_tup peS, fun as σ F H Q d hx k => h as σ F H _ d hx fun xs m' v N H2 e' d' r p => by
  obtain ⟨l, vs, rfl, hl, hr⟩ := rep_tup.mp r
  exact ⟨l, rfl, ⟨vs, sqT_sub d'.ok.sub hl⟩, k xs.items m' _ N H2 e' d' (walks_tup hl hr) p⟩⟩
/-- a tuple of the module, whole -/
theorem wi_range1 {tg : Expr} {P : List Int → List MC → Prop} (hm : X.mg "range" = none) (h : WE X B PX a Γ m fun (j : Int) m' => -(2 ^ 62) ≤ j ∧ j < 2 ^ 62 ∧ P (rangeL 0 j) m') (hg : Gl X "range" := by rfl) (hs : starEach [a] X.env = [(false, eval a X.env)] := by rfl) :
    WI X B PX tg (.Call (.Name "range" p) [a] [] pos) Γ m P := ⟨_, pi_range1 hg hm (pa_cons peS pa_nil hs) hs, fun as σ F H Q d hx k => h as σ F H _ d hx fun j m' v N H2 e' d' r ⟨h1, h2, pp⟩ => by
  rw [rep_int] at r
  subst r
  exact ⟨j, rfl, h1, h2, by have q := k (rangeL 0 j) m' (Itr 0 (j - 0).toNat) N H2 e' d' walks_range pp; rw [Int.sub_zero] at q; exact q⟩⟩
theorem wi_range2 {tg : Expr} {P : List Int → List MC → Prop} (hm : X.mg "range" = none) (h : WE X B PX a Γ m fun (i : Int) m1 => WE X B PX b Γ m1 fun (j : Int) m' => (-(2 ^ 62) ≤ i ∧ i < 2 ^ 62 ∧ -(2 ^ 62) ≤ j ∧ j < 2 ^ 62) ∧ P (rangeL i j) m') (hg : Gl X "range" := by rfl)
    (hs : starEach [a, b] X.env = [(false, eval a X.env), (false, eval b X.env)] := by rfl) (hs2 : starEach [b] X.env = [(false, eval b X.env)] := by rfl) :
    WI X B PX tg (.Call (.Name "range" p) [a, b] [] pos) Γ m P := ⟨_, pi_range2 hg hm (pa_cons peS (pa_cons peS pa_nil hs2) (by rw [hs, hs2])) hs hs2, fun as σ F H Q d hx k => h as σ F H _ d hx fun i m1 v N1 H1 e1 d1 r1 p1 => p1 as σ N1 H1 _ d1 (hx.up e1) fun j m' w N H2 e' d' r ⟨hb, pp⟩ => by
  rw [rep_int] at r r1
  subst r r1
  exact ⟨i, j, rfl, hb, k (rangeL i j) m' _ N H2 (e1.trans e') d' walks_range pp⟩⟩
theorem walks_enum [DecidableEq α] [Datum α] {K : PySem.W.Frag} {l : Addr} {xs : List α} {vs : List V} {F : Hp} (hl : F l = some (.lst vs)) (r : Reps K F xs vs) :
    WalksX (Int × α) K B (Ite K l) (xs.mapIdx fun i x => ((i : Int), x)) F := fun i H s => by
  have q : SqL K H l vs := SqL.of (s _ _ hl)
  refine ⟨fun hi => ?_, fun hi => ⟨vs, q, by rw [r.length]; rw [List.length_mapIdx] at hi; exact hi⟩, fun x hx v H' y Γ m as σ N e d => ?_⟩
  · rw [List.length_mapIdx] at hi
    have hi' : i < vs.length := by rw [r.length]; exact hi
    exact ⟨vs, vs[i], q, List.getElem?_eq_getElem hi'⟩
  · obtain ⟨T, w, rfl, hT, rfl, y⟩ := y
    rw [List.getElem?_mapIdx] at hx
    cases qx : xs[i]? with
    | none => rw [qx] at hx; cases hx
    | some x0 =>
      rw [qx] at hx
      have ex := Option.some.inj hx
      obtain ⟨u, hu, ru⟩ := r.get qx
      have := y vs q
      rw [hu] at this
      cases this
      obtain ⟨s2, d2⟩ := d.new (o := .tup [.int (i : Int), w]) hT
      refine ⟨_, s2, d2, ?_⟩
      rw [← ex]
      exact rep_pair.mpr ⟨T, _, _, rfl, SqT.of upd_same, rep_int.mpr rfl, Py.up (e.trans s2) ru⟩
theorem wi_enum [DecidableEq α] [Datum α] {elts : List Expr} {kk : Nat} {tpos : Pos} {P : List (Int × α) → List MC → Prop} (hm : X.mg "enumerate" = none) (h : WE X B PX a Γ m fun (xs : List α) m' => P (xs.mapIdx fun i x => ((i : Int), x)) m') (hg : Gl X "enumerate" := by rfl)
    (hs : starEach [a] X.env = [(false, eval a X.env)] := by rfl) : WI X B PX (.Tuple elts kk tpos) (.Call (.Name "enumerate" p) [a] [] pos) Γ m P := ⟨_, pi_enum hg hm (pa_cons peS pa_nil hs) hs, fun as σ F H Q d hx k => h as σ F H _ d hx fun xs m' v N H2 e' d' r pp => by
  obtain ⟨l, vs, rfl, hl, hr⟩ := rep_list.mp r
  exact ⟨l, vs, rfl, SqL.of (d'.ok.sub _ _ hl), k _ m' _ N H2 e' d' (walks_enum hl hr) pp⟩⟩

/-! ### for -/
theorem forR_step {S ρ : Type} {f : S → α → R (Fl S ρ)} {x : α} {xs : List α} {s : S} {Q : Fl S ρ → Prop} {E : Exn → Prop} (h : (forR f (x :: xs) s).sat Q E) :
    (f s x).sat (fun fl => match fl with
      | .nx s' => (forR f xs s').sat Q E
      | .bk s' => Q (.nx s')
      | .rt r => Q (.rt r)) E := by
  refine (R.bind_sat.mp h).imp (fun fl _ h => ?_) fun _ h => h
  cases fl <;> exact h
/-- what a loop asks -/
structure ForOk {S ρ : Type} [Py α] (X : Cx) (B : Bs) (PX : PXT) (body : List Stmt) (D : De) (up : List Sl → α → List Sl) (f : S → α → R (Fl S ρ)) (γ : S → List Sl) (μ : S → List MC) (Rr : ρ → Sl → List MC → Prop) (xs : List α) (Γ : List Sl) (m : List MC) : Prop where
  ex : ∃ (s0 : S) (n : Nat) (Q : Fl S ρ → Prop) (E : Exn → Prop), m.length = n ∧ (∀ s, (μ s).length = n) ∧ Wk Γ m (γ s0) (μ s0) ∧ (forR f xs s0).sat Q E ∧
    (∀ s x (T : Fl S ρ → Prop), x ∈ xs → (f s x).sat T E → WSs X B PX body (up (γ s) x) (μ s) { nx := fun Γ' m' => ∃ s', T (.nx s') ∧ Wk Γ' m' (γ s') (μ s'), rt := fun g m' => ∃ r, T (.rt r) ∧ Rr r g m', bk := fun Γ' m' => ∃ s', T (.bk s') ∧ Wk Γ' m' (γ s') (μ s'), ct := fun Γ' m' => ∃ s', T (.nx s') ∧ Wk Γ' m' (γ s') (μ s') }) ∧
    (∀ s, Q (.nx s) → D.nx (γ s) (μ s)) ∧ ∀ r g m', Q (.rt r) → Rr r g m' → D.rt g m'
theorem ws_for {S ρ : Type} [Py α] {D : De} {tg iter : Expr} {body : List Stmt} {up : List Sl → α → List Sl} (f : S → α → R (Fl S ρ)) (γ : S → List Sl) (μ : S → List MC) (Rr : ρ → Sl → List MC → Prop) (hp : PassesOwn (model X.prog X.w) X.A X.env X.xe) (hc : X.calm = true) (ht : TGR X B tg up)
    (h : WI X B PX tg iter Γ m fun xs m1 => ForOk X B PX body D up f γ μ Rr xs Γ m1) (hs : ∀ x, foldedSetIterable iter X.env x = pure x := by intro _; rfl) : WS X B PX (.For tg iter body [] pos) Γ m D := fun as σ F H E d hx k => by
  obtain ⟨g, pg, qg⟩ := ht
  obtain ⟨wi, pw, q⟩ := h
  refine tSt_of (ps_for hp hc pw pg pssS hs) (q as σ F H _ d hx fun xs m1 J N H1 e1 d1 wk ⟨s0, n, Q, PE, hn, hμ, w0, hf, step, fin, ret⟩ => ?_)
  have ha : as.length = n := by rw [d1.ok.len, hn]
  refine ⟨fun i mm σ' H' => mm = xs.length - i ∧ i ≤ xs.length ∧ ∃ s N', Same N N' ∧ Des X.K B (γ s) (μ s) as σ' N' H' ∧ (forR f (xs.drop i) s).sat Q PE, ⟨xs.length, by omega, Nat.zero_le _, s0, N, Same.refl N, w0.ok (bs := []) (by rw [hμ]; exact ha) (des0 d1), hf⟩, ?_⟩
  rintro i mm σ' H' ⟨rfl, hi, s, N', e2, d2, hs2⟩
  obtain ⟨w1, w2, w3⟩ := wk i H' (e2.trans d2.ok.sub)
  by_cases hlt : i < xs.length
  · refine .inr ⟨w1 hlt, fun σ3 H3 => ∃ s' N3, Same N N3 ∧ Des X.K B (γ s') (μ s') as σ3 N3 H3 ∧ (forR f (xs.drop (i + 1)) s').sat Q PE, fun σ3 H3 ⟨s', N3, z1, z2, z3⟩ => ⟨xs.length - (i + 1), by omega, rfl, hlt, s', N3, z1, z2, z3⟩, fun v H3 y => ?_⟩
    obtain ⟨N3, e3, d3, r3⟩ := w3 xs[i] (List.getElem?_eq_getElem hlt) v H3 y _ _ as σ' N' e2 d2
    have hd : xs.drop i = xs[i] :: xs.drop (i + 1) := List.drop_eq_getElem_cons hlt
    rw [hd] at hs2
    refine qg _ _ as σ' N3 H3 xs[i] v _ d3 r3 fun σ4 H4 N4 e4 d4 => ?_
    refine step s xs[i] _ (List.getElem_mem hlt) (forR_step hs2) as σ4 N4 H4 _ d4 (hx.up (((e1.trans e2).trans e3).trans e4)) ⟨?_, ?_, ?_, ?_⟩
    · rintro Γ' m' bs σ5 N5 H5 e5 d5 ⟨s', z, w⟩
      exact ⟨s', N5, ((e2.trans e3).trans e4).trans e5, w.ok (by rw [hμ]; exact ha) d5, z⟩
    · rintro g' m' bs v' N5 H5 e5 d5 r5 ⟨r, z, hr⟩
      exact k.rt g' m' bs v' N5 H5 ((((e1.trans e2).trans e3).trans e4).trans e5) d5 r5 (ret r g' m' z hr)
    · rintro Γ' m' bs σ5 N5 H5 e5 d5 ⟨s', z, w⟩
      exact k.nx _ _ [] σ5 N5 H5 ((((e1.trans e2).trans e3).trans e4).trans e5) (des0 (w.ok (by rw [hμ]; exact ha) d5)) (fin s' z)
    · rintro Γ' m' bs σ5 N5 H5 e5 d5 ⟨s', z, w⟩
      exact ⟨s', N5, ((e2.trans e3).trans e4).trans e5, w.ok (by rw [hμ]; exact ha) d5, z⟩
  · have ei : i = xs.length := by omega
    subst ei
    rw [List.drop_of_length_le (Nat.le_refl _)] at hs2
    exact .inl ⟨w2 (Nat.le_refl _), k.nx _ _ [] σ' N' H' (e1.trans e2) (des0 d2) (fin s hs2)⟩

/-! ### while -/
theorem whileR_step {S ρ : Type} {c : S → R Bool} {f : S → R (Fl S ρ)} {n : Nat} {s : S} {Q : Fl S ρ → Prop} {E : Exn → Prop} (h : (whileR c f n s).sat Q E) :
    ∃ n', n = n' + 1 ∧ (c s).sat (fun b => match b with
      | true => (f s).sat (fun fl => match fl with
        | .nx s' => (whileR c f n' s').sat Q E
        | .bk s' => Q (.nx s')
        | .rt r => Q (.rt r)) E
      | false => Q (.nx s)) E := by
  cases n with
  | zero => exact h.elim
  | succ n' =>
    refine ⟨n', rfl, (R.bind_sat.mp h).imp (fun b _ h => ?_) fun _ h => h⟩
    cases b with
    | true =>
      refine (R.bind_sat.mp h).imp (fun fl _ h => ?_) fun _ h => h
      cases fl <;> exact h
    | false => exact h
theorem ws_while {S ρ : Type} {D : De} {test : Expr} {body : List Stmt} (c : S → R Bool) (f : S → R (Fl S ρ)) (γ : S → List Sl) (μ : S → List MC) (Rr : ρ → Sl → List MC → Prop) (s0 : S) (n k0 : Nat) (Q : Fl S ρ → Prop) (PE : Exn → Prop) (hp : PassesOwn (model X.prog X.w) X.A X.env X.xe)
    (hn : m.length = n) (hμ : ∀ s, (μ s).length = n) (w0 : Wk Γ m (γ s0) (μ s0)) (hf : (whileR c f k0 s0).sat Q PE)
    (ht : ∀ s (T : Bool → Prop), (c s).sat T PE → WT X B PX test (γ s) (μ s) fun b m' => m' = μ s ∧ T b)
    (step : ∀ s (T : Fl S ρ → Prop), (f s).sat T PE → WSs X B PX body (γ s) (μ s) { nx := fun Γ' m' => ∃ s', T (.nx s') ∧ Wk Γ' m' (γ s') (μ s'), rt := fun g m' => ∃ r, T (.rt r) ∧ Rr r g m', bk := fun Γ' m' => ∃ s', T (.bk s') ∧ Wk Γ' m' (γ s') (μ s'), ct := fun Γ' m' => ∃ s', T (.nx s') ∧ Wk Γ' m' (γ s') (μ s') })
    (fin : ∀ s, Q (.nx s) → D.nx (γ s) (μ s)) (ret : ∀ r g m', Q (.rt r) → Rr r g m' → D.rt g m') : WS X B PX (.While test body [] pos) Γ m D := fun as σ F H E d hx k => by
  have ha : as.length = n := by rw [d.ok.len, hn]
  refine tSt_of (ps_while hp ptS pssS) ⟨fun mm σ' H' => ∃ s N, Same F N ∧ Des X.K B (γ s) (μ s) as σ' N H' ∧ (whileR c f mm s).sat Q PE, ⟨k0, s0, F, Same.refl F, w0.ok (bs := []) (by rw [hμ]; exact ha) (des0 d), hf⟩, ?_⟩
  rintro mm σ' H' ⟨s, N, e1, d1, hs⟩
  obtain ⟨n', rfl, hc⟩ := whileR_step hs
  refine ht s _ hc as σ' N H' _ d1 (hx.up e1) fun b m' N2 H2 e2 d2 ⟨em, z⟩ => ?_
  subst em
  cases b with
  | false => exact iteF (k.nx _ _ [] σ' N2 H2 (e1.trans e2) (des0 d2) (fin s z))
  | true =>
    refine iteT ⟨fun σ3 H3 => ∃ s' N3, Same F N3 ∧ Des X.K B (γ s') (μ s') as σ3 N3 H3 ∧ (whileR c f n' s').sat Q PE, fun σ3 H3 ⟨s', N3, z1, z2, z3⟩ => ⟨n', Nat.lt_succ_self _, s', N3, z1, z2, z3⟩, ?_⟩
    refine step s _ z as σ' N2 H2 _ d2 (hx.up (e1.trans e2)) ⟨?_, ?_, ?_, ?_⟩
    · rintro Γ' m' bs σ5 N5 H5 e5 d5 ⟨s', z, w⟩
      exact ⟨s', N5, (e1.trans e2).trans e5, w.ok (by rw [hμ]; exact ha) d5, z⟩
    · rintro g' m' bs v' N5 H5 e5 d5 r5 ⟨r, z, hr⟩
      exact k.rt g' m' bs v' N5 H5 ((e1.trans e2).trans e5) d5 r5 (ret r g' m' z hr)
    · rintro Γ' m' bs σ5 N5 H5 e5 d5 ⟨s', z, w⟩
      exact k.nx _ _ [] σ5 N5 H5 ((e1.trans e2).trans e5) (des0 (w.ok (by rw [hμ]; exact ha) d5)) (fin s' z)
    · rintro Γ' m' bs σ5 N5 H5 e5 d5 ⟨s', z, w⟩
      exact ⟨s', N5, (e1.trans e2).trans e5, w.ok (by rw [hμ]; exact ha) d5, z⟩
end
end G

/-! Core6: comprehensions; lists that change; answers of built-ins. -/
namespace G
open PySem PySem.Spec PyProof.Rows L2
open PySem.W (Datum Tup T3)

/-! ### comprehensions -/
def tPt (X : Cx) (ifs : List Expr) : TT := fun σ H Q => ∀ pins s, Inv X pins σ H s →
  wpAny (model X.prog X.w) X.A (forIn ifs true fun c r => if r = true then do let ok ← isTrue c X.env (eval c X.env); pure (ForInStep.yield ok) else pure (ForInStep.yield r)) (TP X pins σ Q) X.xe s
theorem ptsS {X : Cx} {ifs : List Expr} : PTs X ifs (tPt X ifs) := ⟨fun pins s _ _ _ I h => h pins s I⟩
theorem tPt_of {X : Cx} {ifs : List Expr} {t : TT} (h : PTs X ifs t) {σ : L2.St} {H : Hp} {Q : Bool → Hp → Prop} (q : t σ H Q) : tPt X ifs σ H Q := fun pins s I => h.run pins s σ H Q I q
def WTs (X : Cx) (B : Bs) (PX : PXT) (ifs : List Expr) (Γ : List Sl) (m : List MC) (P : Bool → List MC → Prop) : Prop :=
  ∀ as σ F H (Q : Bool → Hp → Prop), Des X.K B Γ m as σ F H → Xs X B PX as F →
    (∀ b m' N H2, Same F N → Des X.K B Γ m' as σ N H2 → P b m' → Q b H2) → tPt X ifs σ H Q
abbrev blkX (X : Cx) (scope : Scope) (s : Shared) (H : Hp) (C : Addr) (cl : List (Str × Addr)) (fp : List Addr) : Cx := X.blk s H scope (compEnvC scope cl C X.env) fp
def wipeG (Γ : List Sl) : List Nat → List Sl
  | [] => Γ
  | v :: vs => (wipeG Γ vs).set v un
section
variable {X : Cx} {B : Bs} {PX : PXT} {Γ : List Sl} {m : List MC} {e a b c : Expr} {es : List Expr} {pos p p1 p2 : Pos} {α β γ : Type}
theorem wts_nil {P : Bool → List MC → Prop} (h : P true m) : WTs X B PX [] Γ m P := fun as σ F H Q d hx k => tPt_of pts_nil (k true m F H (Same.refl F) d h)
theorem wts_one {P : Bool → List MC → Prop} (h : WT X B PX c Γ m P) : WTs X B PX [c] Γ m P := fun as σ F H Q d hx k => tPt_of (pts_one ptS) (h as σ F H Q d hx k)
theorem slots_wipe {K : PySem.W.Frag} {as : List Addr} {F : Hp} {σ : L2.St} (h : Slots K as F Γ σ) : ∀ vs : List Nat, Slots K as F (wipeG Γ vs) (wipe σ vs)
  | [] => h
  | v :: vs => (slots_wipe h vs).set v trivial
theorem wipe_set {σ : L2.St} {i : Nat} {o : Option V} : ∀ {vs : List Nat}, i ∈ vs → wipe (σ.set i o) vs = wipe σ vs
  | [], h => nomatch h
  | v :: vs, h => by
    show (wipe (σ.set i o) vs).set v none = (wipe σ vs).set v none
    by_cases hi : i ∈ vs
    · rw [wipe_set hi]
    · have hv : i = v := by
        rcases List.mem_cons.mp h with h | h
        · exact h
        · exact absurd h hi
      subst hv
      have : ∀ {ws : List Nat}, i ∉ ws → wipe (σ.set i o) ws = (wipe σ ws).set i o := by
        intro ws
        induction ws with
        | nil => intro _; rfl
        | cons w ws ih =>
          intro hw
          show (wipe (σ.set i o) ws).set w none = ((wipe σ ws).set w none).set i o
          rw [ih (fun z => hw (List.mem_cons_of_mem _ z)), List.set_comm _ _ (fun z => hw (by rw [z]; exact List.mem_cons_self))]
      rw [this hi, List.set_set]
theorem wipe_wipe {σ : L2.St} (vs : List Nat) : wipe (wipe σ vs) vs = wipe σ vs := by
  have : ∀ ws : List Nat, (∀ w ∈ ws, w ∈ vs) → wipe (wipe σ ws) vs = wipe σ vs := by
    intro ws
    induction ws with
    | nil => intro _; rfl
    | cons w ws ih =>
      intro h
      show wipe ((wipe σ ws).set w none) vs = _
      rw [wipe_set (h w List.mem_cons_self)]
      exact ih fun z hz => h z (List.mem_cons_of_mem _ hz)
  exact this vs fun _ h => h
/-- a comprehension's target: vs its slots -/
def TGU {α : Type} [Py α] (X : Cx) (scope : Scope) (vs : List Nat) (tg : Expr) (up : List Sl → α → List Sl) : Prop := ∃ g : TG, (∀ s H C cl fp, PG (blkX X scope s H C cl fp) tg g) ∧
  ∀ B Γ m as σ F H x v (Q : L2.St → Hp → Prop), Des X.K B Γ m as σ F H → Py.rep X.K x v F → (∀ σ' H' N, wipe σ' vs = wipe σ vs → Same F N → Des X.K B (up Γ x) m as σ' N H' → Q σ' H') → g v σ H Q
theorem tgu_name [Py α] {scope : Scope} {vs : List Nat} {i : Nat} {x : Str} (hN : X.N.Nodup) (hi : X.N[i]? = some x) (hv : i ∈ vs) (hx : ∀ s H C cl fp, Loc (blkX X scope s H C cl fp).env.scope x := by first | exact fun _ _ _ _ _ => Or.inl rfl | exact fun _ _ _ _ _ => Or.inr rfl)
    (hf : ∀ s H C cl fp, (blkX X scope s H C cl fp).fn x = true ∨ (blkX X scope s H C cl fp).env.scope.names.lookup x = some .local := by first | exact fun _ _ _ _ _ => .inr rfl | exact fun _ _ _ _ _ => .inl rfl) : TGU (α := α) X scope vs (.Name x pos) fun Γ y => Γ.set i (im y) :=
  ⟨gName i, fun s H C cl fp => pg_name hN hi (hx s H C cl fp) (hf s H C cl fp), fun B Γ m as σ F H x v Q d r k => k _ H F (wipe_set hv) (Same.refl F) (d.setSlot (g := im x) i ⟨v, rfl, r⟩)⟩
theorem tgu_pair [DecidableEq α] [Datum α] [DecidableEq β] [Datum β] {scope : Scope} {vs : List Nat} {k : Nat} {ua : List Sl → α → List Sl} {ub : List Sl → β → List Sl} (hc : X.calm = true) (ha : TGU X scope vs a ua) (hb : TGU X scope vs b ub)
    (h1 : ∀ s H C cl fp, (assignEach [a, b] (blkX X scope s H C cl fp).env).map (·.2) = assign a (blkX X scope s H C cl fp).env :: (assignEach [b] (blkX X scope s H C cl fp).env).map (·.2) := by exact fun _ _ _ _ _ => rfl) (h2 : ∀ s H C cl fp, (assignEach [b] (blkX X scope s H C cl fp).env).map (·.2) = assign b (blkX X scope s H C cl fp).env :: (assignEach [] (blkX X scope s H C cl fp).env).map (·.2) := by exact fun _ _ _ _ _ => rfl)
    (hn : ∀ s H C cl fp, (assignEach [a, b] (blkX X scope s H C cl fp).env).length = 2 := by exact fun _ _ _ _ _ => rfl) (hst : ∀ s H C cl fp, (assignEach [a, b] (blkX X scope s H C cl fp).env).findIdx? (·.1) = none := by exact fun _ _ _ _ _ => rfl) :
    TGU (α := α × β) X scope vs (.Tuple [a, b] k pos) fun Γ y => ub (ua Γ y.1) y.2 := by
  obtain ⟨ga, pa, qa⟩ := ha
  obtain ⟨gb, pb, qb⟩ := hb
  refine ⟨gTup X.K 2 (gCons ga (gCons gb gNil)), fun s H C cl fp => pg_tup (X := blkX X scope s H C cl fp) (n := 2) hc (pgs_cons (pa s H C cl fp) (pgs_cons (pb s H C cl fp) pgs_nil (h2 s H C cl fp)) (h1 s H C cl fp)) (hn s H C cl fp) (hst s H C cl fp), fun B Γ m as σ F H x v Q d r kk => ?_⟩
  obtain ⟨t, u, w, rfl, ht, r1, r2⟩ := rep_pair.mp r
  refine ⟨t, _, rfl, sqT_sub d.ok.sub ht, rfl, u, [w], rfl, ?_⟩
  refine qa B Γ m as σ F H x.1 u _ d r1 fun σ' H' N w1 e1 d1 => ⟨w, [], rfl, ?_⟩
  exact qb B _ m as σ' N H' x.2 w _ d1 (Py.up e1 r2) fun σ2 H2 N2 w2 e2 d2 => ⟨rfl, kk σ2 H2 N2 (w2.trans w1) (e1.trans e2) d2⟩
theorem compR_step {p : α → R Bool} {f : α → R β} {x : α} {xs : List α} {Q : List β → Prop} {E : Exn → Prop} (h : (compR p f (x :: xs)).sat Q E) :
    (p x).sat (fun b => match b with
      | true => (f x).sat (fun y => (compR p f xs).sat (fun ys => Q (y :: ys)) E) E
      | false => (compR p f xs).sat Q E) E := by
  refine (R.bind_sat.mp h).imp (fun b _ h => ?_) fun _ h => h
  cases b with
  | true =>
    refine (R.bind_sat.mp h).imp (fun y _ h => ?_) fun _ h => h
    exact R.bind_sat.mp h
  | false => exact h
/-- what a comprehension asks -/
structure CompOk [Py α] [DecidableEq β] [Datum β] (X : Cx) (B : Bs) (scope : Scope) (vs : List Nat) (elt : Expr) (ifs : List Expr) (up : List Sl → α → List Sl) (pr : α → R Bool) (f : α → R β) (Γ : List Sl) (P : Sl → List MC → Prop) (xs : List α) (m : List MC) : Prop where
  size : xs.length ≤ sizeLine
  ex : ∃ Q : List β → Prop, (compR pr f xs).sat Q (fun _ => False) ∧ (∀ ys, Q ys → P (mu m.length) (m ++ [lst ys])) ∧
    (∀ x (acc : List β) (T : Bool → Prop), x ∈ xs → (pr x).sat T (fun _ => False) → ∀ s H C cl fp, WTs (blkX X scope s H C cl fp) B nx0 ifs (up (wipeG Γ vs) x) (m ++ [lst acc]) fun b m' => m' = m ++ [lst acc] ∧ T b) ∧
    ∀ x (acc : List β) (T : β → Prop), x ∈ xs → (f x).sat T (fun _ => False) → ∀ s H C cl fp, WE (blkX X scope s H C cl fp) B nx0 elt (up (wipeG Γ vs) x) (m ++ [lst acc]) fun y m' => m' = m ++ [lst acc] ∧ T y
theorem lc_ok [Py α] [DecidableEq β] [Datum β] {P : Sl → List MC → Prop} {elt tg iter : Expr} {ifs : List Expr} {scope : Scope} {own : List (Str × Nat)} {up : List Sl → α → List Sl} (pr : α → R Bool) (f : α → R β)
    (ht : TGU X scope (own.map (·.2)) tg up) (h : WI X B PX tg iter Γ m fun xs m1 => CompOk X B scope (own.map (·.2)) elt ifs up pr f Γ P xs m1) :
    ∃ wi g tt te, PI X tg iter wi ∧ (∀ s H C cl fp, PG (blkX X scope s H C cl fp) tg g) ∧ (∀ s H C cl fp, PTs (blkX X scope s H C cl fp) ifs tt) ∧ (∀ s H C cl fp, PE (blkX X scope s H C cl fp) elt te) ∧
    ∀ as σ F H (Q : VK), Des X.K B Γ m as σ F H → Xs X B PX as F → (∀ g m' bs v N H2, Same F N → Des X.K B Γ m' (as ++ bs) σ N H2 → g.ok X.K (as ++ bs) N (some v) → P g m' → Q v H2) → tLc wi g tt te (own.map (·.2)) σ H Q := by
  obtain ⟨g, pg, qg⟩ := ht
  obtain ⟨wi, pw, q⟩ := h
  refine ⟨wi, g, fun σ H Q => ∀ s H0 C cl fp, tPt (blkX X scope s H0 C cl fp) ifs σ H Q, fun σ H Q => ∀ s H0 C cl fp, tEv (blkX X scope s H0 C cl fp) elt σ H Q, pw, pg, (fun s H C cl fp => ⟨fun pins s' σ' H' Q' I h => h s H C cl fp pins s' I⟩), (fun s H C cl fp => ⟨fun pins s' σ' H' Q' I h => h s H C cl fp pins s' I⟩), fun as σ F H Q d hx k => ?_⟩
  refine q as σ F H _ d hx fun xs m1 J N H1 e1 d1 wk ⟨sz, Qf, hQ, fin, htest, helt⟩ D hD => ?_
  refine ⟨fun i mm H' => mm = xs.length - i ∧ i ≤ xs.length ∧ ∃ (acc : List β) (N' : Hp), Same N N' ∧ Des X.K B Γ (m1 ++ [lst acc]) (as ++ [D]) σ N' H' ∧ acc.length ≤ i ∧ (compR pr f (xs.drop i)).sat (fun ys => Qf (acc ++ ys)) fun _ => False,
    ⟨xs.length, by omega, Nat.zero_le _, [], N, Same.refl N, d1.newM (c := lst ([] : List β)) hD ⟨[], rfl, Reps.nil⟩, Nat.le_refl _, hQ⟩, ?_⟩
  rintro i mm H' ⟨rfl, hi, acc, N', e2, d2, hl, hs2⟩
  obtain ⟨w1, w2, w3⟩ := wk i H' (e2.trans d2.ok.sub)
  have hlen : as.length = m1.length := d1.ok.len
  by_cases hlt : i < xs.length
  · refine .inr ⟨w1 hlt, fun H3 => ∃ (acc' : List β) (N3 : Hp), Same N N3 ∧ Des X.K B Γ (m1 ++ [lst acc']) (as ++ [D]) σ N3 H3 ∧ acc'.length ≤ i + 1 ∧ (compR pr f (xs.drop (i + 1))).sat (fun ys => Qf (acc' ++ ys)) fun _ => False,
      fun H3 ⟨acc', N3, z1, z2, z3, z4⟩ => ⟨xs.length - (i + 1), by omega, rfl, hlt, acc', N3, z1, z2, z3, z4⟩, fun v H3 y => ?_⟩
    obtain ⟨N3, e3, d3, r3⟩ := w3 xs[i] (List.getElem?_eq_getElem hlt) v H3 y _ _ _ σ N' e2 d2
    have hd : xs.drop i = xs[i] :: xs.drop (i + 1) := List.drop_eq_getElem_cons hlt
    rw [hd] at hs2
    have hm : xs[i] ∈ xs := List.getElem_mem hlt
    refine qg B (wipeG Γ (own.map (·.2))) _ _ (wipe σ (own.map (·.2))) N3 H3 xs[i] v _ ⟨slots_wipe d3.sl _, d3.ok⟩ r3 fun σ4 H4 N4 w4 e4 d4 => ?_
    refine ⟨by rw [w4, wipe_wipe], fun s0 H0 C cl fp => ?_⟩
    refine htest xs[i] acc _ hm (compR_step hs2) s0 H0 C cl fp _ σ4 N4 H4 _ d4 xs0 fun bb m5 N5 H5 e5 d5 ⟨em, z⟩ => ?_
    subst em
    cases bb with
    | false => exact iteF ⟨acc, N5, ((e2.trans e3).trans e4).trans e5, ⟨d3.sl.up (e4.trans e5), d5.ok⟩, Nat.le_succ_of_le hl, z⟩
    | true =>
      refine iteT fun s0 H0 C cl fp => ?_
      refine helt xs[i] acc _ hm z s0 H0 C cl fp _ σ4 N5 H5 _ d5 xs0 fun yv m6 yw N6 H6 e6 d6 r6 ⟨em, z⟩ => ?_
      subst em
      have hj : (m1 ++ [lst acc])[m1.length]? = some (lst acc) := by rw [List.getElem?_append_right (Nat.le_refl _), Nat.sub_self]; rfl
      have ha : (as ++ [D])[m1.length]? = some D := by rw [← hlen, List.getElem?_append_right (Nat.le_refl _), Nat.sub_self]; rfl
      obtain ⟨_, _, u, hu, ws, eu, ru⟩ := d6.ok.chg _ _ _ ha hj rfl
      subst eu
      have d7 := d6.put (c' := lst (acc ++ [yv])) (o := .lst (ws ++ [yw])) ha hj rfl ⟨_, rfl, ru.append (Reps.cons r6 Reps.nil)⟩
      rw [List.set_append_right _ _ (Nat.le_refl _), Nat.sub_self] at d7
      refine ⟨ws, hu, by rw [ru.length]; omega, acc ++ [yv], N6, (((e2.trans e3).trans e4).trans e5).trans e6, ⟨d3.sl.up ((e4.trans e5).trans e6), d7.ok⟩, by rw [List.length_append]; exact Nat.succ_le_succ hl, ?_⟩
      refine R.sat.imp z (fun ys _ h => ?_) fun _ h => h
      rw [List.append_assoc]
      exact h
  · have ei : i = xs.length := by omega
    subst ei
    rw [List.drop_of_length_le (Nat.le_refl _)] at hs2
    have hq : Qf acc := by
      have : Qf (acc ++ []) := hs2
      rw [List.append_nil] at this
      exact this
    refine .inl ⟨w2 (Nat.le_refl _), k (mu m1.length) _ [D] (.ref D) N' H' (e1.trans e2) d2 ⟨D, ?_, rfl⟩ (fin acc hq)⟩
    rw [← hlen, List.getElem?_append_right (Nat.le_refl _), Nat.sub_self]
    rfl
theorem wg_comp [Py α] [DecidableEq β] [Datum β] {P : Sl → List MC → Prop} {elt tg iter : Expr} {ifs : List Expr} {scope : Scope} {own : List (Str × Nat)} {up : List Sl → α → List Sl} (pr : α → R Bool) (f : α → R β) (hc : X.calm = true) (hN : X.N.Nodup) (ok : BlkOk X.N X.env.scope scope own)
    (ht : TGU X scope (own.map (·.2)) tg up) (h : WI X B PX tg iter Γ m fun xs m1 => CompOk X B scope (own.map (·.2)) elt ifs up pr f Γ P xs m1) (hs : ∀ x, foldedSetIterable iter X.env x = pure x := by intro _; rfl) : WG X B PX (.ListComp elt [⟨tg, iter, ifs, 0⟩] scope pos) Γ m P := fun as σ F H Q d hx k => by
  obtain ⟨wi, g, tt, te, h1, h2, h3, h4, h5⟩ := lc_ok pr f ht h
  exact tEv_of (pe_lc hc hN h1 ok h2 h3 h4 hs) (h5 as σ F H Q d hx k)
/-- name = [..], on one line: the list changes no more -/
theorem ws_setLcV [Py α] [DecidableEq β] [Datum β] {D : De} {i : Nat} {y : Str} {py spos : Pos} {elt tg iter : Expr} {ifs : List Expr} {scope : Scope} {own : List (Str × Nat)} {up : List Sl → α → List Sl} {pr : α → R Bool} {f : α → R β} (hc : X.calm = true) (hN : X.N.Nodup) (ok : BlkOk X.N X.env.scope scope own) (hy : X.N[i]? = some y)
    (ht : TGU X scope (own.map (·.2)) tg up) (h : WI X B PX tg iter Γ m fun xs m1 => CompOk X B scope (own.map (·.2)) elt ifs up pr f Γ (fun g m' => ∃ c x m2, g = mu m.length ∧ m' = m2 ++ [c] ∧ m2.length = m.length ∧ c.live = true ∧ Fz c (im x) ∧ D.nx (Γ.set i (im (x : List β))) m2) xs m1)
    (hk : X.env.scope.kind = .function := by rfl) (hyl : X.env.scope.names.lookup y = some .local := by rfl) (hl : (py.line == pos.line) = true := by rfl) (ha : (scope.names.any fun (n, k) => n == y && (k == .local || k == .cell)) = false := by rfl)
    (hs : ∀ x, foldedSetIterable iter X.env x = pure x := by intro _; rfl) : WS X B PX (.Assign [.Name y py] (.ListComp elt [⟨tg, iter, ifs, 0⟩] scope pos) spos) Γ m D := fun as σ F H E d hx k => by
  obtain ⟨wi, g, tt, te, h1, h2, h3, h4, h5⟩ := lc_ok pr f ht h
  exact tSt_of (ps_setLc hc hN hy hyl (sw_true hk hyl hl ha) h1 ok h2 h3 h4 hs) (h5 as σ F H _ d hx (frz_k d fun x m' v N H2 e' d' r p => k.nx _ m' [] _ N H2 e' (des0 (d'.setSlot (g := im x) i ⟨v, rfl, r⟩)) p))
/-- .. as a value -/
theorem we_comp [Py α] [DecidableEq β] [Datum β] {P : List β → List MC → Prop} {elt tg iter : Expr} {ifs : List Expr} {scope : Scope} {own : List (Str × Nat)} {up : List Sl → α → List Sl} (pr : α → R Bool) (f : α → R β) (hc : X.calm = true) (hN : X.N.Nodup) (ok : BlkOk X.N X.env.scope scope own)
    (ht : TGU X scope (own.map (·.2)) tg up) (h : WI X B PX tg iter Γ m fun xs m1 => CompOk X B scope (own.map (·.2)) elt ifs up pr f Γ (fun g m' => ∃ ys m2, m2.length = m.length ∧ g = mu m.length ∧ m' = m2 ++ [lst ys] ∧ P ys m2) xs m1) (hs : ∀ x, foldedSetIterable iter X.env x = pure x := by intro _; rfl) : WE X B PX (.ListComp elt [⟨tg, iter, ifs, 0⟩] scope pos) Γ m P :=
  WG.frz (WG.imp (wg_comp pr f hc hN ok ht h hs) fun g m' q => by
    obtain ⟨ys, m2, hl, eg, em, p⟩ := q
    exact ⟨lst ys, ys, m2, eg, em, hl, rfl, fz_lst, p⟩)
end

/-! ### methods of lists that change -/
section
variable {X : Cx} {B : Bs} {PX : PXT} {Γ : List Sl} {m : List MC} {e a b c : Expr} {es : List Expr} {pos p p1 p2 : Pos} {α β γ : Type} [DecidableEq α] [Datum α]
theorem des_lst {K : PySem.W.Frag} {as : List Addr} {F H : Hp} {j : Nat} {xs : List α} {a : Addr} (d : Ok K B as m F H) (ha : as[j]? = some a) (hc : m[j]? = some (lst xs)) : F a = none ∧ ∃ vs, H a = some (.lst vs) ∧ Reps K F xs vs := by
  obtain ⟨z, _, u, hu, vs, eu, r⟩ := d.chg j a _ ha hc rfl
  subst eu
  exact ⟨z, vs, hu, r⟩
theorem ixC {x : Str} {i : Nat} {j : Nat} (hg : Γ[i]? = some (mu j)) {K : PySem.W.Frag} {as : List Addr} {σ : L2.St} {F : Hp} (d : Slots K as F Γ σ) : ∃ a, as[j]? = some a ∧ σ[i]? = some (some (.ref a)) := by
  obtain ⟨o, ho, a, ha, rfl⟩ := d.get hg
  exact ⟨a, ha, ho⟩
variable {x : Str} {i j : Nat} {apos : Pos}
theorem tyV_list {K : PySem.W.Frag} {as : List Addr} {F H : Hp} {a : Addr} {xs : List α} (d : Ok K B as m F H) (ha : as[j]? = some a) (hc : m[j]? = some (lst xs)) : tyV K "list" (.ref a) H := by
  obtain ⟨_, vs, h, _⟩ := des_lst d ha hc
  exact .inl ⟨rfl, vs, SqL.of h⟩
variable {xs0 : List α}
/-- x.append(e) -/
theorem we_append {P : Unit → List MC → Prop} (hN : X.N[i]? = some x) (hg : Γ[i]? = some (mu j)) (hm0 : m[j]? = some (lst xs0)) (h : WE X B PX e Γ m fun (y : α) m1 => ∃ xs : List α, m1[j]? = some (lst xs) ∧ xs.length < sizeLine ∧ P () (m1.set j (lst (xs ++ [y]))))
    (hbase : attributeBase (.Name x p) ("append" : Str) X.env (eval (.Name x p) X.env) = eval (.Name x p) X.env := by rfl)
    (hfew : ((backTo pos (starEach [e] X.env)).all (fun x => !x.1) && (backToKw pos (keywordEach [] X.env)).all (fun x => x.1.isSome) && decide (([e] : List Expr).length + ([] : List Keyword).length + (if ([] : List Keyword).isEmpty then 0 else 1) < 30)) = true := by rfl)
    (hline : (apos.endLine == pos.line) = true := by rfl) (hs : starEach [e] X.env = (false, eval e X.env) :: starEach [] X.env := by rfl) (hplain : (backTo pos (starEach [] X.env)).any (·.1) = false := by rfl)
    (hv : Vis X.env.scope x := by first | exact Or.inl rfl | exact Or.inr (Or.inl rfl) | exact Or.inr (Or.inr rfl)) (hd : (x == ("__debug__" : Str)) = false := by decide) (hcd : (x == ("__classdict__" : Str)) = false := by decide) :
    WE X B PX (.Call (.Attribute (.Name x p) "append" apos) [e] [] pos) Γ m P := fun as σ F H Q d hx k => by
  obtain ⟨ad, ha, ho⟩ := ixC (x := x) hg d.sl
  refine tEv_of (pe_bm PySem.F.plainAttrs_list PySem.F.slot_list_append PySem.F.type_list_append mt_append (pe_var hN hv hd hcd) (pa_cons peS pa_nil hs) hbase hfew hline hs hplain) ⟨_, ho, tyV_list d.ok ha hm0, ?_⟩
  exact h as σ F H _ d hx fun y m1 v N H1 e1 d1 r1 ⟨xs, hm, hl, pp⟩ => by
    obtain ⟨_, vs, hvs, rr⟩ := des_lst d1.ok ha hm
    exact ⟨ad, vs, v, rfl, rfl, hvs, by rw [rr.length]; exact hl, k () _ .non N _ e1 (d1.put (c' := lst (xs ++ [y])) ha hm rfl ⟨_, rfl, rr.append (Reps.cons r1 Reps.nil)⟩) (rep_unit.mpr rfl) pp⟩
/-- x.extend(e) -/
theorem we_extend {P : Unit → List MC → Prop} (hN : X.N[i]? = some x) (hg : Γ[i]? = some (mu j)) (hm0 : m[j]? = some (lst xs0)) (h : WE X B PX e Γ m fun (ys : List α) m1 => ∃ xs : List α, m1[j]? = some (lst xs) ∧ xs.length + ys.length ≤ sizeLine ∧ P () (m1.set j (lst (xs ++ ys))))
    (hbase : attributeBase (.Name x p) ("extend" : Str) X.env (eval (.Name x p) X.env) = eval (.Name x p) X.env := by rfl)
    (hfew : ((backTo pos (starEach [e] X.env)).all (fun x => !x.1) && (backToKw pos (keywordEach [] X.env)).all (fun x => x.1.isSome) && decide (([e] : List Expr).length + ([] : List Keyword).length + (if ([] : List Keyword).isEmpty then 0 else 1) < 30)) = true := by rfl)
    (hline : (apos.endLine == pos.line) = true := by rfl) (hs : starEach [e] X.env = (false, eval e X.env) :: starEach [] X.env := by rfl) (hplain : (backTo pos (starEach [] X.env)).any (·.1) = false := by rfl)
    (hv : Vis X.env.scope x := by first | exact Or.inl rfl | exact Or.inr (Or.inl rfl) | exact Or.inr (Or.inr rfl)) (hd : (x == ("__debug__" : Str)) = false := by decide) (hcd : (x == ("__classdict__" : Str)) = false := by decide) :
    WE X B PX (.Call (.Attribute (.Name x p) "extend" apos) [e] [] pos) Γ m P := fun as σ F H Q d hx k => by
  obtain ⟨ad, ha, ho⟩ := ixC (x := x) hg d.sl
  refine tEv_of (pe_bm PySem.F.plainAttrs_list PySem.F.slot_list_extend PySem.F.type_list_extend mt_extend (pe_var hN hv hd hcd) (pa_cons peS pa_nil hs) hbase hfew hline hs hplain) ⟨_, ho, tyV_list d.ok ha hm0, ?_⟩
  exact h as σ F H _ d hx fun ys m1 v N H1 e1 d1 r1 ⟨xs, hm, hl, pp⟩ => by
    obtain ⟨_, vs, hvs, rr⟩ := des_lst d1.ok ha hm
    obtain ⟨l, ws, rfl, hw, rw'⟩ := rep_list.mp r1
    exact ⟨ad, l, vs, ws, rfl, rfl, hvs, d1.ok.sub _ _ hw, by rw [rr.length, rw'.length]; exact hl, k () _ .non N _ e1 (d1.put (c' := lst (xs ++ ys)) ha hm rfl ⟨_, rfl, rr.append rw'⟩) (rep_unit.mpr rfl) pp⟩

/-! ### answers of built-ins -/
theorem we_lenX [Py β] {P : Int → List MC → Prop} {n : β → Nat} (hm : X.mg "len" = none) (hl : ∀ F H x v, Same F H → Py.rep X.K x v F → LenV X.K v H (n x)) (h : WE X B PX e Γ m fun (x : β) m1 => P (n x : Int) m1)
    (hg : Gl X "len" := by rfl) (hs : starEach [e] X.env = (false, eval e X.env) :: starEach [] X.env := by rfl) (hpl : (backTo pos (starEach [] X.env)).any (·.1) = false := by rfl) : WE X B PX (.Call (.Name "len" p) [e] [] pos) Γ m P := fun as σ F H Q d hx k =>
  tEv_of (pe_callB call_len hg hm PySem.boot_len (pa_cons peS pa_nil hs) (by decide) (by decide) hs hpl) (h as σ F H _ d hx fun y m1 v N H1 e1 d1 r1 pp => ⟨v, n y, rfl, hl N H1 y v d1.ok.sub r1, k _ m1 _ N H1 e1 d1 (rep_int.mpr rfl) pp⟩)
theorem we_lenL {P : Int → List MC → Prop} (hm : X.mg "len" = none) (h : WE X B PX e Γ m fun (x : List α) m1 => P (x.length : Int) m1)
    (hg : Gl X "len" := by rfl) (hs : starEach [e] X.env = (false, eval e X.env) :: starEach [] X.env := by rfl) (hpl : (backTo pos (starEach [] X.env)).any (·.1) = false := by rfl) : WE X B PX (.Call (.Name "len" p) [e] [] pos) Γ m P :=
  we_lenX hm (fun F H x v s r => lenV_list s r) h hg hs hpl
theorem we_lenT {P : Int → List MC → Prop} (hm : X.mg "len" = none) (h : WE X B PX e Γ m fun (x : Tup α) m1 => P (x.items.length : Int) m1)
    (hg : Gl X "len" := by rfl) (hs : starEach [e] X.env = (false, eval e X.env) :: starEach [] X.env := by rfl) (hpl : (backTo pos (starEach [] X.env)).any (·.1) = false := by rfl) : WE X B PX (.Call (.Name "len" p) [e] [] pos) Γ m P :=
  we_lenX hm (fun F H x v s r => lenV_tup s r) h hg hs hpl
end
end G

/-! Core7: what the head tells of a text. -/
namespace G
open PySem PySem.Spec PyProof.Rows L2
/-! ### data that the top has written -/
mutual
def datB (K : PySem.W.Frag) : PyData → Value → Bool
  | .none, .none => true
  | .bool b, .bool c => b == c
  | .int i, .int j _ => decide (i = j)
  | .str x, .str y _ => decide (x = y)
  | .tuple ds, .ref a => (match K.lookup a with
    | some ⟨.type c, _, .seq its _, _⟩ => decide (c = "tuple") && (decide (its.size ≤ sizeLine) && datsB K ds its.toList)
    | _ => false)
  | _, _ => false
def datsB (K : PySem.W.Frag) : List PyData → List Value → Bool
  | [], [] => true
  | d :: ds, u :: us => datB K d u && datsB K ds us
  | _, _ => false
end
section
variable {K : PySem.W.Frag}
mutual
theorem datB_ok (F : Hp) : ∀ (d : PyData) (u : Value), datB K d u = true → ∃ v, RelV v u ∧ Dq K F v d
  | .none, .none, _ => ⟨.non, rfl, .non⟩
  | .bool b, .bool c, h => ⟨.bl c, rfl, by
      unfold datB at h
      have e : b = c := by simpa using h
      rw [e]
      exact .bl c⟩
  | .int i, .int j t, h => ⟨.int j, ⟨t, rfl⟩, by
      unfold datB at h
      rw [of_decide_eq_true h]
      exact .int j⟩
  | .str x, .str y t, h => ⟨.str y, ⟨t, rfl⟩, by
      unfold datB at h
      rw [of_decide_eq_true h]
      exact .str y⟩
  | .tuple ds, .ref a, h => by
    unfold datB at h
    cases q : K.lookup a with
    | none => rw [q] at h; cases h
    | some o =>
      obtain ⟨oc, od, dt, osl⟩ := o
      rw [q] at h
      cases oc with
      | type c =>
        cases dt with
        | seq its n =>
          have h' : (decide (c = "tuple") && (decide (its.size ≤ sizeLine) && datsB K ds its.toList)) = true := h
          obtain ⟨h1, h2⟩ := Bool.and_eq_true_iff.mp h'
          obtain ⟨h3, h4⟩ := Bool.and_eq_true_iff.mp h2
          obtain ⟨vs, hv, hd⟩ := datsB_ok F ds its.toList h4
          exact ⟨.ref a, rfl, .tup (.inr ⟨_, its, n, q, congrArg Value.type (of_decide_eq_true h1), rfl, of_decide_eq_true h3, hv⟩) hd⟩
        | _ => cases h
      | _ => cases dt <;> cases h
theorem datsB_ok (F : Hp) : ∀ (ds : List PyData) (us : List Value), datsB K ds us = true → ∃ vs, Vals vs us ∧ Dqs K F vs ds
  | [], [], _ => ⟨[], .nil, .nil⟩
  | d :: ds, u :: us, h => by
    unfold datsB at h
    obtain ⟨h1, h2⟩ := Bool.and_eq_true_iff.mp h
    obtain ⟨v, r, hd⟩ := datB_ok F d u h1
    obtain ⟨vs, rs, hds⟩ := datsB_ok F ds us h2
    exact ⟨v :: vs, .cons r rs, .cons hd hds⟩
end
end
/-- the module's tuples are as written -/
def consB (cs : List (Str × PyData)) (K : PySem.W.Frag) : Bool := cs.all fun c => datB K c.2 (.ref (He.ga K c.1))
structure Txt (fa : List He.Fa) (fn : List He.DefD) (cs : List (Str × PyData)) (K : PySem.W.Frag) (mg : Str → Option Value) : Prop where
  d : He.SaysD fa fn K
  c : consB cs K = true
  h : ∃ h : Heap, K.In h ∧ h.Ns mainGlobals mg
section
variable {fa : List He.Fa} {fn : List He.DefD} {cs : List (Str × PyData)} {K : PySem.W.Frag} {mg : Str → Option Value}
theorem Txt.glo (T : Txt fa fn cs K mg) (i : Nat) {x : Str} (e : fa[i]? = some (.glo x)) : mg x = some (.ref (He.ga K x)) := by
  obtain ⟨h, X, N⟩ := T.h
  exact He.glo_ok X N (T.d.fact i e)
theorem Txt.free (T : Txt fa fn cs K mg) (i : Nat) {x : Str} (e : fa[i]? = some (.free x)) : mg x = none := by
  obtain ⟨h, X, N⟩ := T.h
  exact He.free_ok X N (T.d.fact i e)
theorem Txt.int (T : Txt fa fn cs K mg) (i : Nat) {x : Str} {n : Int} (e : fa[i]? = some (.int x n)) : ∃ t, mg x = some (.int n t) := by
  obtain ⟨h, X, N⟩ := T.h
  exact He.int_ok X N (T.d.fact i e)
theorem Txt.str (T : Txt fa fn cs K mg) (i : Nat) {x z : Str} (e : fa[i]? = some (.str x z)) : ∃ t, mg x = some (.str z t) := by
  obtain ⟨h, X, N⟩ := T.h
  exact He.str_ok X N (T.d.fact i e)
theorem Txt.con (T : Txt fa fn cs K mg) (i : Nat) {c : Str × PyData} (e : cs[i]? = some c) (F : Hp) : Dq K F (.ref (He.ga K c.1)) c.2 := by
  have h := List.all_eq_true.mp T.c c (List.mem_of_getElem? e)
  obtain ⟨v, r, q⟩ := datB_ok F _ _ h
  cases v with
  | ref a =>
    cases r
    exact q
  | int i =>
    obtain ⟨_, z⟩ := r
    cases z
  | str i =>
    obtain ⟨_, z⟩ := r
    cases z
  | byt i =>
    obtain ⟨_, z⟩ := r
    cases z
  | flt i =>
    obtain ⟨_, z⟩ := r
    cases z
  | _ => cases r
end
end G

/-! Core8: dicts of cells. -/
namespace G
open PySem PySem.Spec PyProof.Rows L2
open PySem.W (Datum Tup T3)
abbrev Cell := Int × Int
/-- an entry: the cell, where its tuple stands -/
abbrev En := Cell × Addr
def enK (x : En) : List Int × Addr × Value := ([x.1.1, x.1.2], x.2, .bool true)
def RawD (a : Addr) (xs : List En) (h : Heap) : Prop := ∃ (P : Program) (w : World) (o : Obj) (es : Array DictEntry) (ep : Nat),
  h.get? a = some o ∧ o.ExactDict ∧ o.data = .dict es ep ∧ es.toList = (xs.map enK).map (entryOfKey (tupleKind (intKind P w)))
abbrev dO (a : Addr) (xs : List En) : HO := .ext (RawD a xs)
def KeysAt (K : PySem.W.Frag) (F : Hp) (xs : List En) : Prop := ∀ x ∈ xs, SqT K F x.2 [.int x.1.1, .int x.1.2]
theorem KeysAt.up {K : PySem.W.Frag} {F N : Hp} {xs : List En} (e : Same F N) (h : KeysAt K F xs) : KeysAt K N xs := fun x hx => sqT_up e (h x hx)
/-- a dict: these cells, each with True -/
def kd (ks : List Cell) : MC := ⟨true, fun K a F u => ∃ xs : List En, u = dO a xs ∧ (a == sysModules) = false ∧ xs.map (·.1) = ks ∧ ks.Nodup ∧ ks.length ≤ sizeLine ∧ KeysAt K F xs,
  fun e ⟨xs, h1, h2, h3, h4, h5, h6⟩ => ⟨xs, h1, h2, h3, h4, h5, h6.up e⟩⟩
def putC (ks : List Cell) (c : Cell) : List Cell := if c ∈ ks then ks else ks ++ [c]
def popC (ks : List Cell) (c : Cell) : List Cell := ks.filter fun k => decide (k ≠ c)
section
variable {xs : List En} {c : Cell}
theorem key_ne {x y : Cell} (h : x ≠ y) : [x.1, x.2] ≠ [y.1, y.2] := fun e => h (by
  injection e with e1 e2
  injection e2 with e2 _
  exact Prod.ext e1 e2)
theorem key_eq {x y : Cell} : [x.1, x.2] = [y.1, y.2] ↔ x = y := ⟨fun e => Classical.byContradiction fun h => key_ne h e, fun e => by rw [e]⟩
theorem atK_some {c : Cell} : ∀ {xs : List En}, (atKey (xs.map enK) [c.1, c.2]).isSome = decide (c ∈ xs.map (·.1))
  | [] => rfl
  | x :: xs => by
    have ih := atK_some (c := c) (xs := xs)
    unfold atKey at ih ⊢
    rw [List.map_cons, List.find?_cons, List.map_cons]
    by_cases h : x.1 = c
    · have h' : (enK x).1 = [c.1, c.2] := by rw [← h]; rfl
      rw [decide_eq_true h']
      simp [h]
    · have h' : ¬ (enK x).1 = [c.1, c.2] := fun e => h (key_eq.mp e)
      rw [decide_eq_false h']
      have : decide (c ∈ x.1 :: xs.map (·.1)) = decide (c ∈ xs.map (·.1)) := by
        simp [Ne.symm h]
      rw [this]
      exact ih
theorem atK_true : ∀ {xs : List En} {p : Addr × Value}, atKey (xs.map enK) [c.1, c.2] = some p → p.2 = .bool true := by
  intro xs p h
  unfold atKey at h
  obtain ⟨y, hy, e⟩ := Option.map_eq_some_iff.mp h
  obtain ⟨z, _, ez⟩ := List.mem_map.mp (List.mem_of_find?_eq_some hy)
  rw [← e, ← ez]
  rfl
theorem stored_K {b : Addr} : storedH (xs.map enK) [c.1, c.2] b (.bool true) = (if c ∈ xs.map (·.1) then xs else xs ++ [(c, b)]).map enK := by
  unfold storedH
  rw [atK_some]
  by_cases h : c ∈ xs.map (·.1)
  · rw [if_pos (decide_eq_true h), if_pos h, List.map_map]
    refine List.map_congr_left fun x _ => ?_
    show putAt [c.1, c.2] (.bool true) (enK x) = enK x
    unfold putAt
    split <;> rfl
  · rw [if_neg (by simp [h]), if_neg h, List.map_append]
    rfl
theorem without_K : withoutH (xs.map enK) [c.1, c.2] = (xs.filter fun x => decide (x.1 ≠ c)).map enK := by
  unfold withoutH
  rw [List.filter_map]
  congr 1
  refine List.filter_congr fun x _ => ?_
  show decide ((enK x).1 ≠ [c.1, c.2]) = _
  by_cases h : x.1 = c
  · have h' : ¬ (enK x).1 ≠ [c.1, c.2] := fun z => z (key_eq.mpr h)
    rw [decide_eq_false h', decide_eq_false (fun z => z h)]
  · have h' : (enK x).1 ≠ [c.1, c.2] := fun z => h (key_eq.mp z)
    rw [decide_eq_true h', decide_eq_true h]
end
section
variable {X : Cx} {pins : List (Addr × Obj)} {σ : L2.St} {H : Hp} {s : Shared} {a b : Addr} {xs : List En} {c : Cell}
theorem cell_is (I : Inv X pins σ H s) (h : SqT X.K H b [.int c.1, .int c.2]) : (tupleKind (intKind X.prog X.w)).is s.heap [c.1, c.2] b := by
  obtain ⟨its, r, ⟨o, ho, hc, n, hd⟩, _⟩ := I.tuple h
  refine ⟨o, its.toArray, n, ho, hc, hd, ?_⟩
  obtain ⟨u1, u2, rfl, r1, r2⟩ := vals2 r
  obtain ⟨t1, rfl⟩ := r1
  obtain ⟨t2, rfl⟩ := r2
  exact .cons (by simp [PySem.intKind, Value.isInt]) (.cons (by simp [PySem.intKind, Value.isInt]) .nil)
theorem enK_nodup (nd : (xs.map (·.1)).Nodup) : ((xs.map enK).map (·.1)).Nodup := by
  rw [List.map_map]
  have e : xs.map ((fun x : List Int × Addr × Value => x.1) ∘ enK) = (xs.map (·.1)).map fun k : Cell => [k.1, k.2] := by
    rw [List.map_map]
    rfl
  rw [e]
  refine List.Pairwise.map _ (fun x y h => ?_) nd
  exact key_ne h
theorem dO_open (I : Inv X pins σ H s) (e : H a = some (dO a xs)) (hk : KeysAt X.K H xs) (nd : (xs.map (·.1)).Nodup) : s.heap.DictOfH (tupleKind (intKind X.prog X.w)) a (xs.map enK) := by
  obtain ⟨⟨P, w, o, es, ep, h1, h2, h3, h4⟩, _, _⟩ := I.hok a _ e
  refine ⟨o, es, ep, h1, h2, h3, h4, fun x hx => ?_, enK_nodup nd⟩
  obtain ⟨y, hy, rfl⟩ := List.mem_map.mp hx
  exact cell_is I (hk y hy)
theorem dO_new {P : Program} {w : World} {H' : Hp} {h' : Heap} (d : h'.DictOfH (tupleKind (intKind P w)) a (xs.map enK)) : ObjOk P w H' h' a (dO a xs) := by
  obtain ⟨o, es, ep, h1, h2, h3, h4, _, _⟩ := d
  exact ⟨⟨P, w, o, es, ep, h1, h2, h3, h4⟩, ⟨o, h1⟩, fun g1 g2 ⟨P, w, o, es, ep, h1, h2, h3, h4⟩ k => ⟨P, w, o, es, ep, k o h1, h2, h3, h4⟩⟩
/-- {} -/
theorem pe_dnewC {pos : Pos} : PE X (.Dict [] [] pos) (fun _ H Q => ∀ p, H p = none → (p == sysModules) = false → Q (.ref p) (upd H p (dO p []))) := ⟨fun pins s σ H Q I h =>
  wpAny_Dict_empty ⟨.ref s.heap.objs.size, _, I.laid (a := s.heap.objs.size) (o := dO s.heap.objs.size []) (t' := s.toks) (fun _ _ q => Heap.get?_push_of_some _ q) (Nat.le_refl _) (dO_new (xs := []) (Heap.DictOfH.new s.heap)), rfl,
    h _ (I.hok.fresh (Nat.le_refl _)) (beq_eq_false_iff_ne.mpr (Ne.symm (Nat.ne_of_lt I.big)))⟩⟩
def DAt (K : PySem.W.Frag) (H : Hp) (a : Addr) (xs : List En) : Prop := H a = some (dO a xs) ∧ (a == sysModules) = false ∧ (xs.map (·.1)).Nodup ∧ xs.length ≤ sizeLine ∧ KeysAt K H xs
def rInC (K : PySem.W.Frag) (neg : Bool) : R2 := fun y x H Q => ∃ a b xs c, y = .ref b ∧ x = .ref a ∧ DAt K H a xs ∧ SqT K H b [.int c.1, .int c.2] ∧ Q (.bl (if neg then !decide (c ∈ xs.map (·.1)) else decide (c ∈ xs.map (·.1)))) H
theorem op_inC (hu : X.A.units + 64 < cLine) : OpR X (compareOp .In) (rInC X.K false) := by
  intro pins s σ H y x v u Q I ry rx h
  obtain ⟨a, b, xs, c, rfl, rfl, ⟨e, sm, nd, hl, hk⟩, hb, q⟩ := h
  cases ry
  cases rx
  exact wpAny_in_heap (tupleKind_room_in1 (by omega)) (cell_is I hb) sm (dO_open I e hk nd) ⟨_, H, I.tok _, by rw [atK_some]; rfl, q⟩
theorem op_notinC (hu : X.A.units + 64 < cLine) : OpR X (compareOp .NotIn) (rInC X.K true) := by
  intro pins s σ H y x v u Q I ry rx h
  obtain ⟨a, b, xs, c, rfl, rfl, ⟨e, sm, nd, hl, hk⟩, hb, q⟩ := h
  cases ry
  cases rx
  exact wpAny_notIn_heap (tupleKind_room_in1 (by omega)) (cell_is I hb) sm (dO_open I e hk nd) ⟨_, H, I.tok _, by rw [atK_some]; rfl, q⟩
/-- d[y] = True -/
theorem ps_dputC {o i value : Expr} {pos pos' : Pos} {td ty tv : TE} (hu : X.A.units + 64 < cLine) (ho : PE X o td) (hi : PE X i ty) (hv : PE X value tv) (hs : swapsWith value (some (.Subscript o i pos')) pos.line X.env = pure false) :
    PS X (.Assign [.Subscript o i pos'] value pos) (fun D σ H => tv σ H fun v H1 => td σ H1 fun x H2 => ty σ H2 fun y H3 => ∃ a b xs c, v = .bl true ∧ x = .ref a ∧ y = .ref b ∧ DAt X.K H3 a xs ∧ xs.length < sizeLine ∧ SqT X.K H3 b [.int c.1, .int c.2] ∧
      D.nx σ (upd H3 a (dO a (if c ∈ xs.map (·.1) then xs else xs ++ [(c, b)])))) := by
  refine ⟨fun pins s σ H D I h => wpAny_Assign_Subscript (thn (hv.run pins s σ H _ I h) fun r s1 ⟨v, H1, I1, rv, q1⟩ => thn (ho.run pins s1 σ H1 _ I1 q1) fun u s2 ⟨x, H2, I2, rx, q2⟩ =>
    thn (hi.run pins s2 σ H2 _ I2 q2) fun iv s3 ⟨y, H3, I3, ry, a, b, xs, c, ev, ex, ey, ⟨e, sm, nd, hl, hk⟩, hz, hb, q3⟩ => ?_) hs⟩
  subst ev ex ey
  cases rv
  cases rx
  cases ry
  refine wpAny_setItem_heap (tupleKind_room_in1 (by omega)) (cell_is I3 hb) (dO_open I3 e hk nd) (fun h' dd hs' => ?_) (by rw [List.length_map]; exact hl)
  rw [stored_K] at dd
  have he : ∃ q, h'.get? a = some q := let ⟨q, _, _, hq, _⟩ := dd; ⟨q, hq⟩
  exact ⟨σ, _, d_write I3 (by rw [e]; exact True.intro) hs' he (dO_new dd), q3⟩
/-- d.pop(y), y there -/
theorem pe_dpopC {o e : Expr} {apos cpos : Pos} {td ty : TE} (hu : X.A.units + 64 < cLine) (ho : PE X o td) (he : PE X e ty) (m : M1 X o "pop" apos e cpos) :
    PE X (.Call (.Attribute o "pop" apos) [e] [] cpos) (fun σ H Q => td σ H fun x H1 => ∃ a xs0, x = .ref a ∧ DAt X.K H1 a xs0 ∧ ty σ H1 fun y H2 => ∃ b xs c, y = .ref b ∧ DAt X.K H2 a xs ∧ SqT X.K H2 b [.int c.1, .int c.2] ∧ c ∈ xs.map (·.1) ∧
      Q (.bl true) (upd H2 a (dO a (xs.filter fun x => decide (x.1 ≠ c))))) := by
  refine ⟨fun pins s σ H Q I h => ?_⟩
  refine wpAny_Call_method m.base m.few m.line PySem.F.plainAttrs_dict PySem.F.slot_dict_pop PySem.F.type_dict_pop (thn (ho.run pins s σ H _ I h) fun u s1 ⟨x, H1, I1, rx, a, xs0, ex, ⟨e0, sm0, nd0, hl0, hk0⟩, q1⟩ => ?_)
  subst ex
  cases rx
  have d0 := dO_open I1 e0 hk0 nd0
  refine ⟨d0.typeIs, fun b q => ?_, ?_⟩
  · cases q
    obtain ⟨ob, _, _, h1, h2, _⟩ := d0
    exact ⟨ob, h1, h2.2.1⟩
  rw [m.trees]
  refine Calls.callWith_builtin rfl (Calls.evalArgs_plain (Calls.spliced_cons (thn (he.run pins s1 σ H1 _ I1 q1) fun iv s2 ⟨y, H2, I2, ry, b, xs, c, ey, ⟨e2, sm, nd, hl, hk⟩, hb, hc, q2⟩ => Calls.spliced_nil ?_)))
  subst ey
  cases ry
  have hsome : (atKey (xs.map enK) [c.1, c.2]).isSome = true := by rw [atK_some]; exact decide_eq_true hc
  obtain ⟨p, hp⟩ := Option.isSome_iff_exists.mp hsome
  refine call_pop_heap (.inl rfl) (PySem.F.args_dict_pop_2 _ _) (tupleKind_room_in1 (by omega)) (cell_is I2 hb) sm (dO_open I2 e2 hk nd) hp (fun h' dd hs' => ?_) (by rw [List.length_map]; exact hl)
  rw [without_K] at dd
  have hq : ∃ q, h'.get? a = some q := let ⟨q, _, _, hq, _⟩ := dd; ⟨q, hq⟩
  exact ⟨.bl true, _, d_write I2 (by rw [e2]; exact True.intro) hs' hq (dO_new dd), (atK_true hp).symm ▸ rfl, q2⟩
/-- len(d) -/
theorem call_lenC : CallR X (.builtin "len") (fun vs H Q => ∃ a xs, vs = [.ref a] ∧ DAt X.K H a xs ∧ Q (.int (xs.length : Int)) H) := by
  intro pins s σ H vs us Q I r h
  obtain ⟨a, xs, rfl, ⟨e, sm, nd, hl, hk⟩, q⟩ := h
  obtain ⟨u, rfl, ru⟩ := vals1 r
  cases ru
  have hf : (((xs.map enK).length : Nat) : Int) < 2 ^ 63 := by rw [List.length_map]; have := sizeLine_eq; omega
  refine call_len_dictH sm (dO_open I e hk nd) hf ?_
  rw [List.length_map]
  exact ⟨.int _, H, I.tok _, ⟨_, rfl⟩, q⟩
end
end G

/-! Core9: rules for dicts of cells; sorted. -/
namespace G
open PySem PySem.Spec PyProof.Rows L2
open PySem.W (Datum Tup T3)
section
variable {K : PySem.W.Frag} {F : Hp} {c : Cell} {v : V}
theorem rep_cell : Py.rep K c v F ↔ ∃ b, v = .ref b ∧ SqT K F b [.int c.1, .int c.2] := by
  rw [rep_pair]
  constructor
  · rintro ⟨a, u, w, rfl, h, h1, h2⟩
    rw [rep_int] at h1 h2
    subst h1 h2
    exact ⟨a, rfl, h⟩
  · rintro ⟨a, rfl, h⟩
    exact ⟨a, _, _, rfl, h, rep_int.mpr rfl, rep_int.mpr rfl⟩
end
section
variable {X : Cx} {B : Bs} {PX : PXT} {Γ : List Sl} {m : List MC} {e a b : Expr} {es : List Expr} {pos p : Pos} {x : Str} {i j : Nat} {ks : List Cell}
theorem dAt_of {K : PySem.W.Frag} {as : List Addr} {F H : Hp} {ad : Addr} (d : Ok K B as m F H) (ha : as[j]? = some ad) (hc : m[j]? = some (kd ks)) : ∃ xs : List En, xs.map (·.1) = ks ∧ DAt K H ad xs ∧ KeysAt K F xs := by
  obtain ⟨_, _, u, hu, xs, rfl, h2, h3, h4, h5, h6⟩ := d.chg j ad _ ha hc rfl
  subst h3
  exact ⟨xs, rfl, ⟨hu, h2, h4, by rw [List.length_map] at h5; exact h5, h6.up d.sub⟩, h6⟩
/-- {} -/
theorem wg_dnew {P : Sl → List MC → Prop} (h : P (mu m.length) (m ++ [kd []])) : WG X B PX (.Dict [] [] pos) Γ m P := fun as σ F H Q d hx k =>
  tEv_of pe_dnewC fun t ht hs => k (mu m.length) _ [t] (.ref t) F _ (Same.refl F) (d.newM (c := kd []) ht ⟨[], rfl, hs, rfl, List.nodup_nil, Nat.zero_le _, fun _ h => nomatch h⟩)
    ⟨t, by rw [← d.ok.len, List.getElem?_append_right (Nat.le_refl _), Nat.sub_self]; rfl, rfl⟩ h
section
variable {PB : Bool → List MC → Prop}
theorem we_inC (hu : X.A.units + 64 < cLine) (hN : X.N[i]? = some x) (hg : Γ[i]? = some (mu j)) (h : WE X B PX a Γ m fun (c : Cell) m1 => ∃ ks, m1[j]? = some (kd ks) ∧ PB (decide (c ∈ ks)) m1)
    (hv : Vis X.env.scope x := by first | exact Or.inl rfl | exact Or.inr (Or.inl rfl) | exact Or.inr (Or.inr rfl)) (hd : (x == ("__debug__" : Str)) = false := by decide) (hcd : (x == ("__classdict__" : Str)) = false := by decide) :
    WE X B PX (.Compare a [.In] [.Name x p] pos) Γ m PB := fun as σ F H Q d hx k =>
  tEv_of (pe_cmpR (op_inC hu) peS (pe_var hN hv hd hcd) rfl) (h as σ F H _ d hx fun c m1 v N H1 e1 d1 r1 ⟨ks, hm, pp⟩ => by
    obtain ⟨o, ho, ad, ha, rfl⟩ := d1.sl.get hg
    obtain ⟨xs, rfl, hD, _⟩ := dAt_of d1.ok ha hm
    obtain ⟨t, rfl, ht⟩ := rep_cell.mp (Py.up d1.ok.sub r1)
    exact ⟨.ref ad, ho, ad, t, xs, c, rfl, rfl, hD, ht, k _ m1 _ N H1 e1 d1 (rep_bool.mpr rfl) pp⟩)
theorem we_notinC (hu : X.A.units + 64 < cLine) (hN : X.N[i]? = some x) (hg : Γ[i]? = some (mu j)) (h : WE X B PX a Γ m fun (c : Cell) m1 => ∃ ks, m1[j]? = some (kd ks) ∧ PB (!decide (c ∈ ks)) m1)
    (hv : Vis X.env.scope x := by first | exact Or.inl rfl | exact Or.inr (Or.inl rfl) | exact Or.inr (Or.inr rfl)) (hd : (x == ("__debug__" : Str)) = false := by decide) (hcd : (x == ("__classdict__" : Str)) = false := by decide) :
    WE X B PX (.Compare a [.NotIn] [.Name x p] pos) Γ m PB := fun as σ F H Q d hx k =>
  tEv_of (pe_cmpR (op_notinC hu) peS (pe_var hN hv hd hcd) rfl) (h as σ F H _ d hx fun c m1 v N H1 e1 d1 r1 ⟨ks, hm, pp⟩ => by
    obtain ⟨o, ho, ad, ha, rfl⟩ := d1.sl.get hg
    obtain ⟨xs, rfl, hD, _⟩ := dAt_of d1.ok ha hm
    obtain ⟨t, rfl, ht⟩ := rep_cell.mp (Py.up d1.ok.sub r1)
    exact ⟨.ref ad, ho, ad, t, xs, c, rfl, rfl, hD, ht, k _ m1 _ N H1 e1 d1 (rep_bool.mpr rfl) pp⟩)
end
/-- d[e] = True -/
theorem ws_dput {D : De} {pos1 pos2 pos3 : Pos} {jj : Nat} (hu : X.A.units + 64 < cLine) (hN : X.N[i]? = some x) (hg : Γ[i]? = some (mu j)) (h : WE X B PX e Γ m fun (c : Cell) m1 => ∃ ks, m1[j]? = some (kd ks) ∧ ks.length < sizeLine ∧ D.nx Γ (m1.set j (kd (putC ks c))))
    (hs : swapsWith (.Constant (.bool true) jj pos3) (some (.Subscript (.Name x p) e pos1)) pos2.line X.env = pure false := by rfl)
    (hv : Vis X.env.scope x := by first | exact Or.inl rfl | exact Or.inr (Or.inl rfl) | exact Or.inr (Or.inr rfl)) (hd : (x == ("__debug__" : Str)) = false := by decide) (hcd : (x == ("__classdict__" : Str)) = false := by decide) :
    WS X B PX (.Assign [.Subscript (.Name x p) e pos1] (.Constant (.bool true) jj pos3) pos2) Γ m D := fun as σ F H E d hx k => by
  obtain ⟨o, ho, ad, ha, rfl⟩ := d.sl.get hg
  refine tSt_of (ps_dputC hu (pe_var hN hv hd hcd) peS pe_bl hs) ⟨_, ho, h as σ F H _ d hx fun c m1 v N H1 e1 d1 r1 ⟨ks, hm, hl, pp⟩ => ?_⟩
  obtain ⟨xs, rfl, hD, hkF⟩ := dAt_of d1.ok ha hm
  obtain ⟨t, rfl, htN⟩ := rep_cell.mp r1
  have ht : SqT X.K H1 t [.int c.1, .int c.2] := sqT_up d1.ok.sub htN
  rw [List.length_map] at hl
  refine ⟨ad, t, xs, c, rfl, rfl, rfl, hD, hl, ht, ?_⟩
  refine k.nx Γ _ [] σ N _ e1 (des0 (d1.put (c' := kd (putC (xs.map (·.1)) c)) ha hm rfl ?_)) pp
  unfold putC
  obtain ⟨_, sm, nd, hz, _⟩ := hD
  by_cases hc : c ∈ xs.map (·.1)
  · rw [if_pos hc, if_pos hc]
    exact ⟨xs, rfl, sm, rfl, nd, by rw [List.length_map]; exact hz, hkF⟩
  · rw [if_neg hc, if_neg hc]
    refine ⟨xs ++ [(c, t)], rfl, sm, by rw [List.map_append]; rfl, ?_, by rw [List.length_append, List.length_map]; exact hl, fun y hy => ?_⟩
    · rw [List.nodup_append]
      refine ⟨nd, by simp, fun a h1 b h2 q => ?_⟩
      have : b = c := by simpa using h2
      subst this
      subst q
      exact hc h1
    · rcases List.mem_append.mp hy with hy | hy
      · exact hkF y hy
      · have e : y = (c, t) := by simpa using hy
        rw [e]
        exact htN
/-- d.pop(e) -/
theorem we_dpop {P : Bool → List MC → Prop} {ks0 : List Cell} {apos : Pos} (hu : X.A.units + 64 < cLine) (hN : X.N[i]? = some x) (hg : Γ[i]? = some (mu j)) (hm0 : m[j]? = some (kd ks0))
    (h : WE X B PX e Γ m fun (c : Cell) m1 => ∃ ks, m1[j]? = some (kd ks) ∧ c ∈ ks ∧ P true (m1.set j (kd (popC ks c)))) (hM : M1 X (.Name x p) "pop" apos e pos := by exact ⟨rfl, rfl, rfl, rfl⟩)
    (hv : Vis X.env.scope x := by first | exact Or.inl rfl | exact Or.inr (Or.inl rfl) | exact Or.inr (Or.inr rfl)) (hd : (x == ("__debug__" : Str)) = false := by decide) (hcd : (x == ("__classdict__" : Str)) = false := by decide) :
    WE X B PX (.Call (.Attribute (.Name x p) "pop" apos) [e] [] pos) Γ m P := fun as σ F H Q d hx k => by
  obtain ⟨o, ho, ad, ha, rfl⟩ := d.sl.get hg
  obtain ⟨xs0, _, hD0, _⟩ := dAt_of d.ok ha hm0
  refine tEv_of (pe_dpopC hu (pe_var hN hv hd hcd) peS hM) ⟨_, ho, ad, xs0, rfl, hD0, h as σ F H _ d hx fun c m1 v N H1 e1 d1 r1 ⟨ks, hm, hc, pp⟩ => ?_⟩
  obtain ⟨xs, rfl, hD, hkF⟩ := dAt_of d1.ok ha hm
  obtain ⟨t, rfl, htN⟩ := rep_cell.mp r1
  refine ⟨t, xs, c, rfl, hD, sqT_up d1.ok.sub htN, hc, k true _ _ N _ e1 (d1.put (c' := kd (popC (xs.map (·.1)) c)) ha hm rfl ?_) (rep_bool.mpr rfl) pp⟩
  obtain ⟨_, sm, nd, hz, _⟩ := hD
  have e2 : (xs.filter fun x => decide (x.1 ≠ c)).map (·.1) = popC (xs.map (·.1)) c := by
    unfold popC
    rw [List.filter_map]
    rfl
  refine ⟨_, rfl, sm, e2, ?_, ?_, fun y hy => hkF y (List.mem_filter.mp hy).1⟩
  · unfold popC
    exact nd.filter _
  · unfold popC
    refine Nat.le_trans (List.length_filter_le _ _) ?_
    rw [List.length_map]
    exact hz
/-- len(d) -/
theorem we_lenC {P : Int → List MC → Prop} (hm : X.mg "len" = none) (hN : X.N[i]? = some x) (hgi : Γ[i]? = some (mu j)) (hm0 : m[j]? = some (kd ks)) (h : P (ks.length : Int) m)
    (hg : Gl X "len" := by rfl) (hs : starEach [.Name x p] X.env = (false, eval (.Name x p) X.env) :: starEach [] X.env := by rfl) (hpl : (backTo pos (starEach [] X.env)).any (·.1) = false := by rfl)
    (hv : Vis X.env.scope x := by first | exact Or.inl rfl | exact Or.inr (Or.inl rfl) | exact Or.inr (Or.inr rfl)) (hd : (x == ("__debug__" : Str)) = false := by decide) (hcd : (x == ("__classdict__" : Str)) = false := by decide) {p2 : Pos} :
    WE X B PX (.Call (.Name "len" p2) [.Name x p] [] pos) Γ m P := fun as σ F H Q d hx k => by
  obtain ⟨o, ho, ad, ha, rfl⟩ := d.sl.get hgi
  obtain ⟨xs, rfl, hD, _⟩ := dAt_of d.ok ha hm0
  refine tEv_of (pe_callB call_lenC hg hm PySem.boot_len (pa_cons (pe_var hN hv hd hcd) pa_nil hs) (by decide) (by decide) hs hpl) ⟨_, ho, ad, xs, rfl, hD, k _ m _ F H (Same.refl F) d (rep_int.mpr rfl) ?_⟩
  rw [List.length_map] at h
  exact h
end

/-! ### sorted -/
class SortD (α : Type) [DecidableEq α] [Datum α] where
  le : α → α → Bool
  eq : PySem.W.dataLe false (Datum.toD : α → PyData) = le
  al : ∀ a b : α, PySem.W.alike (Datum.toD a) (Datum.toD b) = true
  so : ∀ xs : List α, PySem.W.Sortable (xs.map Datum.toD)
def cellLe (p q : Cell) : Bool := decide (p.1 < q.1 ∨ (p.1 = q.1 ∧ p.2 ≤ q.2))
instance : SortD Int where
  le x y := decide (x ≤ y)
  eq := PySem.W.dataLe_int fun x => x
  al _ _ := rfl
  so _ := PySem.W.Sortable.others fun _ => ⟨fun h => (nomatch h), fun _ h => (nomatch h)⟩
instance : SortD Cell where
  le := cellLe
  eq := PySem.W.dataLe_ii (β := Cell) (fun c => c.1) fun c => c.2
  al _ _ := rfl
  so _ := PySem.W.Sortable.tuples fun c => ⟨.int c.1, [.int c.2], rfl⟩
instance : SortD Str where
  le x y := decide (x.cps.toList ≤ y.cps.toList)
  eq := PySem.W.dataLe_str fun x => x
  al _ _ := rfl
  so _ := PySem.W.Sortable.others fun _ => ⟨fun h => (nomatch h), fun _ h => (nomatch h)⟩
def sortS {α : Type} [DecidableEq α] [Datum α] [SortD α] (xs : List α) : List α := xs.mergeSort SortD.le
section
variable {α : Type} [DecidableEq α] [Datum α] {X : Cx}
def RelD (K : PySem.W.Frag) (H : Hp) (v : Value) (x : α) : Prop := ∃ w : V, RelV w v ∧ Dq K H w (Datum.toD x)
theorem each_of {K : PySem.W.Frag} {H : Hp} : ∀ {xs : List α} {vs : List V} {us : List Value}, Reps K H xs vs → Vals vs us → PySem.W.EachIs (RelD K H) us xs
  | [], _, _, h, r => by
    cases h
    cases r
    exact .nil
  | x :: xs, _, _, h, r => by
    cases h with
    | cons h t =>
      cases r with
      | cons r rt => exact .cons ⟨_, r, h⟩ (each_of t rt)
theorem each_back {K : PySem.W.Frag} {H : Hp} : ∀ {xs : List α} {us : List Value}, PySem.W.EachIs (RelD K H) us xs → ∃ vs, Vals vs us ∧ Reps K H xs vs
  | _, _, .nil => ⟨[], .nil, Reps.nil⟩
  | _, _, .cons ⟨w, r, h⟩ t => by
    obtain ⟨vs, r2, h2⟩ := each_back t
    exact ⟨w :: vs, .cons r r2, Dqs.cons h h2⟩
theorem each_reads {pins : List (Addr × Obj)} {σ : L2.St} {F H : Hp} {s : Shared} (I : Inv X pins σ H s) (sm : Same F H) : ∀ {xs : List α} {us : List Value}, PySem.W.EachIs (RelD X.K F) us xs → PySem.W.EachIs (fun v x => ∃ as, Reads s.heap v (Datum.toD x) as) us xs
  | _, _, .nil => .nil
  | _, _, .cons ⟨w, r, h⟩ t => .cons (Dp.reads I _ w _ (Dq.dp _ _ (dq_up sm _ _ h)) r) (each_reads I sm t)
/-- a source of items: a list, a tuple, a dict's cells -/
def SrcL (K : PySem.W.Frag) (H : Hp) (a : Addr) (vs : List V) : Prop := SqL K H a vs ∨ SqT K H a vs ∨ ∃ es, DAt K H a es ∧ vs = es.map fun x => .ref x.2
theorem vals_items {es : List En} : ∀ {us : List Value}, us = es.map (fun x => Value.ref x.2) → Vals (es.map fun x => V.ref x.2) us := by
  induction es with
  | nil =>
    intro us h
    subst h
    exact .nil
  | cons x es ih =>
    intro us h
    subst h
    exact .cons rfl (ih rfl)
theorem collect_src {pins : List (Addr × Obj)} {σ : L2.St} {H : Hp} {s : Shared} {a : Addr} {vs : List V} {A : Around} {E : Value → Shared → Prop} {R : List Value → Shared → Prop} (hh : A.handled = none) (I : Inv X pins σ H s) (hs : SrcL X.K H a vs)
    (h : ∀ (us : List Value) (h' : Heap) (tk : Nat), Vals vs us → us.length ≤ sizeLine → (∀ b o, s.heap.get? b = some o → h'.get? b = some o) → R us { s with heap := h', toks := tk }) : wpAny (model X.prog X.w) A (collect (.ref a)) R E s := by
  rcases hs with hs | hs | ⟨es, ⟨e, sm, nd, hl, hk⟩, rfl⟩
  · obtain ⟨its, r, pl, hz⟩ := I.list hs
    obtain ⟨o, ho, hc, n, hd⟩ := pl.isList
    have hn : its.length ≤ sizeLine := by rw [← r.length]; exact hz
    refine wpAny_collect_seq a (T := "list") (.inl rfl) ho hc hd (fun h' kp => ?_) (by simpa using hn)
    have := h its h' s.toks r hn kp
    simpa using this
  · obtain ⟨its, r, ⟨o, ho, hc, n, hd⟩, hz⟩ := I.tuple hs
    have hn : its.length ≤ sizeLine := by rw [← r.length]; exact hz
    refine wpAny_collect_seq a (T := "tuple") (.inr rfl) ho hc hd (fun h' kp => ?_) (by simpa using hn)
    have := h its h' s.toks r hn kp
    simpa using this
  · obtain ⟨o, en, ep, h1, h2, h3, h4, h5, h6⟩ := dO_open I e hk nd
    have hz : en.size = es.length := by
      have := congrArg List.length h4
      simpa using this
    refine PySem.W.kdu_collect (kdl_raw sm h2 h3) hh h1 (by rw [hz]; exact hl) fun h' tk acc kp ⟨hn, hi⟩ => ?_
    have hacc : acc.toList = es.map fun x => Value.ref x.2 := by
      refine List.ext_getElem? fun j => ?_
      by_cases hj : j < acc.size
      · have hj' : j < en.size := by omega
        obtain ⟨d, hd, ev⟩ := hi j acc[j] (Array.getElem?_eq_getElem hj)
        have e1 : en.toList[j]? = some d := by simpa using hd
        rw [h4, List.getElem?_map, List.getElem?_map] at e1
        rw [List.getElem?_map]
        cases q : es[j]? with
        | none =>
          rw [q] at e1
          cases e1
        | some y =>
          rw [q] at e1
          have e2 := Option.some.inj e1
          rw [show acc.toList[j]? = some acc[j] by simp [hj], ev, ← e2]
          rfl
      · rw [List.getElem?_eq_none (by simpa using hj), List.getElem?_eq_none (by simp; omega)]
    exact h acc.toList h' tk (vals_items hacc) (by rw [hacc, List.length_map]; exact hl) kp
end
end G

/-! Core10: sources of items, sorted, tuple, list, in, slices; numbers; data of any form. -/
namespace G
open PySem PySem.Spec PyProof.Rows L2
open PySem.W (Datum Tup T3)
/-! ### sources of items -/
def SeqQ (K : PySem.W.Frag) (N H : Hp) (a : Addr) (vs : List V) : Prop := SqL K H a vs ∨ SqT K N a vs
def SrcA (K : PySem.W.Frag) (_ H : Hp) (a : Addr) (vs : List V) : Prop := SrcL K H a vs
/-- S: which kinds of source -/
def WSrc {α : Type} [DecidableEq α] [Datum α] (S : PySem.W.Frag → Hp → Hp → Addr → List V → Prop) (X : Cx) (B : Bs) (PX : PXT) (e : Expr) (Γ : List Sl) (m : List MC) (P : List α → List MC → Prop) : Prop :=
  ∀ as σ F H (Q : VK), Des X.K B Γ m as σ F H → Xs X B PX as F → (∀ xs m' a vs N H2, Same F N → Des X.K B Γ m' as σ N H2 → S X.K N H2 a vs → Reps X.K N xs vs → P xs m' → Q (.ref a) H2) → tEv X e σ H Q
/-- a list or a tuple of those -/
def sq {α : Type} [DecidableEq α] [Datum α] (xs : List α) : Sl := ⟨fun K as F o => ∃ a vs, o = some (.ref a) ∧ SeqQ K F F a vs ∧ Reps K F xs vs,
  fun s ⟨a, vs, e, h, r⟩ => ⟨a, vs, e, h.elim (fun h => .inl (sqL_up s h)) (fun h => .inr (sqT_up s h)), r.up s⟩, fun _ h => h⟩
/-- a list of those, as it was handed in -/
def sqL {α : Type} [DecidableEq α] [Datum α] (xs : List α) : Sl := ⟨fun K as F o => ∃ a vs, o = some (.ref a) ∧ SqL K F a vs ∧ Reps K F xs vs, fun s ⟨a, vs, e, h, r⟩ => ⟨a, vs, e, sqL_up s h, r.up s⟩, fun _ h => h⟩
theorem rn_sqL0 {ρ : Nat → Nat → Prop} {α : Type} [DecidableEq α] [Datum α] {xs : List α} : Rn ρ (sqL xs) (sqL xs) := .ind fun _ _ _ _ _ h => h
theorem rn_sqL {ρ : Nat → Nat → Prop} {α : Type} [DecidableEq α] [Datum α] {xs : List α} : Rn ρ (im xs) (sq xs) := .ind fun K as as' F o ⟨v, e, r⟩ => by
  obtain ⟨a, vs, rfl, h, r⟩ := rep_list.mp r
  exact ⟨a, vs, e, .inl (SqL.of h), r⟩
theorem rn_sqT {ρ : Nat → Nat → Prop} {α : Type} [DecidableEq α] [Datum α] {xs : Tup α} : Rn ρ (im xs) (sq xs.items) := .ind fun K as as' F o ⟨v, e, r⟩ => by
  obtain ⟨a, vs, rfl, h, r⟩ := rep_tup.mp r
  exact ⟨a, vs, e, .inr h, r⟩
theorem rn_sq {ρ : Nat → Nat → Prop} {α : Type} [DecidableEq α] [Datum α] {xs : List α} : Rn ρ (sq xs) (sq xs) := .ind fun _ _ _ _ _ h => h
section
variable {S : PySem.W.Frag → Hp → Hp → Addr → List V → Prop} {X : Cx} {B : Bs} {PX : PXT} {Γ : List Sl} {m : List MC} {e a b : Expr} {es : List Expr} {pos p p2 : Pos} {x : Str} {i j : Nat} {α β : Type} [DecidableEq α] [Datum α]
theorem WSrc.imp {P P' : List α → List MC → Prop} (h : WSrc S X B PX e Γ m P) (f : ∀ x m', P x m' → P' x m') : WSrc S X B PX e Γ m P' := fun as σ F H Q d hx k =>
  h as σ F H Q d hx fun x m' a vs N H2 e' d' r r' p => k x m' a vs N H2 e' d' r r' (f x m' p)
theorem wsr_l {P : List α → List MC → Prop} (h : WE X B PX e Γ m P) (hS : ∀ K N H a vs, SqL K H a vs → S K N H a vs := by first | exact fun _ _ _ _ _ h => .inl h | exact fun _ _ _ _ _ h => h) : WSrc S X B PX e Γ m P := fun as σ F H Q d hx k =>
  h as σ F H Q d hx fun xs m' v N H2 e' d' r p => by
    obtain ⟨a, vs, rfl, h, r⟩ := rep_list.mp r
    exact k xs m' a vs N H2 e' d' (hS _ _ _ _ _ (SqL.of (d'.ok.sub _ _ h))) r p
theorem wsr_t {P : List α → List MC → Prop} (h : WE X B PX e Γ m fun (xs : Tup α) m' => P xs.items m') (hS : ∀ K N H a vs, Same N H → SqT K N a vs → S K N H a vs := by first | exact fun _ _ _ _ _ _ h => .inr h | exact fun _ _ _ _ _ s h => .inr (.inl (sqT_up s h))) : WSrc S X B PX e Γ m P := fun as σ F H Q d hx k =>
  h as σ F H Q d hx fun xs m' v N H2 e' d' r p => by
    obtain ⟨a, vs, rfl, h, r⟩ := rep_tup.mp r
    exact k xs.items m' a vs N H2 e' d' (hS _ _ _ _ _ d'.ok.sub h) r p
theorem wsr_mu {P : List α → List MC → Prop} {xs : List α} (hN : X.N[i]? = some x) (hg : Γ[i]? = some (mu j)) (hm : m[j]? = some (lst xs)) (h : P xs m) (hS : ∀ K N H a vs, SqL K H a vs → S K N H a vs := by first | exact fun _ _ _ _ _ h => .inl h | exact fun _ _ _ _ _ h => h)
    (hv : Vis X.env.scope x := by first | exact Or.inl rfl | exact Or.inr (Or.inl rfl) | exact Or.inr (Or.inr rfl)) (hd : (x == ("__debug__" : Str)) = false := by decide) (hcd : (x == ("__classdict__" : Str)) = false := by decide) : WSrc S X B PX (.Name x pos) Γ m P := fun as σ F H Q d hx k => by
  obtain ⟨o, ho, ad, ha, rfl⟩ := d.sl.get hg
  obtain ⟨_, vs, hl, r⟩ := des_lst d.ok ha hm
  exact tEv_of (pe_var hN hv hd hcd) ⟨_, ho, k xs m ad vs F H (Same.refl F) d (hS _ _ _ _ _ (SqL.of hl)) r h⟩
theorem wsr_sq {P : List α → List MC → Prop} {xs : List α} (hN : X.N[i]? = some x) (hg : Γ[i]? = some (sq xs)) (h : P xs m) (hS : ∀ K N H a vs, Same N H → SeqQ K N H a vs → S K N H a vs := by first | exact fun _ _ _ _ _ _ h => h | exact fun _ _ _ _ _ s h => h.elim .inl fun h => .inr (.inl (sqT_up s h)))
    (hv : Vis X.env.scope x := by first | exact Or.inl rfl | exact Or.inr (Or.inl rfl) | exact Or.inr (Or.inr rfl)) (hd : (x == ("__debug__" : Str)) = false := by decide) (hcd : (x == ("__classdict__" : Str)) = false := by decide) : WSrc S X B PX (.Name x pos) Γ m P := fun as σ F H Q d hx k => by
  obtain ⟨o, ho, ad, vs, rfl, hl, r⟩ := d.sl.get hg
  exact tEv_of (pe_var hN hv hd hcd) ⟨_, ho, k xs m ad vs F H (Same.refl F) d (hS _ _ _ _ _ d.ok.sub (hl.elim (fun h => .inl (sqL_up d.ok.sub h)) .inr)) r h⟩
theorem wsr_sqL {P : List α → List MC → Prop} {xs : List α} (hN : X.N[i]? = some x) (hg : Γ[i]? = some (sqL xs)) (h : P xs m) (hS : ∀ K N H a vs, SqL K H a vs → S K N H a vs := by first | exact fun _ _ _ _ _ h => .inl h | exact fun _ _ _ _ _ h => h)
    (hv : Vis X.env.scope x := by first | exact Or.inl rfl | exact Or.inr (Or.inl rfl) | exact Or.inr (Or.inr rfl)) (hd : (x == ("__debug__" : Str)) = false := by decide) (hcd : (x == ("__classdict__" : Str)) = false := by decide) : WSrc S X B PX (.Name x pos) Γ m P := fun as σ F H Q d hx k => by
  obtain ⟨o, ho, ad, vs, rfl, hl, r⟩ := d.sl.get hg
  exact tEv_of (pe_var hN hv hd hcd) ⟨_, ho, k xs m ad vs F H (Same.refl F) d (hS _ _ _ _ _ (sqL_up d.ok.sub hl)) r h⟩
theorem reps_refs {K : PySem.W.Frag} {F : Hp} : ∀ {xs : List En}, KeysAt K F xs → Reps K F (xs.map (·.1)) (xs.map fun x => .ref x.2)
  | [], _ => Reps.nil
  | x :: xs, h => Reps.cons (rep_cell.mpr ⟨x.2, rfl, h x List.mem_cons_self⟩) (reps_refs fun y hy => h y (List.mem_cons_of_mem _ hy))
theorem wsr_kd {P : List Cell → List MC → Prop} {ks : List Cell} (hN : X.N[i]? = some x) (hg : Γ[i]? = some (mu j)) (hm : m[j]? = some (kd ks)) (h : P ks m)
    (hv : Vis X.env.scope x := by first | exact Or.inl rfl | exact Or.inr (Or.inl rfl) | exact Or.inr (Or.inr rfl)) (hd : (x == ("__debug__" : Str)) = false := by decide) (hcd : (x == ("__classdict__" : Str)) = false := by decide) : WSrc SrcA X B PX (.Name x pos) Γ m P := fun as σ F H Q d hx k => by
  obtain ⟨o, ho, ad, ha, rfl⟩ := d.sl.get hg
  obtain ⟨xs, rfl, hD, hF⟩ := dAt_of d.ok ha hm
  exact tEv_of (pe_var hN hv hd hcd) ⟨_, ho, k _ m ad _ F H (Same.refl F) d (.inr (.inr ⟨xs, hD, rfl⟩)) (reps_refs hF) h⟩

/-! ### sorted(e) -/
mutual
theorem readsIn {h : Heap} : ∀ (d : PyData) {v : Value} {as : List Addr}, Reads h v d as → PySem.W.alike d d = true → ∀ b ∈ as, b < h.objs.size
  | .none, _, _, r, _, _, hb => by
    cases r
    exact nomatch hb
  | .bool _, _, _, r, _, _, hb => by
    cases r
    exact nomatch hb
  | .int _, _, _, r, _, _, hb => by
    cases r
    exact nomatch hb
  | .str _, _, _, r, _, _, hb => by
    cases r
    exact nomatch hb
  | .list ds, _, _, r, hal, b, hb => by
    cases r with
    | list h1 _ _ h4 =>
      rcases List.mem_cons.mp hb with hb | hb
      · subst hb
        exact Heap.lt_size h1
      · exact readsAllIn ds h4 (by simpa [PySem.W.alike] using hal) b hb
  | .tuple ds, _, _, r, hal, b, hb => by
    cases r with
    | tuple h1 _ _ h4 => exact readsAllIn ds h4 (by simpa [PySem.W.alike] using hal) b hb
  | .dict kvs, _, _, r, hal, _, _ => absurd hal (by simp [PySem.W.alike])
theorem readsAllIn {h : Heap} : ∀ (ds : List PyData) {vs : List Value} {as : List Addr}, ReadsAll h vs ds as → PySem.W.alikeAll ds ds = true → ∀ b ∈ as, b < h.objs.size
  | [], _, _, r, _, _, hb => by
    cases r
    exact nomatch hb
  | d :: ds, _, _, r, hal, b, hb => by
    cases r with
    | cons h1 h2 =>
      rcases List.mem_append.mp hb with hb | hb
      · exact readsIn d h1 (PySem.W.alike_all_cons hal).1 b hb
      · exact readsAllIn ds h2 (PySem.W.alike_all_cons hal).2 b hb
end
def rSortX (α : Type) [DecidableEq α] [Datum α] [SortD α] (K : PySem.W.Frag) : List V → Hp → VK → Prop := fun as H Q => ∃ a vs, ∃ xs : List α, as = [.ref a] ∧ SrcL K H a vs ∧ ∃ F, Same F H ∧ Reps K F xs vs ∧
  ∀ ws p, Reps K F (sortS xs) ws → H p = none → Q (.ref p) (upd H p (.lst ws))
theorem call_sortX [SortD α] (hc : X.calm = true) (hu : X.A.units + 128 < cLine) (hz : Datum.depth α ≤ 64) : CallR X (.builtin "sorted") (rSortX α X.K) := by
  intro pins s σ H as us Q I r h
  obtain ⟨a, vs, xs, rfl, hs, F, sm, hr, q⟩ := h
  obtain ⟨u, rfl, ru⟩ := vals1 r
  cases ru
  refine Calls.call_function_entry kind_sorted plain_sorted entry_sorted (args_sorted1 _) ?_
  unfold Builtin.«sorted»
  refine wpAny_bind (m := checkCount "sorted" 1 1 _) (wpAny_pure ?_)
  refine wpAny_bind (collect_src (A := X.A.in1) (I.ok.hd hc) I hs fun us h' tk rv hl kp => ?_)
  refine wpAny_bind (wpAny_newList ?_ hl)
  have I1 : Inv X pins σ H { s with heap := h', toks := tk } := I.kept kp
  have I2 : Inv X pins σ H { s with heap := h'.push (seqObj "list" us.toArray 0), toks := tk } := I1.kept fun b o e => Heap.get?_push_of_some _ e
  have hq : (h'.push (seqObj "list" us.toArray 0)).get? h'.objs.size = some (seqObj "list" us.toArray 0) := Heap.get?_push_size _ rfl
  have E0 : PySem.W.EachIs (RelD X.K F) us xs := each_of hr rv
  have er : PySem.W.EachIs (fun v x => ∃ as, Reads (h'.push (seqObj "list" us.toArray 0)) v (Datum.toD x) as ∧ h'.objs.size ∉ as) us xs :=
    (each_reads I1 sm E0).mono fun v y ⟨as, rd⟩ => ⟨as, PyProof.Rows.Reads.keeps (fun b o e => Heap.get?_push_of_some _ e) rd, fun hm => Nat.lt_irrefl _ (readsIn _ rd (SortD.al y y) _ hm)⟩
  refine wpAny_bind (wpAny_holding ?_)
  show wpAny (model X.prog X.w) X.A.in1 (call (.builtin "list.sort") [.ref h'.objs.size]) _ _ { s with heap := h'.push (seqObj "list" us.toArray 0), toks := tk }
  refine PySem.W.list_sort_data (s := { s with heap := h'.push (seqObj "list" us.toArray 0), toks := tk }) hq E0 er (PySem.W.AllAlike.of SortD.al) (SortD.so xs) (by rw [← E0.length]; exact hl) (fun b _ => ?_) fun out hn e => ?_
  · have := Datum.depth_le b
    show X.A.units + 1 + 1 + _ < cLine
    omega
  · rw [SortD.eq] at e
    obtain ⟨ws, rw', rp⟩ := each_back e
    obtain ⟨ep, he⟩ := PyProof.Rows.sortedHeap_at (vs := us) (out := out.toArray) hq
    refine wpAny_pure ⟨_, rfl, .ref h'.objs.size, upd H h'.objs.size (.lst ws), ?_, rfl, q ws _ rp (I1.hok.fresh (Nat.le_refl _))⟩
    refine I1.laid (t' := tk) (a := h'.objs.size) (fun b o e => ?_) (Nat.le_refl _) ⟨?_, out, ep, rw', he⟩
    · rw [PyProof.Rows.sortedHeap_old (Nat.ne_of_lt (Heap.lt_size e)) (Heap.lt_size (Heap.get?_push_of_some _ e))]
      exact Heap.get?_push_of_some _ e
    · rw [rw'.length, hn, ← E0.length]
      exact hl
end
end G

/-! Core11: calls of built-ins on sources; numbers; slices; sums of lists; data of any form. -/
namespace G
open PySem PySem.Spec PyProof.Rows L2
open PySem.W (Datum Tup T3)
section
variable {X : Cx} {B : Bs} {PX : PXT} {Γ : List Sl} {m : List MC} {e a b c : Expr} {es : List Expr} {pos p p2 : Pos} {x : Str} {i j : Nat} {α β : Type} [DecidableEq α] [Datum α]
/-! ### sorted, tuple, list, len -/
theorem we_sorted [SortD α] {P : List α → List MC → Prop} (hc : X.calm = true) (hu : X.A.units + 128 < cLine) (hm : X.mg "sorted" = none) (h : WSrc SrcA X B PX e Γ m fun (xs : List α) m1 => P (sortS xs) m1) (hz : Datum.depth α ≤ 64 := by decide)
    (hg : Gl X "sorted" := by rfl) (hs : starEach [e] X.env = (false, eval e X.env) :: starEach [] X.env := by rfl) (hpl : (backTo pos (starEach [] X.env)).any (·.1) = false := by rfl) : WE X B PX (.Call (.Name "sorted" p) [e] [] pos) Γ m P := fun as σ F H Q d hx k =>
  tEv_of (pe_callB (call_sortX (α := α) hc hu hz) hg hm PyProof.Rows.boot_sorted (pa_cons peS pa_nil hs) (by decide) (by decide) hs hpl) (h as σ F H _ d hx fun xs m1 ad vs N H1 e1 d1 hS hr pp =>
    ⟨ad, vs, xs, rfl, hS, N, d1.ok.sub, hr, fun ws t hw ht => by
      obtain ⟨s, d2⟩ := d1.new (o := .lst ws) ht
      exact k (sortS xs) m1 _ _ _ (e1.trans s) d2 (rep_list.mpr ⟨t, ws, rfl, upd_same, hw.up s⟩) pp⟩)
theorem we_tupQ {P : Tup α → List MC → Prop} (hm : X.mg "tuple" = none) (h : WSrc SeqQ X B PX e Γ m fun (xs : List α) m1 => P ⟨xs⟩ m1)
    (hg : Gl X "tuple" := by rfl) (hs : starEach [e] X.env = (false, eval e X.env) :: starEach [] X.env := by rfl) (hpl : (backTo pos (starEach [] X.env)).any (·.1) = false := by rfl) : WE X B PX (.Call (.Name "tuple" p) [e] [] pos) Γ m P := fun as σ F H Q d hx k =>
  tEv_of (pe_callTy call_tuple_of hg hm PyProof.Rows.boot_tuple (pa_cons peS pa_nil hs) (by decide) (by decide) hs hpl) (h as σ F H _ d hx fun xs m1 ad vs N H1 e1 d1 hS hr pp => ⟨ad, vs, rfl, by
    rcases hS with hS | hS
    · refine .inl ⟨hS, fun t ht => ?_⟩
      obtain ⟨s, d2⟩ := d1.new (o := .tup vs) ht
      exact k ⟨xs⟩ m1 _ _ _ (e1.trans s) d2 (rep_tup.mpr ⟨t, vs, rfl, SqT.of upd_same, hr.up s⟩) pp
    · exact .inr ⟨sqT_up d1.ok.sub hS, k ⟨xs⟩ m1 _ N H1 e1 d1 (rep_tup.mpr ⟨ad, vs, rfl, hS, hr⟩) pp⟩⟩)
theorem seqQ_H {K : PySem.W.Frag} {N H : Hp} {a : Addr} {vs : List V} (s : Same N H) (h : SeqQ K N H a vs) : SqL K H a vs ∨ SqT K H a vs := h.elim .inl fun h => .inr (sqT_up s h)
theorem we_listQ {P : List α → List MC → Prop} (hm : X.mg "list" = none) (h : WSrc SeqQ X B PX e Γ m P)
    (hg : Gl X "list" := by rfl) (hs : starEach [e] X.env = (false, eval e X.env) :: starEach [] X.env := by rfl) (hpl : (backTo pos (starEach [] X.env)).any (·.1) = false := by rfl) : WE X B PX (.Call (.Name "list" p) [e] [] pos) Γ m P := fun as σ F H Q d hx k =>
  tEv_of (pe_callTy call_list_of hg hm PyProof.Rows.boot_list (pa_cons peS pa_nil hs) (by decide) (by decide) hs hpl) (h as σ F H _ d hx fun xs m1 ad vs N H1 e1 d1 hS hr pp => ⟨ad, vs, rfl, seqQ_H d1.ok.sub hS, fun t ht => by
    obtain ⟨s, d2⟩ := d1.new (o := .lst vs) ht
    exact k xs m1 _ _ _ (e1.trans s) d2 (rep_list.mpr ⟨t, vs, rfl, upd_same, hr.up s⟩) pp⟩)
/-- .. to change -/
theorem wg_listQ {P : Sl → List MC → Prop} (hm : X.mg "list" = none) (h : WSrc SeqQ X B PX e Γ m fun (xs : List α) m1 => P (mu m1.length) (m1 ++ [lst xs]))
    (hg : Gl X "list" := by rfl) (hs : starEach [e] X.env = (false, eval e X.env) :: starEach [] X.env := by rfl) (hpl : (backTo pos (starEach [] X.env)).any (·.1) = false := by rfl) : WG X B PX (.Call (.Name "list" p) [e] [] pos) Γ m P := fun as σ F H Q d hx k =>
  tEv_of (pe_callTy call_list_of hg hm PyProof.Rows.boot_list (pa_cons peS pa_nil hs) (by decide) (by decide) hs hpl) (h as σ F H _ d hx fun xs m1 ad vs N H1 e1 d1 hS hr pp => ⟨ad, vs, rfl, seqQ_H d1.ok.sub hS, fun t ht =>
    k (mu m1.length) _ [t] (.ref t) N _ e1 (d1.newM (c := lst xs) ht ⟨vs, rfl, hr⟩) ⟨t, by rw [← d1.ok.len, List.getElem?_append_right (Nat.le_refl _), Nat.sub_self]; rfl, rfl⟩ pp⟩)
theorem we_lenQ {P : Int → List MC → Prop} (hm : X.mg "len" = none) (h : WSrc SeqQ X B PX e Γ m fun (xs : List α) m1 => P (xs.length : Int) m1)
    (hg : Gl X "len" := by rfl) (hs : starEach [e] X.env = (false, eval e X.env) :: starEach [] X.env := by rfl) (hpl : (backTo pos (starEach [] X.env)).any (·.1) = false := by rfl) : WE X B PX (.Call (.Name "len" p) [e] [] pos) Γ m P := fun as σ F H Q d hx k =>
  tEv_of (pe_callB call_len_seq hg hm PySem.boot_len (pa_cons peS pa_nil hs) (by decide) (by decide) hs hpl) (h as σ F H _ d hx fun xs m1 ad vs N H1 e1 d1 hS hr pp => ⟨ad, vs, rfl, seqQ_H d1.ok.sub hS, k _ m1 _ N H1 e1 d1 (rep_int.mpr rfl) (by rw [hr.length]; exact pp)⟩)
/-- x[i], x a list that changes -/
theorem we_ixM {P : α → List MC → Prop} (hN : X.N[i]? = some x) (hg : Γ[i]? = some (mu j)) (h : WE X B PX b Γ m fun (n : Int) m2 => ∃ xs : List α, m2[j]? = some (lst xs) ∧ (idx xs n).sat (fun y => P y m2) fun _ => False) (hs : PlainIx b := by exact fun _ _ => rfl)
    (hv : Vis X.env.scope x := by first | exact Or.inl rfl | exact Or.inr (Or.inl rfl) | exact Or.inr (Or.inr rfl)) (hd : (x == ("__debug__" : Str)) = false := by decide) (hcd : (x == ("__classdict__" : Str)) = false := by decide) : WE X B PX (.Subscript (.Name x p) b pos) Γ m P := fun as σ F H Q d hx k => by
  obtain ⟨o, ho, ad, ha, rfl⟩ := d.sl.get hg
  refine tEv_of (pe_ix ix_list (pe_var hN hv hd hcd) peS hs) ⟨_, ho, h as σ F H _ d hx fun n m2 w N2 H2 e2 d2 r2 ⟨xs, hm, p2⟩ => ?_⟩
  rw [rep_int] at r2
  subst r2
  obtain ⟨y, hy, py⟩ := idx_sat p2
  obtain ⟨_, vs, hvs, rr⟩ := des_lst d2.ok ha hm
  obtain ⟨u, hu, ru⟩ := reps_at rr hy
  exact ⟨ad, vs, n, u, rfl, rfl, SqL.of hvs, hu, k y m2 u N2 H2 e2 d2 ru py⟩
theorem we_ixSq {P : α → List MC → Prop} {xs : List α} (hN : X.N[i]? = some x) (hg : Γ[i]? = some (sqL xs)) (h : WE X B PX b Γ m fun (n : Int) m2 => (idx xs n).sat (fun y => P y m2) fun _ => False) (hs : PlainIx b := by exact fun _ _ => rfl)
    (hv : Vis X.env.scope x := by first | exact Or.inl rfl | exact Or.inr (Or.inl rfl) | exact Or.inr (Or.inr rfl)) (hd : (x == ("__debug__" : Str)) = false := by decide) (hcd : (x == ("__classdict__" : Str)) = false := by decide) : WE X B PX (.Subscript (.Name x p) b pos) Γ m P := fun as σ F H Q d hx k => by
  obtain ⟨o, ho, ad, vs, rfl, hS, rr⟩ := d.sl.get hg
  refine tEv_of (pe_ix ix_list (pe_var hN hv hd hcd) peS hs) ⟨_, ho, h as σ F H _ d hx fun n m2 w N2 H2 e2 d2 r2 p2 => ?_⟩
  rw [rep_int] at r2
  subst r2
  obtain ⟨y, hy, py⟩ := idx_sat p2
  obtain ⟨u, hu, ru⟩ := reps_at (rr.up e2) hy
  have s2 := e2.trans d2.ok.sub
  exact ⟨ad, vs, n, u, rfl, rfl, sqL_up s2 hS, hu, k y m2 u N2 H2 e2 d2 ru py⟩
/-! ### slices -/
def cut (xs : List α) (lo hi : Option Int) : List α := (xs.drop (HT.sIx xs.length 0 lo)).take (HT.sIx xs.length xs.length hi - HT.sIx xs.length 0 lo)
theorem reps_cut {K : PySem.W.Frag} {F : Hp} {xs : List α} {vs : List V} (r : Reps K F xs vs) (lo hi : Option Int) : Reps K F (cut xs lo hi) (cutV vs lo hi) := by
  unfold cut cutV
  rw [r.length]
  exact (r.drop _).take _
/-- a slice's part -/
def tOp' (X : Cx) (o : Option Expr) : TO := fun σ H Q => ∀ pins s, Inv X pins σ H s → wpAny (model X.prog X.w) X.A (evalPart o X.env) (fun u s' => ∃ i H', Inv X pins σ H' s' ∧ IsPart u i ∧ Q i H') X.xe s
theorem poS {X : Cx} {o : Option Expr} : PO X o (tOp' X o) := ⟨fun pins s σ H Q I h => h pins s I⟩
theorem tOp_of {X : Cx} {o : Option Expr} {t : TO} (h : PO X o t) {σ : L2.St} {H : Hp} {Q : Option Int → Hp → Prop} (q : t σ H Q) : tOp' X o σ H Q := fun pins s I => h.run pins s σ H Q I q
def WO (X : Cx) (B : Bs) (PX : PXT) (o : Option Expr) (Γ : List Sl) (m : List MC) (P : Option Int → List MC → Prop) : Prop :=
  ∀ as σ F H (Q : Option Int → Hp → Prop), Des X.K B Γ m as σ F H → Xs X B PX as F → (∀ i m' N H2, Same F N → Des X.K B Γ m' as σ N H2 → P i m' → Q i H2) → tOp' X o σ H Q
theorem wo_none {P : Option Int → List MC → Prop} (h : P none m) : WO X B PX none Γ m P := fun as σ F H Q d hx k => tOp_of po_none (k none m F H (Same.refl F) d h)
theorem wo_some {P : Option Int → List MC → Prop} (h : WE X B PX e Γ m fun (i : Int) m' => P (some i) m') : WO X B PX (some e) Γ m P := fun as σ F H Q d hx k => tOp_of (po_some peS) (h as σ F H _ d hx fun i m' v N H2 e' d' r p => ⟨i, rep_int.mp r, k _ m' N H2 e' d' p⟩)
variable {lo hi : Option Expr}
theorem we_slL {P : List α → List MC → Prop} (h : WE X B PX a Γ m fun (xs : List α) m1 => WO X B PX lo Γ m1 fun l m2 => WO X B PX hi Γ m2 fun u m3 => P (cut xs l u) m3) : WE X B PX (.Subscript a (.Slice lo hi none p2) pos) Γ m P := fun as σ F H Q d hx k =>
  tEv_of (pe_slice sl_list peS poS poS) (h as σ F H _ d hx fun xs m1 v N H1 e1 d1 r1 p1 => p1 as σ N H1 _ d1 (hx.up e1) fun l m2 N2 H2 e2 d2 p2 => p2 as σ N2 H2 _ d2 (hx.up (e1.trans e2)) fun u m3 N3 H3 e3 d3 p3 => by
    obtain ⟨t, vs, rfl, ht, hr⟩ := rep_list.mp (Py.up (e2.trans e3) r1)
    refine ⟨t, vs, rfl, SqL.of (d3.ok.sub _ _ ht), fun q hq => ?_⟩
    obtain ⟨s, d4⟩ := d3.new (o := .lst (cutV vs l u)) hq
    exact k _ m3 _ _ _ (((e1.trans e2).trans e3).trans s) d4 (rep_list.mpr ⟨q, _, rfl, upd_same, (reps_cut hr l u).up s⟩) p3)
theorem we_slT {P : Tup α → List MC → Prop} (h : WE X B PX a Γ m fun (xs : Tup α) m1 => WO X B PX lo Γ m1 fun l m2 => WO X B PX hi Γ m2 fun u m3 => P ⟨cut xs.items l u⟩ m3) : WE X B PX (.Subscript a (.Slice lo hi none p2) pos) Γ m P := fun as σ F H Q d hx k =>
  tEv_of (pe_slice sl_tupA peS poS poS) (h as σ F H _ d hx fun xs m1 v N H1 e1 d1 r1 p1 => p1 as σ N H1 _ d1 (hx.up e1) fun l m2 N2 H2 e2 d2 p2 => p2 as σ N2 H2 _ d2 (hx.up (e1.trans e2)) fun u m3 N3 H3 e3 d3 p3 => by
    obtain ⟨t, vs, rfl, ht, hr⟩ := rep_tup.mp (Py.up (e2.trans e3) r1)
    refine ⟨t, vs, rfl, sqT_up d3.ok.sub ht, fun ⟨h1, h2⟩ => ?_, fun _ q hq => ?_⟩
    · have hc : cut xs.items l u = xs.items := by
        rw [hr.length] at h1 h2
        unfold cut
        rw [h1, h2, List.drop_zero, Nat.sub_zero, List.take_length]
      have p4 : P ⟨cut xs.items l u⟩ m3 := p3
      rw [hc] at p4
      exact k ⟨xs.items⟩ m3 _ N3 H3 ((e1.trans e2).trans e3) d3 (rep_tup.mpr ⟨t, vs, rfl, ht, hr⟩) p4
    · obtain ⟨s, d4⟩ := d3.new (o := .tup (cutV vs l u)) hq
      exact k _ m3 _ _ _ (((e1.trans e2).trans e3).trans s) d4 (rep_tup.mpr ⟨q, _, rfl, SqT.of upd_same, (reps_cut hr l u).up s⟩) p3)
/-- a slice of a source that stands in the frozen heap -/
theorem we_slSq {P : List α → List MC → Prop} {xs : List α} (hN : X.N[i]? = some x) (hg : Γ[i]? = some (sqL xs)) (h : WO X B PX lo Γ m fun l m2 => WO X B PX hi Γ m2 fun u m3 => P (cut xs l u) m3)
    (hv : Vis X.env.scope x := by first | exact Or.inl rfl | exact Or.inr (Or.inl rfl) | exact Or.inr (Or.inr rfl)) (hd : (x == ("__debug__" : Str)) = false := by decide) (hcd : (x == ("__classdict__" : Str)) = false := by decide) : WE X B PX (.Subscript (.Name x p) (.Slice lo hi none p2) pos) Γ m P := fun as σ F H Q d hx k => by
  obtain ⟨o, ho, ad, vs, rfl, hS, rr⟩ := d.sl.get hg
  refine tEv_of (pe_slice sl_list (pe_var hN hv hd hcd) poS poS) ⟨_, ho, h as σ F H _ d hx fun l m2 N2 H2 e2 d2 p2 => p2 as σ N2 H2 _ d2 (hx.up e2) fun u m3 N3 H3 e3 d3 p3 => ?_⟩
  have s2 := (e2.trans e3).trans d3.ok.sub
  refine ⟨ad, vs, rfl, sqL_up s2 hS, fun q hq => ?_⟩
  obtain ⟨s, d4⟩ := d3.new (o := .lst (cutV vs l u)) hq
  exact k _ m3 _ _ _ ((e2.trans e3).trans s) d4 (rep_list.mpr ⟨q, _, rfl, upd_same, ((reps_cut rr l u).up (e2.trans e3)).up s⟩) p3
/-! ### sums -/
theorem rv_cat {P : List α → Prop} {xs ys : List α} (hl : xs.length + ys.length ≤ sizeLine) (h : P (xs ++ ys)) : RV2 X B rCat xs ys P := fun Γ m as σ F H v w Q d r1 r2 k => by
  obtain ⟨t, vs, rfl, ht, hr⟩ := rep_list.mp r1
  obtain ⟨u, ws, rfl, hu, hs⟩ := rep_list.mp r2
  refine ⟨t, u, vs, ws, rfl, rfl, d.ok.sub _ _ ht, d.ok.sub _ _ hu, by rw [hr.length, hs.length]; exact hl, fun q hq => ?_⟩
  obtain ⟨s, d2⟩ := d.new (o := .lst (vs ++ ws)) hq
  exact k _ _ _ _ s d2 (rep_list.mpr ⟨q, _, rfl, upd_same, (hr.append hs).up s⟩) h
theorem we_catL {P : List α → List MC → Prop} (h : WE X B PX a Γ m fun (xs : List α) m1 => WE X B PX b Γ m1 fun (ys : List α) m2 => xs.length + ys.length ≤ sizeLine ∧ P (xs ++ ys) m2) : WE X B PX (.BinOp a .Add b pos) Γ m P :=
  we_op (fun _ _ => pe_op op_cat) (h.imp fun _ _ h => h.imp fun _ _ h => rv_cat h.1 h.2)
theorem rv_catT {P : Tup α → Prop} {xs ys : Tup α} (hl : xs.items.length + ys.items.length ≤ sizeLine) (h : P ⟨xs.items ++ ys.items⟩) : RV2 X B (rCatA X.K) xs ys P := fun Γ m as σ F H v w Q d r1 r2 k => by
  obtain ⟨t, vs, rfl, ht, hr⟩ := rep_tup.mp r1
  obtain ⟨u, ws, rfl, hu, hs⟩ := rep_tup.mp r2
  refine ⟨t, u, vs, ws, rfl, rfl, sqT_up d.ok.sub ht, sqT_up d.ok.sub hu, by rw [hr.length, hs.length]; exact hl, fun e => ?_, fun _ e => ?_, fun _ _ q hq => ?_⟩
  · have e2 : xs.items = [] := List.eq_nil_of_length_eq_zero (by rw [← hr.length, e]; rfl)
    rw [e2, List.nil_append] at h
    exact k _ _ F H (Same.refl F) d (rep_tup.mpr ⟨u, ws, rfl, hu, hs⟩) h
  · have e2 : ys.items = [] := List.eq_nil_of_length_eq_zero (by rw [← hs.length, e]; rfl)
    rw [e2, List.append_nil] at h
    exact k _ _ F H (Same.refl F) d (rep_tup.mpr ⟨t, vs, rfl, ht, hr⟩) h
  · obtain ⟨s, d2⟩ := d.new (o := .tup (vs ++ ws)) hq
    exact k _ _ _ _ s d2 (rep_tup.mpr ⟨q, _, rfl, SqT.of upd_same, (hr.append hs).up s⟩) h
theorem we_catT {P : Tup α → List MC → Prop} (h : WE X B PX a Γ m fun (xs : Tup α) m1 => WE X B PX b Γ m1 fun (ys : Tup α) m2 => xs.items.length + ys.items.length ≤ sizeLine ∧ P ⟨xs.items ++ ys.items⟩ m2) : WE X B PX (.BinOp a .Add b pos) Γ m P :=
  we_op (fun _ _ => pe_op op_catA) (h.imp fun _ _ h => h.imp fun _ _ h => rv_catT h.1 h.2)
end
/-! ### numbers -/
section
variable {X : Cx} {B : Bs} {PX : PXT} {Γ : List Sl} {m : List MC} {e a b c : Expr} {es : List Expr} {pos p p1 p2 : Pos} {P : Int → List MC → Prop}
/-- i ** j, both written -/
theorem we_powC {i j k : Int} {n1 n2 : Nat} (h : P k m) (c : CPow i j := by unfold CPow; decide +kernel) (e : i ^ j.toNat = k := by decide +kernel) : WE X B PX (.BinOp (.Constant (.int i) n1 p1) .Pow (.Constant (.int j) n2 p2) pos) Γ m P :=
  we_pow (we_int (we_int ⟨c, by rw [e]; exact h⟩))
theorem we_mulW (h : WE X B PX a Γ m fun (i : Int) m1 => WE X B PX b Γ m1 fun (j : Int) m2 => CMulW i j ∧ P (i * j) m2) : WE X B PX (.BinOp a .Mult b pos) Γ m P :=
  we_op (fun _ _ => pe_op op_mulW) (h.imp fun _ _ h => h.imp fun _ _ h => rv_I (g := fun i j => i * j) h.1 h.2)
theorem we_fdivW (h : WE X B PX a Γ m fun (i : Int) m1 => WE X B PX b Γ m1 fun (j : Int) m2 => CDivW i j ∧ P (i / j) m2) : WE X B PX (.BinOp a .FloorDiv b pos) Γ m P :=
  we_op (fun _ _ => pe_op op_fdivW) (h.imp fun _ _ h => h.imp fun _ _ h => rv_I (g := fun i j => i / j) h.1 h.2)
theorem we_call2 {r : List V → Hp → VK → Prop} {id : String} {x : Str} {γ : Type} [Py γ] {P : γ → List MC → Prop} {f : Int → Int → γ} (hc : CallR X (.builtin id) r) (hm : X.mg x = none) (hv : bootBuiltins x = some (.builtin id))
    (hr : ∀ i j Γ m as σ F H (Q : VK), Des X.K B Γ m as σ F H → (∀ u N H2, Same F N → Des X.K B Γ m as σ N H2 → Py.rep X.K (f i j) u N → Q u H2) → r [.int i, .int j] H Q)
    (h : WE X B PX a Γ m fun (i : Int) m1 => WE X B PX b Γ m1 fun (j : Int) m2 => P (f i j) m2)
    (hg : Gl X x := by rfl) (hn : x ≠ "__name__" := by decide) (hdb : (x == ("__debug__" : Str)) = false := by decide) (hs : starEach [a, b] X.env = (false, eval a X.env) :: starEach [b] X.env := by rfl) (hs2 : starEach [b] X.env = (false, eval b X.env) :: starEach [] X.env := by rfl) (hpl : (backTo pos (starEach [b] X.env)).any (·.1) = false := by rfl) :
    WE X B PX (.Call (.Name x p) [a, b] [] pos) Γ m P := fun as σ F H Q d hx k =>
  tEv_of (pe_callB hc hg hm hv (pa_cons peS (pa_cons peS pa_nil hs2) hs) hn hdb hs hpl) (h as σ F H _ d hx fun i m1 v N H1 e1 d1 r1 p1 => p1 as σ N H1 _ d1 (hx.up e1) fun j m2 w N2 H2 e2 d2 r2 pp => by
    rw [rep_int] at r1 r2
    subst r1 r2
    exact hr i j Γ m2 as σ N2 H2 Q d2 fun u N3 H3 e3 d3 r3 => k _ m2 u N3 H3 ((e1.trans e2).trans e3) d3 r3 pp)
def max2 (i j : Int) : Int := if j > i then j else i
def min2 (i j : Int) : Int := if j < i then j else i
def abs1 (i : Int) : Int := if i < 0 then -i else i
theorem we_max2 (hc : X.calm = true) (hm : X.mg "max" = none) (h : WE X B PX a Γ m fun (i : Int) m1 => WE X B PX b Γ m1 fun (j : Int) m2 => P (max2 i j) m2) (hg : Gl X "max" := by rfl)
    (hs : starEach [a, b] X.env = (false, eval a X.env) :: starEach [b] X.env := by rfl) (hs2 : starEach [b] X.env = (false, eval b X.env) :: starEach [] X.env := by rfl) (hpl : (backTo pos (starEach [b] X.env)).any (·.1) = false := by rfl) : WE X B PX (.Call (.Name "max" p) [a, b] [] pos) Γ m P :=
  we_call2 (f := max2) (call_max2 hc) hm PyProof.Rows.boot_max (fun i j Γ m as σ F H Q d k => ⟨i, j, rfl, k _ F H (Same.refl F) d (rep_int.mpr rfl)⟩) h hg (by decide) (by decide) hs hs2 hpl
theorem we_min2 (hc : X.calm = true) (hm : X.mg "min" = none) (h : WE X B PX a Γ m fun (i : Int) m1 => WE X B PX b Γ m1 fun (j : Int) m2 => P (min2 i j) m2) (hg : Gl X "min" := by rfl)
    (hs : starEach [a, b] X.env = (false, eval a X.env) :: starEach [b] X.env := by rfl) (hs2 : starEach [b] X.env = (false, eval b X.env) :: starEach [] X.env := by rfl) (hpl : (backTo pos (starEach [b] X.env)).any (·.1) = false := by rfl) : WE X B PX (.Call (.Name "min" p) [a, b] [] pos) Γ m P :=
  we_call2 (f := min2) (call_min2 hc) hm PyProof.Rows.boot_min (fun i j Γ m as σ F H Q d k => ⟨i, j, rfl, k _ F H (Same.refl F) d (rep_int.mpr rfl)⟩) h hg (by decide) (by decide) hs hs2 hpl
theorem we_abs (hm : X.mg "abs" = none) (h : WE X B PX a Γ m fun (i : Int) m1 => P (abs1 i) m1) (hg : Gl X "abs" := by rfl)
    (hs : starEach [a] X.env = (false, eval a X.env) :: starEach [] X.env := by rfl) (hpl : (backTo pos (starEach [] X.env)).any (·.1) = false := by rfl) : WE X B PX (.Call (.Name "abs" p) [a] [] pos) Γ m P := fun as σ F H Q d hx k =>
  tEv_of (pe_callB call_abs hg hm PyProof.Rows.boot_abs (pa_cons peS pa_nil hs) (by decide) (by decide) hs hpl) (h as σ F H _ d hx fun i m1 v N H1 e1 d1 r1 p1 => by
    rw [rep_int] at r1
    subst r1
    exact ⟨i, rfl, k _ m1 _ N H1 e1 d1 (rep_int.mpr rfl) p1⟩)
/-- divmod(a, b), b small enough -/
theorem we_divmod {P : Int × Int → List MC → Prop} (hm : X.mg "divmod" = none) (h : WE X B PX a Γ m fun (i : Int) m1 => WE X B PX b Γ m1 fun (j : Int) m2 => CDivW i j ∧ P (i / j, i % j) m2) (hg : Gl X "divmod" := by rfl)
    (hs : starEach [a, b] X.env = (false, eval a X.env) :: starEach [b] X.env := by rfl) (hs2 : starEach [b] X.env = (false, eval b X.env) :: starEach [] X.env := by rfl) (hpl : (backTo pos (starEach [b] X.env)).any (·.1) = false := by rfl) : WE X B PX (.Call (.Name "divmod" p) [a, b] [] pos) Γ m P := fun as σ F H Q d hx k =>
  tEv_of (pe_callB call_divmodW hg hm PyProof.Rows.boot_divmod (pa_cons peS (pa_cons peS pa_nil hs2) hs) (by decide) (by decide) hs hpl) (h as σ F H _ d hx fun i m1 v N H1 e1 d1 r1 p1 => p1 as σ N H1 _ d1 (hx.up e1) fun j m2 w N2 H2 e2 d2 r2 ⟨hcw, pp⟩ => by
    rw [rep_int] at r1 r2
    subst r1 r2
    refine ⟨i, j, rfl, ⟨hcw.1, PyProof.noPylong_of_log2 hcw.2⟩, fun t ht => ?_⟩
    obtain ⟨s, d3⟩ := d2.new (o := .tup [.int (i / j), .int (i % j)]) ht
    exact k (i / j, i % j) m2 _ _ _ ((e1.trans e2).trans s) d3 (rep_pair.mpr ⟨t, _, _, rfl, SqT.of upd_same, rep_int.mpr rfl, rep_int.mpr rfl⟩) pp)
end
end G

/-! Core12: membership; isinstance; data of any form; parts of tuples that change; joins. -/
namespace G
open PySem PySem.Spec PyProof.Rows L2
open PySem.W (Datum Tup T3)
section
variable {X : Cx} {B : Bs} {PX : PXT} {Γ : List Sl} {m : List MC} {e a b c o : Expr} {es : List Expr} {pos p p2 apos : Pos} {x : Str} {i j : Nat} {α β : Type} {PB : Bool → List MC → Prop}
/-! ### in -/
section
variable [DecidableEq α] [Datum α]
def rInX (α : Type) [DecidableEq α] [Datum α] (K : PySem.W.Frag) (neg : Bool) : R2 := fun y x H Q => ∃ a vs, ∃ xs : List α, ∃ d : α, x = .ref a ∧ (SqL K H a vs ∨ SqT K H a vs) ∧ Reps K H xs vs ∧ Py.rep K d y H ∧ Q (.bl (if neg then decide (d ∉ xs) else decide (d ∈ xs))) H
theorem op_inX (hu : X.A.units + 128 < cLine) (hz : Datum.depth α ≤ 64) : OpR X (compareOp .In) (rInX α X.K false) := by
  intro pins s σ H y x v u Q I ry rx h
  obtain ⟨a, vs, xs, d, rfl, hS, hr, hd, q⟩ := h
  cases rx
  have hh := Dp.reads I _ y v (Dq.dp _ _ hd) ry
  rcases hS with hS | hS
  · obtain ⟨its, r, pl, _⟩ := I.list hS
    exact PySem.W.in_list_datum pl.isList (Dp.readsAll I _ vs its (Dqs.dp _ _ hr) r) hh (by omega) ⟨.bl _, H, I, rfl, q⟩
  · obtain ⟨its, r, pl, _⟩ := I.tuple hS
    exact PySem.W.in_tuple_datum pl (Dp.readsAll I _ vs its (Dqs.dp _ _ hr) r) hh (by omega) ⟨.bl _, H, I, rfl, q⟩
theorem op_notinX (hu : X.A.units + 128 < cLine) (hz : Datum.depth α ≤ 64) : OpR X (compareOp .NotIn) (rInX α X.K true) := by
  intro pins s σ H y x v u Q I ry rx h
  obtain ⟨a, vs, xs, d, rfl, hS, hr, hd, q⟩ := h
  cases rx
  have hh := Dp.reads I _ y v (Dq.dp _ _ hd) ry
  rcases hS with hS | hS
  · obtain ⟨its, r, pl, _⟩ := I.list hS
    exact PySem.W.notIn_list_datum pl.isList (Dp.readsAll I _ vs its (Dqs.dp _ _ hr) r) hh (by omega) ⟨.bl _, H, I, rfl, q⟩
  · obtain ⟨its, r, pl, _⟩ := I.tuple hS
    exact PySem.W.notIn_tuple_datum pl (Dp.readsAll I _ vs its (Dqs.dp _ _ hr) r) hh (by omega) ⟨.bl _, H, I, rfl, q⟩
theorem we_inQ (hu : X.A.units + 128 < cLine) (h : WE X B PX a Γ m fun (y : α) m1 => WSrc SeqQ X B PX b Γ m1 fun xs m2 => PB (decide (y ∈ xs)) m2) (hz : Datum.depth α ≤ 64 := by decide) (hb : behindInMarks .In b = false := by rfl) : WE X B PX (.Compare a [.In] [b] pos) Γ m PB := fun as σ F H Q d hx k =>
  tEv_of (pe_cmpR (op_inX (α := α) hu hz) peS peS hb) (h as σ F H _ d hx fun y m1 v N H1 e1 d1 r1 p1 => p1 as σ N H1 _ d1 (hx.up e1) fun xs m2 ad vs N2 H2 e2 d2 hS hr pp =>
    ⟨ad, vs, xs, y, rfl, seqQ_H d2.ok.sub hS, hr.up d2.ok.sub, Py.up (e2.trans d2.ok.sub) r1, k _ m2 _ N2 H2 (e1.trans e2) d2 (rep_bool.mpr rfl) pp⟩)
theorem we_notinQ (hu : X.A.units + 128 < cLine) (h : WE X B PX a Γ m fun (y : α) m1 => WSrc SeqQ X B PX b Γ m1 fun xs m2 => PB (decide (y ∉ xs)) m2) (hz : Datum.depth α ≤ 64 := by decide) (hb : behindInMarks .NotIn b = false := by rfl) : WE X B PX (.Compare a [.NotIn] [b] pos) Γ m PB := fun as σ F H Q d hx k =>
  tEv_of (pe_cmpR (op_notinX (α := α) hu hz) peS peS hb) (h as σ F H _ d hx fun y m1 v N H1 e1 d1 r1 p1 => p1 as σ N H1 _ d1 (hx.up e1) fun xs m2 ad vs N2 H2 e2 d2 hS hr pp =>
    ⟨ad, vs, xs, y, rfl, seqQ_H d2.ok.sub hS, hr.up d2.ok.sub, Py.up (e2.trans d2.ok.sub) r1, k _ m2 _ N2 H2 (e1.trans e2) d2 (rep_bool.mpr rfl) pp⟩)
end
/-! ### isinstance -/
theorem call_isa {T : String} {f : PyData → Bool} (hk : ∀ (s : Shared) (v : Value) (d : PyData) (as : List Addr) (Q : Value → Shared → Prop), Reads s.heap v d as → (∀ tk, s.toks ≤ tk → Q (.bool (f d)) { s with toks := tk }) → wpAny (model X.prog X.w) X.A (call (.builtin "isinstance") [v, .type T]) Q X.xe s) :
    CallR X (.builtin "isinstance") (fun vs H Q => ∃ x d, vs = [x, .ty T] ∧ Dp X.K H x d ∧ Q (.bl (f d)) H) := by
  intro pins s σ H vs us Q I r h
  obtain ⟨x, d, rfl, hd, q⟩ := h
  obtain ⟨u1, u2, rfl, r1, r2⟩ := vals2 r
  cases r2
  obtain ⟨as, rd⟩ := Dp.reads I d x u1 hd r1
  exact hk s u1 d as _ rd fun tk _ => ⟨.bl (f d), H, I.tok tk, rfl, q⟩
theorem we_isa {T : String} {y : Str} {f : PyData → Bool} (hk : ∀ (s : Shared) (v : Value) (d : PyData) (as : List Addr) (Q : Value → Shared → Prop), Reads s.heap v d as → (∀ tk, s.toks ≤ tk → Q (.bool (f d)) { s with toks := tk }) → wpAny (model X.prog X.w) X.A (call (.builtin "isinstance") [v, .type T]) Q X.xe s)
    (hm : X.mg "isinstance" = none) (hmy : X.mg y = none) (hv : bootBuiltins y = some (.type T)) (h : WE X B PX a Γ m fun (d : PyData) m1 => PB (f d) m1) (hgy : Gl X y := by rfl) (hny : y ≠ "__name__" := by decide) (hdy : (y == ("__debug__" : Str)) = false := by decide)
    (hg : Gl X "isinstance" := by rfl) (hs : starEach [a, .Name y p2] X.env = (false, eval a X.env) :: starEach [.Name y p2] X.env := by rfl) (hs2 : starEach [.Name y p2] X.env = (false, eval (.Name y p2) X.env) :: starEach [] X.env := by rfl) (hpl : (backTo pos (starEach [.Name y p2] X.env)).any (·.1) = false := by rfl) :
    WE X B PX (.Call (.Name "isinstance" p) [a, .Name y p2] [] pos) Γ m PB := fun as σ F H Q d hx k =>
  tEv_of (pe_callB (call_isa hk) hg hm PyProof.Rows.boot_isinstance (pa_cons peS (pa_cons (pe_bltn hgy hmy hv (show RelV (.ty T) (.type T) from rfl) hny hdy) pa_nil hs2) hs) (by decide) (by decide) hs hpl)
    (h as σ F H _ d hx fun y m1 v N H1 e1 d1 r1 pp => ⟨v, y, rfl, Dq.dp _ _ (dq_up d1.ok.sub _ _ r1), k _ m1 _ N H1 e1 d1 (rep_bool.mpr rfl) pp⟩)
/-! ### data of any form -/
def eqD (d e : PyData) : R Bool := chk (d.plain && e.plain && decide (d.depth ≤ 64)) (.ok (PyData.eqv d e))
theorem rv_eqD {P : Bool → Prop} {x y : PyData} (h1 : x.plain = true) (h2 : y.plain = true) (hz : x.depth ≤ 64) (h : P (PyData.eqv x y)) : RV2 X B (rEqY X.K) x y P := fun Γ m as σ F H v w Q d r1 r2 k =>
  ⟨x, y, Dq.dp _ _ (dq_up d.ok.sub _ _ r1), Dq.dp _ _ (dq_up d.ok.sub _ _ r2), h1, h2, hz, k _ _ F H (Same.refl F) d (rep_bool.mpr rfl) h⟩
theorem rv_neD {P : Bool → Prop} {x y : PyData} (h1 : x.plain = true) (h2 : y.plain = true) (hz : x.depth ≤ 64) (h : P (!PyData.eqv x y)) : RV2 X B (rNeY X.K) x y P := fun Γ m as σ F H v w Q d r1 r2 k =>
  ⟨x, y, Dq.dp _ _ (dq_up d.ok.sub _ _ r1), Dq.dp _ _ (dq_up d.ok.sub _ _ r2), h1, h2, hz, k _ _ F H (Same.refl F) d (rep_bool.mpr rfl) h⟩
theorem we_eqD (hu : X.A.units + 64 < cLine) (h : WE X B PX a Γ m fun (d : PyData) m1 => WE X B PX b Γ m1 fun (e : PyData) m2 => d.plain = true ∧ e.plain = true ∧ d.depth ≤ 64 ∧ PB (PyData.eqv d e) m2) : WE X B PX (.Compare a [.Eq] [b] pos) Γ m PB :=
  we_op (fun _ _ h1 h2 => pe_cmpR (op_eqY hu) h1 h2 (nomark _)) (h.imp fun _ _ h => h.imp fun _ _ ⟨h1, h2, h3, h⟩ => rv_eqD h1 h2 h3 h)
theorem we_neD (hu : X.A.units + 64 < cLine) (h : WE X B PX a Γ m fun (d : PyData) m1 => WE X B PX b Γ m1 fun (e : PyData) m2 => d.plain = true ∧ e.plain = true ∧ d.depth ≤ 64 ∧ PB (!PyData.eqv d e) m2) : WE X B PX (.Compare a [.NotEq] [b] pos) Γ m PB :=
  we_op (fun _ _ h1 h2 => pe_cmpR (op_neY hu) h1 h2 (nomark _)) (h.imp fun _ _ h => h.imp fun _ _ ⟨h1, h2, h3, h⟩ => rv_neD h1 h2 h3 h)
/-- other types, as data -/
theorem we_eqT (α β : Type) [DecidableEq α] [Datum α] [DecidableEq β] [Datum β] (hu : X.A.units + 64 < cLine) (h : WE X B PX a Γ m fun (d : α) m1 => WE X B PX b Γ m1 fun (e : β) m2 => PB (PyData.eqv (Datum.toD d) (Datum.toD e)) m2) (hz : Datum.depth α ≤ 64 := by decide) : WE X B PX (.Compare a [.Eq] [b] pos) Γ m PB :=
  we_eqD hu (WE.dyn (h.imp fun d _ h => WE.dyn (h.imp fun e _ h => ⟨Datum.plain d, Datum.plain e, Nat.le_trans (Datum.depth_le d) hz, h⟩)))
theorem we_neT (α β : Type) [DecidableEq α] [Datum α] [DecidableEq β] [Datum β] (hu : X.A.units + 64 < cLine) (h : WE X B PX a Γ m fun (d : α) m1 => WE X B PX b Γ m1 fun (e : β) m2 => PB (!PyData.eqv (Datum.toD d) (Datum.toD e)) m2) (hz : Datum.depth α ≤ 64 := by decide) : WE X B PX (.Compare a [.NotEq] [b] pos) Γ m PB :=
  we_neD hu (WE.dyn (h.imp fun d _ h => WE.dyn (h.imp fun e _ h => ⟨Datum.plain d, Datum.plain e, Nat.le_trans (Datum.depth_le d) hz, h⟩)))
theorem we_tup0 {k : Nat} {P : PyData → List MC → Prop} (h : P (.tuple []) m) : WE X B PX (.Tuple [] k pos) Γ m P :=
  WE.dyn (we_tupL (α := Int) (wl_nil ⟨Nat.zero_le _, h⟩))
/-- len of a tuple of fixed form -/
theorem we_lenF [DecidableEq α] [Datum α] {P : Int → List MC → Prop} {n : Nat} (hn : ∀ x : α, ∃ ds, Datum.toD x = .tuple ds ∧ ds.length = n) (hm : X.mg "len" = none) (h : WE X B PX e Γ m fun (_ : α) m1 => P (n : Int) m1)
    (hg : Gl X "len" := by rfl) (hs : starEach [e] X.env = (false, eval e X.env) :: starEach [] X.env := by rfl) (hpl : (backTo pos (starEach [] X.env)).any (·.1) = false := by rfl) : WE X B PX (.Call (.Name "len" p) [e] [] pos) Γ m P :=
  we_lenX (n := fun _ : α => n) hm (fun F H x v s r => by
    obtain ⟨ds, e, hl⟩ := hn x
    have r' : Dq X.K F v (Datum.toD x) := r
    rw [e] at r'
    cases r' with
    | tup hs ha =>
      refine .inr ⟨_, sqT_up s hs, ?_⟩
      have : ∀ {ds : List PyData} {vs : List V}, Dqs X.K F vs ds → vs.length = ds.length := by
        intro ds
        induction ds with
        | nil =>
          intro vs h
          cases h
          rfl
        | cons d ds ih =>
          intro vs h
          cases h with
          | cons _ t => rw [List.length_cons, List.length_cons, ih t]
      rw [this ha, hl]) h hg hs hpl
/-! ### parts of a tuple that hold what changes -/
theorem slotsOk_get {K : PySem.W.Frag} {as : List Addr} {F : Hp} : ∀ {gs : List Sl} {vs : List V} {n : Nat} {g : Sl}, slotsOk K as F gs vs → gs[n]? = some g → ∃ v, vs[n]? = some v ∧ g.ok K as F (some v)
  | [], _, n, _, _, e => by simp at e
  | _ :: _, [], _, _, h, _ => h.elim
  | g0 :: _, v :: _, 0, g, h, e => by
    have e' := Option.some.inj (show some g0 = some g from e)
    subst e'
    exact ⟨v, rfl, h.1⟩
  | _ :: _, _ :: _, n + 1, _, h, e => slotsOk_get (n := n) h.2 (by simpa using e)
theorem wg_ixS {P : Sl → List MC → Prop} {n n2 : Nat} {g : Sl} {gs : List Sl} {pc : Pos} (hN : X.N[i]? = some x) (hg : Γ[i]? = some (tupS gs)) (hn : gs[n]? = some g) (h : P g m) (hs : PlainIx (.Constant (.int (n : Int)) n2 pc) := by exact fun _ _ => rfl)
    (hv : Vis X.env.scope x := by first | exact Or.inl rfl | exact Or.inr (Or.inl rfl) | exact Or.inr (Or.inr rfl)) (hd : (x == ("__debug__" : Str)) = false := by decide) (hcd : (x == ("__classdict__" : Str)) = false := by decide) : WG X B PX (.Subscript (.Name x p) (.Constant (.int (n : Int)) n2 pc) pos) Γ m P := fun as σ F H Q d hx k => by
  obtain ⟨o, ho, t, vs, rfl, hT, hS⟩ := d.sl.get hg
  obtain ⟨v, hv', hgv⟩ := slotsOk_get hS hn
  refine tEv_of (pe_ix ix_tup (pe_var hN hv hd hcd) pe_int hs) ⟨_, ho, t, vs, n, v, rfl, rfl, sqT_up d.ok.sub hT, ?_, k g m [] v F H (Same.refl F) (des0 d) (g.upA [] hgv) h⟩
  unfold atI ixN
  have hl := (List.getElem?_eq_some_iff.mp hv').1
  rw [if_pos (by omega), if_pos (by omega)]
  exact hv'
/-- o.clear() -/
theorem we_clear [DecidableEq α] [Datum α] {P : Unit → List MC → Prop} {xs : List α} (hj : m[j]? = some (lst xs)) (h : WG X B PX o Γ m fun g m' => g = mu j ∧ m' = m) (hP : P () (m.set j (lst ([] : List α))))
    (hbase : attributeBase o "clear" X.env (eval o X.env) = eval o X.env := by rfl) (hline : (apos.endLine == pos.line) = true := by rfl) : WE X B PX (.Call (.Attribute o "clear" apos) [] [] pos) Γ m P := fun as σ F H Q d hx k => by
  refine tEv_of (pe_bm0 PySem.F.plainAttrs_list PySem.F.slot_list_clear PySem.F.type_list_clear mt_clear peS hbase hline) (h as σ F H _ d hx fun g m' bs v N H2 e' d' r ⟨eg, em⟩ => ?_)
  subst eg em
  have hb : bs = [] := by
    have h1 := d'.ok.len
    have h2 := d.ok.len
    rw [List.length_append] at h1
    exact List.eq_nil_of_length_eq_zero (by omega)
  subst hb
  rw [List.append_nil] at d' r
  obtain ⟨ad, ha, ev⟩ := r
  cases ev
  obtain ⟨_, vs, hvs, _⟩ := des_lst d'.ok ha hj
  exact ⟨tyV_list d'.ok ha hj, ad, vs, rfl, rfl, hvs, k () _ .non N _ e' (d'.put (c' := lst ([] : List α)) ha hj rfl ⟨[], rfl, Reps.nil⟩) (rep_unit.mpr rfl) hP⟩
/-! ### conditions of mirrors, joins -/
end
namespace R
def ite {α : Type} (c : Bool) (a b : R α) : R α := match c with
  | true => a
  | false => b
@[simp] theorem ite_true {α : Type} (a b : R α) : R.ite true a b = a := rfl
@[simp] theorem ite_false {α : Type} (a b : R α) : R.ite false a b = b := rfl
end R
theorem ite_on {α : Type} {c : Bool} {r1 r2 : R α} {P : α → Prop} {E : Exn → Prop} {A C : Prop} (h : (R.ite c r1 r2).sat P E) (f : c = true → r1.sat P E → A) (g : c = false → r2.sat P E → C) : (match (generalizing := false) c with
    | true => A
    | false => C) := by
  cases c with
  | true => exact f rfl h
  | false => exact g rfl h
theorem idx_on {α β : Type} {xs : List α} {i : Int} {k : α → R β} {P : β → Prop} {E E' : Exn → Prop} {Q : α → Prop} (h : ((idx xs i).bind k).sat P E) (f : ∀ x, atI xs i = some x → (k x).sat P E → Q x) : (idx xs i).sat Q E' := by
  unfold idx at h ⊢
  cases e : atI xs i with
  | none => rw [e] at h; exact h.elim
  | some x => rw [e] at h; exact f x e h
section
variable {X : Cx} {B : Bs} {PX : PXT} {Γ : List Sl} {m : List MC} {e : Expr} {st : Stmt} {rest : List Stmt}
/-- a test by its mirror -/
theorem wt_cut {PB : Bool → List MC → Prop} {β : Type} {r : R Bool} {k : Bool → R β} {P : β → Prop} {E : Exn → Prop} (h : (r.bind k).sat P E) (hw : ∀ T : Bool → Prop, r.sat T E → WT X B PX e Γ m fun b m' => m' = m ∧ T b) (hk : ∀ b, (k b).sat P E → PB b m) : WT X B PX e Γ m PB :=
  (hw (fun b => (k b).sat P E) (R.bind_sat.mp h)).imp fun b m' ⟨em, hT⟩ => by
    subst em
    exact hk b hT
theorem we_cut {γ β : Type} [Py γ] {PB : γ → List MC → Prop} {r : R γ} {k : γ → R β} {P : β → Prop} {E : Exn → Prop} (h : (r.bind k).sat P E) (hw : ∀ T : γ → Prop, r.sat T E → WE X B PX e Γ m fun b m' => m' = m ∧ T b) (hk : ∀ b, (k b).sat P E → PB b m) : WE X B PX e Γ m PB :=
  (hw (fun b => (k b).sat P E) (R.bind_sat.mp h)).imp fun b m' ⟨em, hT⟩ => by
    subst em
    exact hk b hT
/-- what statements leave, told by a state -/
theorem wss_cut {S β : Type} {D : De} (γ : S → List Sl) (μ : S → List MC) (hμ : ∀ s, (μ s).length = m.length) {T : S → Prop} (h : WS X B PX st Γ m { D with nx := fun Γ' m' => ∃ s, T s ∧ Wk Γ' m' (γ s) (μ s) }) (hk : ∀ s, T s → WSs X B PX rest (γ s) (μ s) D) : WSs X B PX (st :: rest) Γ m D :=
  wss_cons fun as σ F H E d hx k => h as σ F H E d hx ⟨fun Γ' m' bs σ' N H' e' d' ⟨s, hT, w⟩ => by
    refine k.nx (γ s) (μ s) [] σ' N H' e' (des0 (w.ok (by rw [hμ, d.ok.len]) d')) (hk s hT), k.rt, k.bk, k.ct⟩
end
/-! ### no exceptions; comprehensions by their mirrors -/
def nx {α : Type} (r : R α) : R α := match r with
  | .ok x => .ok x
  | .exc _ => .bad
  | .bad => .bad
@[simp] theorem nx_ok {α : Type} (x : α) : nx (R.ok x) = .ok x := rfl
theorem sat_nx {α : Type} {r : R α} {P : α → Prop} {E : Exn → Prop} (h : (nx r).sat P E) : r.sat P fun _ => False := by
  cases r with
  | ok x => exact h
  | exc e => exact h.elim
  | bad => exact h
def comp {α β : Type} (pr : α → R Bool) (f : α → R β) (xs : List α) : R (List β) := chk (decide (xs.length ≤ sizeLine)) (nx (compR pr f xs))
theorem comp_on {α β ξ : Type} [Py α] [DecidableEq β] [Datum β] {X : Cx} {B : Bs} {scope : Scope} {vs : List Nat} {elt : Expr} {ifs : List Expr} {up : List Sl → α → List Sl} {pr : α → R Bool} {f : α → R β} {Γ : List Sl} {m : List MC} {Po : Sl → List MC → Prop} {xs : List α} {k : List β → R ξ} {P : ξ → Prop} {E : Exn → Prop}
    (h : ((comp pr f xs).bind k).sat P E) (hP : ∀ ys, (k ys).sat P E → Po (mu m.length) (m ++ [lst ys]))
    (ht : ∀ x (acc : List β) (T : Bool → Prop), x ∈ xs → (pr x).sat T (fun _ => False) → ∀ s H C cl fp, WTs (blkX X scope s H C cl fp) B nx0 ifs (up (wipeG Γ vs) x) (m ++ [lst acc]) fun b m' => m' = m ++ [lst acc] ∧ T b)
    (he : ∀ x (acc : List β) (T : β → Prop), x ∈ xs → (f x).sat T (fun _ => False) → ∀ s H C cl fp, WE (blkX X scope s H C cl fp) B nx0 elt (up (wipeG Γ vs) x) (m ++ [lst acc]) fun y m' => m' = m ++ [lst acc] ∧ T y) : CompOk X B scope vs elt ifs up pr f Γ Po xs m := by
  obtain ⟨hc, h⟩ := chk_sat (R.bind_sat.mp h)
  exact ⟨of_decide_eq_true hc, _, sat_nx h, hP, ht, he⟩
/-- a call's answer, no thing that changes handed on -/
theorem call0 {PX : PXT} {Γ Γa : List Sl} {fs : Fs} {P : Sl → List MC → Prop} {m1 : List MC} (hr : ∀ ρ : Nat → Nat → Prop, Rns ρ Γa Γa) (h : fs.out Γa [] (fun g m2 => ∃ g', Rn (rhoC [] m1.length) g g' ∧ P g' (m1 ++ m2)) fun ex m2 => PX ex Γ (m1 ++ m2)) : CallOk PX Γ fs [] P Γa m1 :=
  ⟨[], [], Γa, List.nodup_nil, trivial, hr _, by
    rw [List.append_nil]
    have e : ∀ m2 : List MC, joinM m1 [] m2 = m1 ++ m2 := fun m2 => by
      unfold joinM
      rw [setAll_nil]
      rfl
    simp only [e, List.length_nil, List.take_zero, List.all_nil, true_and]
    exact h⟩
end G

/-! Core13: what printed walks lean on. -/
namespace G
open PySem PySem.Spec PyProof.Rows L2
open PySem.W (Datum Tup T3)
theorem room128 {k : Nat} {A : Around} (r : Room k A) : A.units + 128 < cLine := by
  have := r.un
  omega
instance {i j : Int} : Decidable (CMul i j) := inferInstanceAs (Decidable ((-(2 ^ 64) < i ∧ i < 2 ^ 64) ∨ (-(2 ^ 64) < j ∧ j < 2 ^ 64)))
instance {i j : Int} : Decidable (CMulW i j) := inferInstanceAs (Decidable (i.natAbs.log2 + j.natAbs.log2 < 1000000))
instance {i j : Int} : Decidable (CDivW i j) := inferInstanceAs (Decidable (0 < j ∧ j.natAbs.log2 < 9000))
instance {i j : Int} : Decidable (CPow i j) := inferInstanceAs (Decidable (0 ≤ j ∧ j ≤ 1000000 ∧ i.natAbs < 2 ^ 64))
section
variable {X : Cx} {B : Bs} {PX : PXT} {Γ : List Sl} {m : List MC} {e a b : Expr} {es : List Expr} {pos p : Pos} {α β γ ξ : Type}
theorem idx_fin {xs : List α} {i : Int} {T : α → Prop} {E E' : Exn → Prop} (h : (idx xs i).sat T E) : (idx xs i).sat (fun x => m = m ∧ T x) E' := by
  obtain ⟨x, e, t⟩ := idx_sat h
  unfold idx
  rw [e]
  exact ⟨rfl, t⟩
theorem idx_finM [DecidableEq α] [Datum α] {xs : List α} {i : Int} {j : Nat} {T : α → Prop} {E E' : Exn → Prop} (hm : m[j]? = some (lst xs)) (h : (idx xs i).sat T E) : ∃ ys : List α, m[j]? = some (lst ys) ∧ (idx ys i).sat (fun x => m = m ∧ T x) E' := ⟨xs, hm, idx_fin h⟩
theorem we_end [Py γ] {PB : γ → List MC → Prop} {r : R γ} {P : γ → Prop} {E : Exn → Prop} (h : r.sat P E) (hw : ∀ T : γ → Prop, r.sat T E → WE X B PX e Γ m fun b m' => m' = m ∧ T b) (hk : ∀ y, P y → PB y m) : WE X B PX e Γ m PB :=
  (hw P h).imp fun b m' ⟨em, hT⟩ => by
    subst em
    exact hk b hT
theorem wt_end {PB : Bool → List MC → Prop} {r : R Bool} {P : Bool → Prop} {E : Exn → Prop} (h : r.sat P E) (hw : ∀ T : Bool → Prop, r.sat T E → WT X B PX e Γ m fun b m' => m' = m ∧ T b) (hk : ∀ y, P y → PB y m) : WT X B PX e Γ m PB :=
  (hw P h).imp fun b m' ⟨em, hT⟩ => by
    subst em
    exact hk b hT
theorem ret_mu {n j : Nat} {P : Sl → List MC → Prop} {m' : List MC} {c : MC} (hj : n ≤ j) (hc : m'[j]? = some c) (h : P (mu n) (m'.take n ++ [c])) (hl : c.live = true := by rfl) : Ret n P (mu j) m' :=
  ⟨[j], [c], mu n, by simp, fun k hk => by
    have e : k = j := by simpa using hk
    rw [e]
    exact hj, ⟨hc, hl, trivial⟩, .mu (.inr ⟨0, rfl, rfl⟩), h⟩
theorem chk_on {c : Bool} {r : R α} {P : α → Prop} {E : Exn → Prop} {A C : Prop} (h : (chk c r).sat P E) (f : c = true → A) (g : r.sat P E → C) : A ∧ C := ⟨f (chk_sat h).1, g (chk_sat h).2⟩
/-! comprehensions -/
theorem comp_fin [Py α] [DecidableEq β] [Datum β] {scope : Scope} {vs : List Nat} {elt : Expr} {ifs : List Expr} {up : List Sl → α → List Sl} {pr : α → R Bool} {f : α → R β} {xs : List α} {T : List β → Prop} {E : Exn → Prop} {n : Nat} (hn : m.length = n)
    (h : (comp pr f xs).sat T E) 
    (ht : ∀ x (acc : List β) (T : Bool → Prop), x ∈ xs → (pr x).sat T (fun _ => False) → ∀ s H C cl fp, WTs (blkX X scope s H C cl fp) B nx0 ifs (up (wipeG Γ vs) x) (m ++ [lst acc]) fun b m' => m' = m ++ [lst acc] ∧ T b)
    (he : ∀ x (acc : List β) (T : β → Prop), x ∈ xs → (f x).sat T (fun _ => False) → ∀ s H C cl fp, WE (blkX X scope s H C cl fp) B nx0 elt (up (wipeG Γ vs) x) (m ++ [lst acc]) fun y m' => m' = m ++ [lst acc] ∧ T y) :
    CompOk X B scope vs elt ifs up pr f Γ (fun g m' => ∃ ys m2, m2.length = n ∧ g = mu n ∧ m' = m2 ++ [lst ys] ∧ m2 = m ∧ T ys) xs m := by
  obtain ⟨hc, h⟩ := chk_sat h
  exact ⟨of_decide_eq_true hc, _, sat_nx h, fun ys t => ⟨ys, m, hn, by rw [hn], rfl, rfl, t⟩, ht, he⟩
/-! calls -/
theorem cp_ok [Py γ] {T : γ → Prop} {y : γ} (h : T y) : ∃ g', Rn (rhoC [] m.length) (im y) g' ∧ ∃ x : γ, g' = im x ∧ (m ++ []).length = m.length ∧ m ++ [] = m ∧ T x :=
  ⟨im y, Rn.im, y, rfl, by rw [List.append_nil], List.append_nil _, h⟩
theorem cp_ex {ex : Exn} (h : PX ex Γ m) : PX ex Γ (m ++ []) := by
  rw [List.append_nil]
  exact h
theorem we_callV [Py γ] {fs : Fs} {k : Nat} {f : Addr} {fd : FuncData} {ps : List Str} {ds : List Value} {dvs : List V} {Γd : List Sl} {x : Str} {T : γ → Prop} (Gf : FnOk X.prog X.w X.K X.mg X.base (L2.CX X.prog X.w) k f fd ps (spF X.K fs)) (hr : Room k X.A)
    (hm : X.mg x = some (.ref f)) (hk : PySem.W.keepIn X.K (.ref f) = true) (hb : Binds X.K fd ps ds) (hd : Vals dvs ds) (hdv : ∀ as F, slotsOk X.K as F Γd dvs)
    (ha : WA X B PX (e :: es) Γ m fun Γa m1 => m1 = m ∧ ∃ Γc, (∀ ρ : Nat → Nat → Prop, Rns ρ Γa Γc) ∧ fs.out (Γc ++ Γd) [] (fun g m2 => ∃ g', Rn (rhoC [] m.length) g g' ∧ ∃ x : γ, g' = im x ∧ (m ++ m2).length = m.length ∧ m ++ m2 = m ∧ T x) fun ex m2 => PX ex Γ (m ++ m2))
    (hg : Gl X x := by rfl) (hdb : (x == ("__debug__" : Str)) = false := by decide) (he : starEach (e :: es) X.env = (false, eval e X.env) :: starEach es X.env := by rfl) (hpl : (backTo pos (starEach es X.env)).any (·.1) = false := by rfl) :
    WE X B PX (.Call (.Name x p) (e :: es) [] pos) Γ m fun y m' => m' = m ∧ T y :=
  WG.typed (wg_call (P := fun g m' => ∃ x, g = im x ∧ m'.length = m.length ∧ m' = m ∧ T x) Gf hr hm hk hb hd hdv (fun as σ F H Q d hx k => ha as σ F H Q d hx fun Γa m' bs vs N H2 e' d' r ⟨em, Γc, hR, ho⟩ => k Γa m' bs vs N H2 e' d' r (by
    subst em
    refine ⟨[], [], Γc, List.nodup_nil, trivial, hR _, ?_⟩
    have ej : ∀ m2 : List MC, joinM m' [] m2 = m' ++ m2 := fun m2 => by
      unfold joinM
      rw [setAll_nil]
      rfl
    simp only [ej, List.length_nil, List.take_zero, List.all_nil, true_and]
    exact ho)) hg hdb he hpl)
/-! loops -/
/-- behind a loop -/
def _root_.G.R.fl {S ρ β : Type} (r : R (Fl S ρ)) (k : S → R β) (q : ρ → R β) : R β := r.bind fun fl => match fl with
  | .nx s => k s
  | .bk s => k s
  | .rt y => q y
theorem for_on [Py α] {S ρ : Type} {body : List Stmt} {D : De} {up : List Sl → α → List Sl} {f : S → α → R (Fl S ρ)} {γ : S → List Sl} {μ : S → List MC} {Rr : ρ → Sl → List MC → Prop} {xs : List α} {s0 : S} {k : S → R ξ} {q : ρ → R ξ} {P : ξ → Prop} {E : Exn → Prop}
    (h : (R.fl (forR f xs s0) k q).sat P E) (hμ : ∀ s, (μ s).length = m.length) (w0 : Wk Γ m (γ s0) (μ s0))
    (step : ∀ s x (T : Fl S ρ → Prop), x ∈ xs → (f s x).sat T E → WSs X B PX body (up (γ s) x) (μ s) { nx := fun Γ' m' => ∃ s', T (.nx s') ∧ Wk Γ' m' (γ s') (μ s'), rt := fun g m' => ∃ r, T (.rt r) ∧ Rr r g m', bk := fun Γ' m' => ∃ s', T (.bk s') ∧ Wk Γ' m' (γ s') (μ s'), ct := fun Γ' m' => ∃ s', T (.nx s') ∧ Wk Γ' m' (γ s') (μ s') })
    (fin : ∀ s, (k s).sat P E → D.nx (γ s) (μ s)) (ret : ∀ y g m', (q y).sat P E → Rr y g m' → D.rt g m') : ForOk X B PX body D up f γ μ Rr xs Γ m :=
  ⟨s0, m.length, _, E, rfl, hμ, w0, R.bind_sat.mp h, step, fun s t => fin s t, fun y g m' t => ret y g m' t⟩
theorem while_on {S ρ : Type} {test : Expr} {body : List Stmt} {D : De} {c : S → R Bool} {f : S → R (Fl S ρ)} {γ : S → List Sl} {μ : S → List MC} {Rr : ρ → Sl → List MC → Prop} {s0 : S} {k0 : Nat} {k : S → R ξ} {q : ρ → R ξ} {P : ξ → Prop} {E : Exn → Prop} (hp : PassesOwn (model X.prog X.w) X.A X.env X.xe)
    (h : (R.fl (whileR c f k0 s0) k q).sat P E) (hμ : ∀ s, (μ s).length = m.length) (w0 : Wk Γ m (γ s0) (μ s0))
    (ht : ∀ s (T : Bool → Prop), (c s).sat T E → WT X B PX test (γ s) (μ s) fun b m' => m' = μ s ∧ T b)
    (step : ∀ s (T : Fl S ρ → Prop), (f s).sat T E → WSs X B PX body (γ s) (μ s) { nx := fun Γ' m' => ∃ s', T (.nx s') ∧ Wk Γ' m' (γ s') (μ s'), rt := fun g m' => ∃ r, T (.rt r) ∧ Rr r g m', bk := fun Γ' m' => ∃ s', T (.bk s') ∧ Wk Γ' m' (γ s') (μ s'), ct := fun Γ' m' => ∃ s', T (.nx s') ∧ Wk Γ' m' (γ s') (μ s') })
    (fin : ∀ s, (k s).sat P E → D.nx (γ s) (μ s)) (ret : ∀ y g m', (q y).sat P E → Rr y g m' → D.rt g m') : WS X B PX (.While test body [] pos) Γ m D :=
  ws_while c f γ μ Rr s0 m.length k0 _ E hp rfl hμ w0 (R.bind_sat.mp h) ht step (fun s t => fin s t) fun y g m' t => ret y g m' t
end
end G

/-! Core14: ranges by their mirrors; joins; sources that are handed on. -/
namespace G
open PySem PySem.Spec PyProof.Rows L2
open PySem.W (Datum Tup T3)
def eqB {α : Type} [DecidableEq α] (x y : α) : Bool := decide (x = y)
def neB {α : Type} [DecidableEq α] (x y : α) : Bool := decide (x ≠ y)
def memb {α : Type} [DecidableEq α] (x : α) (xs : List α) : Bool := decide (x ∈ xs)
theorem memb_cell {c : Cell} {ks : List Cell} : memb c ks = decide (c ∈ ks) := by
  unfold memb
  congr
def nmemb {α : Type} [DecidableEq α] (x : α) (xs : List α) : Bool := decide (x ∉ xs)
theorem chk_next {α : Type} {c : Bool} {r : R α} {P : α → Prop} {E : Exn → Prop} {A : Prop} (h : (chk c r).sat P E) (f : c = true → r.sat P E → A) : A := f (chk_sat h).1 (chk_sat h).2
def rg1 (j : Int) : Bool := decide (-(2 ^ 62) ≤ j ∧ j < 2 ^ 62)
theorem rg1_ok {j : Int} (h : rg1 j = true) : -(2 ^ 62) ≤ j ∧ j < 2 ^ 62 := of_decide_eq_true h
def rg2 (i j : Int) : Bool := decide (-(2 ^ 62) ≤ i ∧ i < 2 ^ 62 ∧ -(2 ^ 62) ≤ j ∧ j < 2 ^ 62)
theorem rg2_ok {i j : Int} (h : rg2 i j = true) : -(2 ^ 62) ≤ i ∧ i < 2 ^ 62 ∧ -(2 ^ 62) ≤ j ∧ j < 2 ^ 62 := of_decide_eq_true h
section
variable {X : Cx} {B : Bs} {PX : PXT} {Γ : List Sl} {m : List MC} {e a b : Expr} {es : List Expr} {pos p : Pos} {α β γ ξ : Type} {st : Stmt} {x : Str} {i : Nat}
/-- a list that changes no more -/
theorem we_take [Py α] {j : Nat} {y : α} {c : MC} {P : α → List MC → Prop} (hN : X.N[i]? = some x) (hg : Γ[i]? = some (mu j)) (hm : m[j]? = some c) (hz : Fz c (im y)) (h : P y (m.set j gone)) (hl : c.live = true := by rfl)
    (hv : Vis X.env.scope x := by first | exact Or.inl rfl | exact Or.inr (Or.inl rfl) | exact Or.inr (Or.inr rfl)) (hd : (x == ("__debug__" : Str)) = false := by decide) (hcd : (x == ("__classdict__" : Str)) = false := by decide) : WE X B PX (.Name x pos) Γ m P := fun as σ F H Q d hx k => by
  obtain ⟨o, ho, a, ha, rfl⟩ := d.sl.get hg
  obtain ⟨u, hs, r, ok⟩ := d.ok.freeze ha hm hl
  refine tEv_of (pe_var hN hv hd hcd) ⟨_, ho, k y _ _ _ H hs ⟨d.sl.up hs, ok⟩ ?_ h⟩
  obtain ⟨w, ew, rw'⟩ := hz _ as _ a u (c.up hs r) upd_same
  cases ew
  exact rw'
theorem ws_join {S : Type} {D : De} (γ : S → List Sl) (μ : S → List MC) (hμ : ∀ s, (μ s).length = m.length) {r : R S} {k : S → R ξ} {P : ξ → Prop} {E : Exn → Prop} (h : (r.bind k).sat P E)
    (hw : ∀ T : S → Prop, r.sat T E → WS X B PX st Γ m { D with nx := fun Γ' m' => ∃ s, T s ∧ Wk Γ' m' (γ s) (μ s) }) (hk : ∀ s, (k s).sat P E → D.nx (γ s) (μ s)) : WS X B PX st Γ m D := fun as σ F H E' d hx kk =>
  hw _ (R.bind_sat.mp h) as σ F H E' d hx ⟨fun Γ' m' bs σ' N H' e' d' ⟨s, t, w⟩ => kk.nx (γ s) (μ s) [] σ' N H' e' (des0 (w.ok (by rw [hμ, d.ok.len]) d')) (hk s t), kk.rt, kk.bk, kk.ct⟩
theorem wg_slot {g : Sl} {P : Sl → List MC → Prop} (hN : X.N[i]? = some x) (hg : Γ[i]? = some g) (hs : ∀ K as F o, g.ok K as F o → ∃ v, o = some v) (h : P g m)
    (hv : Vis X.env.scope x := by first | exact Or.inl rfl | exact Or.inr (Or.inl rfl) | exact Or.inr (Or.inr rfl)) (hd : (x == ("__debug__" : Str)) = false := by decide) (hcd : (x == ("__classdict__" : Str)) = false := by decide) : WG X B PX (.Name x pos) Γ m P := fun as σ F H Q d hx k => by
  obtain ⟨o, ho, r⟩ := d.sl.get hg
  obtain ⟨v, rfl⟩ := hs _ _ _ _ r
  exact tEv_of (pe_var hN hv hd hcd) ⟨v, ho, k g m [] v F H (Same.refl F) (des0 d) (g.upA [] r) h⟩
theorem walks_sqL [DecidableEq α] [Datum α] {K : PySem.W.Frag} {l : Addr} {xs : List α} {vs : List V} {F : Hp} (hl : SqL K F l vs) (r : Reps K F xs vs) : WalksX α K B (Itl K l) xs F := fun i H s => by
  have q : SqL K H l vs := sqL_up s hl
  refine ⟨fun hi => ?_, fun hi => ⟨vs, q, by rw [r.length]; exact hi⟩, fun x hx v H' y Γ m as σ N e d => ?_⟩
  · have hi' : i < vs.length := by rw [r.length]; exact hi
    exact ⟨vs, vs[i], q, List.getElem?_eq_getElem hi'⟩
  · obtain ⟨e1, y⟩ := y
    subst e1
    obtain ⟨w, hw, rw'⟩ := r.get hx
    have e2 := y vs q
    rw [hw] at e2
    cases e2
    exact ⟨N, Same.refl N, d, Py.up e rw'⟩
theorem wi_sq [DecidableEq α] [Datum α] {tg : Expr} {P : List α → List MC → Prop} {xs : List α} (hN : X.N[i]? = some x) (hg : Γ[i]? = some (sq xs)) (h : P xs m)
    (hv : Vis X.env.scope x := by first | exact Or.inl rfl | exact Or.inr (Or.inl rfl) | exact Or.inr (Or.inr rfl)) (hd : (x == ("__debug__" : Str)) = false := by decide) (hcd : (x == ("__classdict__" : Str)) = false := by decide) : WI X B PX tg (.Name x pos) Γ m P := by
  refine ⟨fun σ H R => iList X.K (tVar i) σ H R ∨ iTup X.K (tVar i) σ H R, ⟨fun pins s σ H R I h => h.elim (fun h => (pi_list (tg := tg) (pe_var hN hv hd hcd)).run pins s σ H R I h) fun h => (pi_tup (tg := tg) (pe_var hN hv hd hcd)).run pins s σ H R I h⟩, fun as σ F H Q d hx k => ?_⟩
  obtain ⟨o, ho, ad, vs, rfl, hS, r⟩ := d.sl.get hg
  rcases hS with hS | hS
  · exact .inl ⟨_, ho, ad, rfl, ⟨vs, sqL_up d.ok.sub hS⟩, k xs m _ F H (Same.refl F) d (walks_sqL hS r) h⟩
  · exact .inr ⟨_, ho, ad, rfl, ⟨vs, sqT_up d.ok.sub hS⟩, k xs m _ F H (Same.refl F) d (walks_tup hS r) h⟩
end
/-- name = [..] by its mirror -/
theorem ws_setLcB {α β ξ : Type} [Py α] [DecidableEq β] [Datum β] {X : Cx} {B : Bs} {PX : PXT} {Γ : List Sl} {m : List MC} {D : De} {i : Nat} {y : Str} {pos py spos : Pos} {elt tg iter : Expr} {ifs : List Expr} {scope : Scope} {own : List (Str × Nat)} {up : List Sl → α → List Sl} (pr : α → R Bool) (f : α → R β)
    {r : R (List β)} {k : List β → R ξ} {P : ξ → Prop} {E : Exn → Prop} (h : (r.bind k).sat P E) (hc : X.calm = true) (hN : X.N.Nodup) (ok : BlkOk X.N X.env.scope scope own) (hy : X.N[i]? = some y)
    (ht : TGU X scope (own.map (·.2)) tg up) (hw : ∀ T : List β → Prop, r.sat T E → WI X B PX tg iter Γ m fun xs m1 => CompOk X B scope (own.map (·.2)) elt ifs up pr f Γ (fun g m' => ∃ ys m2, m2.length = m.length ∧ g = mu m.length ∧ m' = m2 ++ [lst ys] ∧ m2 = m ∧ T ys) xs m1)
    (hn : ∀ ys, (k ys).sat P E → D.nx (Γ.set i (im ys)) m)
    (hk : X.env.scope.kind = .function := by rfl) (hyl : X.env.scope.names.lookup y = some .local := by rfl) (hl : (py.line == pos.line) = true := by rfl) (ha : (scope.names.any fun (n, k) => n == y && (k == .local || k == .cell)) = false := by rfl)
    (hs : ∀ x, foldedSetIterable iter X.env x = pure x := by intro _; rfl) : WS X B PX (.Assign [.Name y py] (.ListComp elt [⟨tg, iter, ifs, 0⟩] scope pos) spos) Γ m D := by
  obtain ⟨wi, p1, q1⟩ := hw _ (R.bind_sat.mp h)
  refine ws_setLcV (pr := pr) (f := f) hc hN ok hy ht ⟨wi, p1, fun as σ F H Q d hx kk => q1 as σ F H Q d hx fun xs m1 J N H2 s d2 wk c => kk xs m1 J N H2 s d2 wk ?_⟩ hk hyl hl ha hs
  obtain ⟨sz, Qf, h1, h2, h3, h4⟩ := c
  refine ⟨sz, Qf, h1, fun ys hq => ?_, h3, h4⟩
  obtain ⟨zs, m2, e1, e2, e3, e4, t⟩ := h2 ys hq
  exact ⟨lst zs, zs, m2, e2, e3, e1, rfl, fz_lst, by
    subst e4
    exact hn zs t⟩
/-! ### comparisons, as values and as tests -/
def tPC (X : Cx) (op : CmpOp) (a b : Expr) : TE := fun σ H Q => ∀ pins s, Inv X pins σ H s →
  wpAny (model X.prog X.w) X.A (eval a X.env) (fun v s1 => wpAny (model X.prog X.w) X.A (eval b X.env) (fun u s2 => wpAny (model X.prog X.w) X.A (compareOp op v u) (EP X pins σ Q) X.xe s2) X.xe s1) X.xe s
section
variable {X : Cx} {B : Bs} {PX : PXT} {Γ : List Sl} {m : List MC} {a b : Expr} {pos p : Pos} {α β : Type} {op : CmpOp} {PB : Bool → List MC → Prop}
theorem pcS : PC X op a b (tPC X op a b) := ⟨fun pins s σ H Q I h => h pins s I⟩
theorem tPC_of {t : TE} (h : PC X op a b t) {σ : L2.St} {H : Hp} {Q : VK} (q : t σ H Q) : tPC X op a b σ H Q := fun pins s I => h.run pins s σ H Q I q
theorem pc_R {r : R2} {ta tb : TE} (ho : OpR X (compareOp op) r) (ha : PE X a ta) (hb : PE X b tb) : PC X op a b (tOp r ta tb) := ⟨fun pins s σ H Q I h => thn (ha.run pins s σ H _ I h) fun v s1 ⟨x, H1, I1, r1, q1⟩ =>
  thn (hb.run pins s1 σ H1 _ I1 q1) fun u s2 ⟨y, H2, I2, r2, q2⟩ => ho pins s2 σ H2 x y v u Q I2 r1 r2 q2⟩
def WC (X : Cx) (B : Bs) (PX : PXT) (op : CmpOp) (a b : Expr) (Γ : List Sl) (m : List MC) (P : Bool → List MC → Prop) : Prop :=
  ∀ as σ F H (Q : VK), Des X.K B Γ m as σ F H → Xs X B PX as F → (∀ (x : Bool) m' v N H2, Same F N → Des X.K B Γ m' as σ N H2 → Py.rep X.K x v N → P x m' → Q v H2) → tPC X op a b σ H Q
theorem we_wc (h : WC X B PX op a b Γ m PB) (hb : behindInMarks op b = false := by rfl) : WE X B PX (.Compare a [op] [b] pos) Γ m PB := fun as σ F H Q d hx k => tEv_of (pe_cmp pcS hb) (h as σ F H Q d hx k)
theorem wt_wc (h : WC X B PX op a b Γ m PB) (hb : behindInMarks op b = false := by rfl) : WT X B PX (.Compare a [op] [b] pos) Γ m PB := fun as σ F H Q d hx k => tTs_of (pt_cmp pcS hb) (h as σ F H _ d hx fun x m' v N H2 e' d' r p => ⟨x, rep_bool.mp r, k x m' N H2 e' d' p⟩)
theorem wc_op [Py α] [Py β] {r : R2} (ho : OpR X (compareOp op) r) (h : WE X B PX a Γ m fun (x : α) m1 => WE X B PX b Γ m1 fun (y : β) m2 => RV2 X B r x y fun (z : Bool) => PB z m2) : WC X B PX op a b Γ m PB := fun as σ F H Q d hx k =>
  tPC_of (pc_R ho peS peS) (h as σ F H _ d hx fun x m1 v N H1 e1 d1 r1 p1 => p1 as σ N H1 _ d1 (hx.up e1) fun y m2 w N2 H2 e2 d2 r2 p2 =>
    p2 Γ m2 as σ N2 H2 v w Q d2 (Py.up e2 r1) r2 fun z u N3 H3 e3 d3 r3 p3 => k z m2 u N3 H3 ((e1.trans e2).trans e3) d3 r3 p3)
theorem wc_lt (h : WE X B PX a Γ m fun (i : Int) m1 => WE X B PX b Γ m1 fun (j : Int) m2 => PB (decide (i < j)) m2) : WC X B PX .Lt a b Γ m PB := wc_op op_lt (h.imp fun _ _ h => h.imp fun _ _ h => rv_B0 (g := fun i j => decide (i < j)) h)
theorem wc_le (h : WE X B PX a Γ m fun (i : Int) m1 => WE X B PX b Γ m1 fun (j : Int) m2 => PB (decide (i ≤ j)) m2) : WC X B PX .LtE a b Γ m PB := wc_op op_le (h.imp fun _ _ h => h.imp fun _ _ h => rv_B0 (g := fun i j => decide (i ≤ j)) h)
theorem wc_gt (h : WE X B PX a Γ m fun (i : Int) m1 => WE X B PX b Γ m1 fun (j : Int) m2 => PB (decide (j < i)) m2) : WC X B PX .Gt a b Γ m PB := wc_op op_gt (h.imp fun _ _ h => h.imp fun _ _ h => rv_B0 (g := fun i j => decide (j < i)) h)
theorem wc_ge (h : WE X B PX a Γ m fun (i : Int) m1 => WE X B PX b Γ m1 fun (j : Int) m2 => PB (decide (j ≤ i)) m2) : WC X B PX .GtE a b Γ m PB := wc_op op_ge (h.imp fun _ _ h => h.imp fun _ _ h => rv_B0 (g := fun i j => decide (j ≤ i)) h)
theorem wc_eq (α : Type) [DecidableEq α] [Datum α] (hu : X.A.units + 64 < cLine) (h : WE X B PX a Γ m fun (i : α) m1 => WE X B PX b Γ m1 fun (j : α) m2 => PB (eqB i j) m2) (hz : Datum.depth α ≤ 64 := by decide) : WC X B PX .Eq a b Γ m PB :=
  wc_op (op_eqY hu) (h.imp fun _ _ h => h.imp fun _ _ h => rv_eqY hz h)
theorem wc_ne (α : Type) [DecidableEq α] [Datum α] (hu : X.A.units + 64 < cLine) (h : WE X B PX a Γ m fun (i : α) m1 => WE X B PX b Γ m1 fun (j : α) m2 => PB (neB i j) m2) (hz : Datum.depth α ≤ 64 := by decide) : WC X B PX .NotEq a b Γ m PB :=
  wc_op (op_neY hu) (h.imp fun _ _ h => h.imp fun _ _ h => rv_neY hz h)
theorem wc_eqD (hu : X.A.units + 64 < cLine) (h : WE X B PX a Γ m fun (d : PyData) m1 => WE X B PX b Γ m1 fun (e : PyData) m2 => d.plain = true ∧ e.plain = true ∧ d.depth ≤ 64 ∧ PB (PyData.eqv d e) m2) : WC X B PX .Eq a b Γ m PB :=
  wc_op (op_eqY hu) (h.imp fun _ _ h => h.imp fun _ _ ⟨h1, h2, h3, h⟩ => rv_eqD h1 h2 h3 h)
theorem wc_neD (hu : X.A.units + 64 < cLine) (h : WE X B PX a Γ m fun (d : PyData) m1 => WE X B PX b Γ m1 fun (e : PyData) m2 => d.plain = true ∧ e.plain = true ∧ d.depth ≤ 64 ∧ PB (!PyData.eqv d e) m2) : WC X B PX .NotEq a b Γ m PB :=
  wc_op (op_neY hu) (h.imp fun _ _ h => h.imp fun _ _ ⟨h1, h2, h3, h⟩ => rv_neD h1 h2 h3 h)
theorem wc_eqT (α β : Type) [DecidableEq α] [Datum α] [DecidableEq β] [Datum β] (hu : X.A.units + 64 < cLine) (h : WE X B PX a Γ m fun (d : α) m1 => WE X B PX b Γ m1 fun (e : β) m2 => PB (PyData.eqv (Datum.toD d) (Datum.toD e)) m2) (hz : Datum.depth α ≤ 64 := by decide) : WC X B PX .Eq a b Γ m PB :=
  wc_eqD hu (WE.dyn (h.imp fun d _ h => WE.dyn (h.imp fun e _ h => ⟨Datum.plain d, Datum.plain e, Nat.le_trans (Datum.depth_le d) hz, h⟩)))
theorem wc_neT (α β : Type) [DecidableEq α] [Datum α] [DecidableEq β] [Datum β] (hu : X.A.units + 64 < cLine) (h : WE X B PX a Γ m fun (d : α) m1 => WE X B PX b Γ m1 fun (e : β) m2 => PB (!PyData.eqv (Datum.toD d) (Datum.toD e)) m2) (hz : Datum.depth α ≤ 64 := by decide) : WC X B PX .NotEq a b Γ m PB :=
  wc_neD hu (WE.dyn (h.imp fun d _ h => WE.dyn (h.imp fun e _ h => ⟨Datum.plain d, Datum.plain e, Nat.le_trans (Datum.depth_le d) hz, h⟩)))
theorem wc_inQ [DecidableEq α] [Datum α] (hu : X.A.units + 128 < cLine) (h : WE X B PX a Γ m fun (y : α) m1 => WSrc SeqQ X B PX b Γ m1 fun xs m2 => PB (memb y xs) m2) (hz : Datum.depth α ≤ 64 := by decide) : WC X B PX .In a b Γ m PB := fun as σ F H Q d hx k =>
  tPC_of (pc_R (op_inX (α := α) hu hz) peS peS) (h as σ F H _ d hx fun y m1 v N H1 e1 d1 r1 p1 => p1 as σ N H1 _ d1 (hx.up e1) fun xs m2 ad vs N2 H2 e2 d2 hS hr pp =>
    ⟨ad, vs, xs, y, rfl, seqQ_H d2.ok.sub hS, hr.up d2.ok.sub, Py.up (e2.trans d2.ok.sub) r1, k _ m2 _ N2 H2 (e1.trans e2) d2 (rep_bool.mpr rfl) pp⟩)
theorem wc_notinQ [DecidableEq α] [Datum α] (hu : X.A.units + 128 < cLine) (h : WE X B PX a Γ m fun (y : α) m1 => WSrc SeqQ X B PX b Γ m1 fun xs m2 => PB (nmemb y xs) m2) (hz : Datum.depth α ≤ 64 := by decide) : WC X B PX .NotIn a b Γ m PB := fun as σ F H Q d hx k =>
  tPC_of (pc_R (op_notinX (α := α) hu hz) peS peS) (h as σ F H _ d hx fun y m1 v N H1 e1 d1 r1 p1 => p1 as σ N H1 _ d1 (hx.up e1) fun xs m2 ad vs N2 H2 e2 d2 hS hr pp =>
    ⟨ad, vs, xs, y, rfl, seqQ_H d2.ok.sub hS, hr.up d2.ok.sub, Py.up (e2.trans d2.ok.sub) r1, k _ m2 _ N2 H2 (e1.trans e2) d2 (rep_bool.mpr rfl) pp⟩)
theorem wc_inC {x : Str} {i j : Nat} (hu : X.A.units + 64 < cLine) (hN : X.N[i]? = some x) (hg : Γ[i]? = some (mu j)) (h : WE X B PX a Γ m fun (c : Cell) m1 => ∃ ks, m1[j]? = some (kd ks) ∧ PB (memb c ks) m1)
    (hv : Vis X.env.scope x := by first | exact Or.inl rfl | exact Or.inr (Or.inl rfl) | exact Or.inr (Or.inr rfl)) (hd : (x == ("__debug__" : Str)) = false := by decide) (hcd : (x == ("__classdict__" : Str)) = false := by decide) : WC X B PX .In a (.Name x p) Γ m PB := fun as σ F H Q d hx k =>
  tPC_of (pc_R (op_inC hu) peS (pe_var hN hv hd hcd)) (h as σ F H _ d hx fun c m1 v N H1 e1 d1 r1 ⟨ks, hm, pp⟩ => by
    rw [memb_cell] at pp
    obtain ⟨o, ho, ad, ha, rfl⟩ := d1.sl.get hg
    obtain ⟨xs, rfl, hD, _⟩ := dAt_of d1.ok ha hm
    obtain ⟨t, rfl, ht⟩ := rep_cell.mp (Py.up d1.ok.sub r1)
    exact ⟨.ref ad, ho, ad, t, xs, c, rfl, rfl, hD, ht, k _ m1 _ N H1 e1 d1 (rep_bool.mpr rfl) pp⟩)
theorem wc_notinC {x : Str} {i j : Nat} (hu : X.A.units + 64 < cLine) (hN : X.N[i]? = some x) (hg : Γ[i]? = some (mu j)) (h : WE X B PX a Γ m fun (c : Cell) m1 => ∃ ks, m1[j]? = some (kd ks) ∧ PB (!memb c ks) m1)
    (hv : Vis X.env.scope x := by first | exact Or.inl rfl | exact Or.inr (Or.inl rfl) | exact Or.inr (Or.inr rfl)) (hd : (x == ("__debug__" : Str)) = false := by decide) (hcd : (x == ("__classdict__" : Str)) = false := by decide) : WC X B PX .NotIn a (.Name x p) Γ m PB := fun as σ F H Q d hx k =>
  tPC_of (pc_R (op_notinC hu) peS (pe_var hN hv hd hcd)) (h as σ F H _ d hx fun c m1 v N H1 e1 d1 r1 ⟨ks, hm, pp⟩ => by
    rw [memb_cell] at pp
    obtain ⟨o, ho, ad, ha, rfl⟩ := d1.sl.get hg
    obtain ⟨xs, rfl, hD, _⟩ := dAt_of d1.ok ha hm
    obtain ⟨t, rfl, ht⟩ := rep_cell.mp (Py.up d1.ok.sub r1)
    exact ⟨.ref ad, ho, ad, t, xs, c, rfl, rfl, hD, ht, k _ m1 _ N H1 e1 d1 (rep_bool.mpr rfl) pp⟩)
end
end G

/-! Core15: new things within tuples, frozen; promises by cases. -/
namespace G
open PySem PySem.Spec PyProof.Rows L2
open PySem.W (Datum Tup T3)
section
variable {X : Cx} {B : Bs} {PX : PXT} {Γ : List Sl} {m : List MC} {e : Expr} {α : Type}
/-- how a slot reads once the j-th thing is frozen -/
def FzS (j : Nat) (c : MC) (g g' : Sl) : Prop := ∀ K as F a u o, as[j]? = some a → c.ok K a F u → F a = some u → g.ok K as F o → g'.ok K as F o
theorem frz_k2 [Py α] {P : α → List MC → Prop} {as : List Addr} {σ : L2.St} {F H : Hp} {Q : VK} (d : Des X.K B Γ m as σ F H)
    (k : ∀ x m' v N H2, Same F N → Des X.K B Γ m' as σ N H2 → Py.rep X.K x v N → P x m' → Q v H2) :
    ∀ g m' bs v N H2, Same F N → Des X.K B Γ m' (as ++ bs) σ N H2 → g.ok X.K (as ++ bs) N (some v) → (∃ c x m1, m' = m1 ++ [c] ∧ m1.length = m.length ∧ c.live = true ∧ FzS m.length c g (im x) ∧ P x m1) → Q v H2 :=
  fun g m' bs v N H2 e' d' r ⟨c, x, m1, em, hl, lv, hz, p⟩ => by
    subst em
    have hc : (m1 ++ [c])[m.length]? = some c := by rw [List.getElem?_append_right (by omega), hl, Nat.sub_self]; rfl
    have hlt : m.length < (as ++ bs).length := by
      rw [d'.ok.len, List.length_append, hl]
      exact Nat.lt_succ_self _
    have ha : (as ++ bs)[m.length]? = some (as ++ bs)[m.length] := List.getElem?_eq_getElem hlt
    obtain ⟨u, hs, ru, ok⟩ := d'.ok.freeze ha hc lv
    obtain ⟨w, ew, rw'⟩ := hz X.K (as ++ bs) (upd N (as ++ bs)[m.length] u) _ u (some v) ha (c.up hs ru) upd_same (g.up hs r)
    cases ew
    have ok2 : Ok X.K B as m1 (upd N (as ++ bs)[m.length] u) H2 := by
      have nda := (List.nodup_append.mp ok.nod).1
      refine ⟨ok.keep, ok.stay, ok.sub0, ok.sub, ok.fresh, by rw [d.ok.len, hl], nda, fun b hb => ok.org b (List.mem_append_left _ hb), fun k b c2 e1 e2 l => ?_, fun b hb => ok.old b (List.mem_append_left _ hb), ok.lent⟩
      refine ok.chg k b c2 (get_app bs e1) ?_ l
      have hk : k < m1.length := (List.getElem?_eq_some_iff.mp e2).1
      rw [← hl, List.set_append_right _ _ (Nat.le_refl _), List.getElem?_append_left hk]
      exact e2
    exact k x m1 v _ H2 (e'.trans hs) ⟨d.sl.up (e'.trans hs), ok2⟩ rw' p
/-- a value that is new; what changes within it is frozen at once -/
theorem WG.frzS [Py α] {P : α → List MC → Prop} (h : WG X B PX e Γ m fun g m' => (∃ x, Rn (fun _ _ => False) g (im x) ∧ m'.length = m.length ∧ P x m') ∨ ∃ c x m1, m' = m1 ++ [c] ∧ m1.length = m.length ∧ c.live = true ∧ FzS m.length c g (im x) ∧ P x m1) : WE X B PX e Γ m P := fun as σ F H Q d hx k =>
  h as σ F H Q d hx fun g m' bs v N H2 e' d' r h => by
    rcases h with ⟨x, hr, hl, p⟩ | h
    · have hb : bs = [] := by
        have h1 := d'.ok.len
        have h2 := d.ok.len
        rw [List.length_append] at h1
        exact List.eq_nil_of_length_eq_zero (by omega)
      subst hb
      rw [List.append_nil] at d' r
      obtain ⟨w, ew, rw'⟩ := Rn.ok (as' := as) (fun _ _ _ h => h.elim) hr r
      cases ew
      exact k x m' v N H2 e' d' rw' p
    · exact frz_k2 d k g m' bs v N H2 e' d' r h
theorem idx0 {α : Type} {x : α} {xs : List α} {P : α → Prop} {E : Exn → Prop} (h : P x) : (idx (x :: xs) 0).sat P E := by
  unfold idx atI ixN
  simp
  exact h
end
end G

/-! Core16: from the walk to the claim. -/
namespace G
open PySem PySem.Spec PyProof.Rows L2
open PySem.W (Datum Tup T3)
/-- no exception leaves: a promise of the plain kind -/
theorem fn_cx0 {P : Program} {w : World} {K : PySem.W.Frag} {mg : Str → Option Value} {base : Heap} {k : Nat} {f : Addr} {fd : FuncData} {ps : List Str} {sp : Sp} (F : FnOk P w K mg base (L2.CX P w) k f fd ps sp) :
    FnOk P w K mg base CX0 k f fd ps fun vs H Q _ => sp vs H Q fun _ _ _ => False :=
  ⟨fun vs H Q E h => F.len _ _ _ _ h, fun A outer s H args us vs Q E hr e0 hb hv h => codeAny_mono (F.run A outer s H args us vs Q (fun _ _ _ => False) hr e0 hb hv h) fun r s' hq => by
    cases r with
    | error e =>
      obtain ⟨_, _, _, _, _, _, _, _, _, _, _, _, hE⟩ := hq
      exact hE.elim
    | ok fl => cases fl <;> exact hq⟩
theorem reps_ints {K : PySem.W.Frag} {F : Hp} : ∀ ns : List Int, Reps K F ns (ns.map V.int)
  | [] => Reps.nil
  | n :: ns => Reps.cons (rep_int.mpr rfl) (reps_ints ns)
theorem ok_nil {K : PySem.W.Frag} {H : Hp} : Ok K (bs0 H H []) [] [] H H :=
  ⟨fun _ _ e _ => e, fun _ e => e, Same.refl H, Same.refl H, fun b n z => absurd z n, rfl, List.nodup_nil, (fun _ h => nomatch h), (fun j a c e => by simp at e), (fun _ h => nomatch h), (fun _ h => nomatch h)⟩
/-- the law's own promise at a script -/
theorem law_sp {K : PySem.W.Frag} {H : Hp} {a : Addr} {ns : List Int} {fs : Fs} (hS : SqL K H a (ns.map V.int)) (h : fs.out [sqL ns] [] (fun g m' => g = im true) fun _ _ => False) : spF K fs [.ref a] H (fun v _ => v = .bl true) fun _ _ _ => False :=
  ⟨[sqL ns], [], [], H, _, _, ok_nil, ⟨⟨a, _, rfl, hS, reps_ints ns⟩, trivial⟩, h, fun g m' bs v N H2 _ r e => by
    subst e
    exact rep_bool.mp (im_ok r), fun ex m' bs cls d N H2 _ _ h => h⟩
end G

/-! the text of law_k72_why_a_cell_is_loose: its defs, by places (printed by gentext.py) -/
namespace T72
open PySem PySem.Spec PyProof.Rows L2 G
def topS (i : Nat) : Stmt := PySem.Challenge.pw_edgemoss_k72_why_a_cell_is_loose.main.body.getD i (.Pass ⟨0, 0, 0, 0⟩)
abbrev s_flooded : Stmt := topS 6
abbrev N_flooded : List Str := ["some", "start", "steps", "found", "at", "step", "near"]
theorem sc_flooded : FnScope N_flooded ["some", "start", "steps"] (defScope s_flooded) := ⟨rfl, rfl, rfl, by decide +kernel, rfl, by decide +kernel, by decide +kernel⟩
abbrev s_noted : Stmt := topS 7
abbrev N_noted : List Str := ["cells", "some", "cell"]
theorem sc_noted : FnScope N_noted ["cells"] (defScope s_noted) := ⟨rfl, rfl, rfl, by decide +kernel, rfl, by decide +kernel, by decide +kernel⟩
abbrev s_near_cells : Stmt := topS 9
abbrev N_near_cells : List Str := ["cell", "steps", "step"]
theorem sc_near_cells : FnScope N_near_cells ["cell", "steps"] (defScope s_near_cells) := ⟨rfl, rfl, rfl, by decide +kernel, rfl, by decide +kernel, by decide +kernel⟩
abbrev s_why_around : Stmt := topS 10
abbrev N_why_around : List Str := ["some", "rest", "cell", "inside", "lacking", "chain", "near"]
theorem sc_why_around : FnScope N_why_around ["some", "rest", "cell"] (defScope s_why_around) := ⟨rfl, rfl, rfl, by decide +kernel, rfl, by decide +kernel, by decide +kernel⟩
abbrev s_why_loose : Stmt := topS 11
abbrev N_why_loose : List Str := ["shape", "cell", "some"]
theorem sc_why_loose : FnScope N_why_loose ["shape", "cell"] (defScope s_why_loose) := ⟨rfl, rfl, rfl, by decide +kernel, rfl, by decide +kernel, by decide +kernel⟩
abbrev s__law_cell : Stmt := topS 13
abbrev N__law_cell : List Str := ["script", "k"]
theorem sc__law_cell : FnScope N__law_cell ["script", "k"] (defScope s__law_cell) := ⟨rfl, rfl, rfl, by decide +kernel, rfl, by decide +kernel, by decide +kernel⟩
abbrev s__law_deal : Stmt := topS 14
abbrev N__law_deal : List Str := ["cell", "salt", "one", "number", "j"]
theorem sc__law_deal : FnScope N__law_deal ["cell", "salt"] (defScope s__law_deal) := ⟨rfl, rfl, rfl, by decide +kernel, rfl, by decide +kernel, by decide +kernel⟩
abbrev s__law_kept : Stmt := topS 15
abbrev N__law_kept : List Str := ["row", "column"]
theorem sc__law_kept : FnScope N__law_kept ["row", "column"] (defScope s__law_kept) := ⟨rfl, rfl, rfl, by decide +kernel, rfl, by decide +kernel, by decide +kernel⟩
abbrev s__law_base : Stmt := topS 16
abbrev N__law_base : List Str := ["number", "way", "row", "column", "by"]
theorem sc__law_base : FnScope N__law_base ["number"] (defScope s__law_base) := ⟨rfl, rfl, rfl, by decide +kernel, rfl, by decide +kernel, by decide +kernel⟩
abbrev s__law_board : Stmt := topS 17
abbrev N__law_board : List Str := ["number", "way", "base", "cells", "many", "k", "at", "top", "tall", "wide", "row", "column", "bits", "gone"]
theorem sc__law_board : FnScope N__law_board ["number"] (defScope s__law_board) := ⟨rfl, rfl, rfl, by decide +kernel, rfl, by decide +kernel, by decide +kernel⟩
abbrev s__law_fallen : Stmt := topS 18
abbrev N__law_fallen : List Str := ["cells", "sides", "left", "cell", "found", "part", "at", "row", "column", "near"]
theorem sc__law_fallen : FnScope N__law_fallen ["cells", "sides"] (defScope s__law_fallen) := ⟨rfl, rfl, rfl, by decide +kernel, rfl, by decide +kernel, by decide +kernel⟩
abbrev s__law_has : Stmt := topS 19
abbrev N__law_has : List Str := ["shape", "cell"]
theorem sc__law_has : FnScope N__law_has ["shape", "cell"] (defScope s__law_has) := ⟨rfl, rfl, rfl, by decide +kernel, rfl, by decide +kernel, by decide +kernel⟩
abbrev s__law_around : Stmt := topS 20
abbrev N__law_around : List Str := ["shape", "cell", "found", "row", "column"]
theorem sc__law_around : FnScope N__law_around ["shape", "cell"] (defScope s__law_around) := ⟨rfl, rfl, rfl, by decide +kernel, rfl, by decide +kernel, by decide +kernel⟩
abbrev s__law_cells : Stmt := topS 21
abbrev N__law_cells : List Str := ["found", "one", "number"]
theorem sc__law_cells : FnScope N__law_cells ["found"] (defScope s__law_cells) := ⟨rfl, rfl, rfl, by decide +kernel, rfl, by decide +kernel, by decide +kernel⟩
abbrev s__law_chain : Stmt := topS 22
abbrev N__law_chain : List Str := ["chain", "near", "at", "spot", "one"]
theorem sc__law_chain : FnScope N__law_chain ["chain", "near"] (defScope s__law_chain) := ⟨rfl, rfl, rfl, by decide +kernel, rfl, by decide +kernel, by decide +kernel⟩
abbrev s__law_right : Stmt := topS 23
abbrev N__law_right : List Str := ["told", "shape", "cell", "near", "sides", "lacking", "hang", "one"]
theorem sc__law_right : FnScope N__law_right ["told", "shape", "cell"] (defScope s__law_right) := ⟨rfl, rfl, rfl, by decide +kernel, rfl, by decide +kernel, by decide +kernel⟩
abbrev s_law : Stmt := topS 24
abbrev N_law : List Str := ["script", "cell", "cells", "number", "shape", "spot", "there", "told"]
theorem sc_law : FnScope N_law ["script"] (defScope s_law) := ⟨rfl, rfl, rfl, by decide +kernel, rfl, by decide +kernel, by decide +kernel⟩
def fn : List He.DefD := [
  ⟨("flooded", none), "flooded", "flooded", defArgs s_flooded, defBody s_flooded, defScope s_flooded, [], []⟩,
  ⟨("noted", none), "noted", "noted", defArgs s_noted, defBody s_noted, defScope s_noted, [], []⟩,
  ⟨("near_cells", none), "near_cells", "near_cells", defArgs s_near_cells, defBody s_near_cells, defScope s_near_cells, [], []⟩,
  ⟨("why_around", none), "why_around", "why_around", defArgs s_why_around, defBody s_why_around, defScope s_why_around, [], []⟩,
  ⟨("why_loose", none), "why_loose", "why_loose", defArgs s_why_loose, defBody s_why_loose, defScope s_why_loose, [], []⟩,
  ⟨("_law_cell", none), "_law_cell", "_law_cell", defArgs s__law_cell, defBody s__law_cell, defScope s__law_cell, [], []⟩,
  ⟨("_law_deal", none), "_law_deal", "_law_deal", defArgs s__law_deal, defBody s__law_deal, defScope s__law_deal, [], []⟩,
  ⟨("_law_kept", none), "_law_kept", "_law_kept", defArgs s__law_kept, defBody s__law_kept, defScope s__law_kept, [], []⟩,
  ⟨("_law_base", none), "_law_base", "_law_base", defArgs s__law_base, defBody s__law_base, defScope s__law_base, [], []⟩,
  ⟨("_law_board", none), "_law_board", "_law_board", defArgs s__law_board, defBody s__law_board, defScope s__law_board, [], []⟩,
  ⟨("_law_fallen", none), "_law_fallen", "_law_fallen", defArgs s__law_fallen, defBody s__law_fallen, defScope s__law_fallen, [], []⟩,
  ⟨("_law_has", none), "_law_has", "_law_has", defArgs s__law_has, defBody s__law_has, defScope s__law_has, [], []⟩,
  ⟨("_law_around", none), "_law_around", "_law_around", defArgs s__law_around, defBody s__law_around, defScope s__law_around, [], []⟩,
  ⟨("_law_cells", none), "_law_cells", "_law_cells", defArgs s__law_cells, defBody s__law_cells, defScope s__law_cells, [], []⟩,
  ⟨("_law_chain", none), "_law_chain", "_law_chain", defArgs s__law_chain, defBody s__law_chain, defScope s__law_chain, [], []⟩,
  ⟨("_law_right", none), "_law_right", "_law_right", defArgs s__law_right, defBody s__law_right, defScope s__law_right, [], []⟩,
  ⟨("law", none), "law", "law", defArgs s_law, defBody s_law, defScope s_law, [], []⟩]
def fa : List He.Fa := [
  .glo "flooded",
  .glo "noted",
  .glo "near_cells",
  .glo "why_around",
  .glo "why_loose",
  .glo "_law_cell",
  .glo "_law_deal",
  .glo "_law_kept",
  .glo "_law_base",
  .glo "_law_board",
  .glo "_law_fallen",
  .glo "_law_has",
  .glo "_law_around",
  .glo "_law_cells",
  .glo "_law_chain",
  .glo "_law_right",
  .glo "law",
  .glo "MossError",
  .exc "MossError",
  .glo "NoCell",
  .exc "NoCell",
  .free "len",
  .free "sorted",
  .free "tuple",
  .free "range",
  .free "isinstance",
  .free "max",
  .free "min",
  .free "divmod",
  .free "list",
  .free "bool",
  .free "int",
  .free "str",
  .free "abs",
  .free "ValueError",
  .glo "SIDES",
  .glo "AROUND"]
/-- the module's tuples -/
def cs : List (Str × PyData) := [("SIDES", .tuple [.tuple [.int (-1), .int 0], .tuple [.int 0, .int (-1)], .tuple [.int 0, .int 1], .tuple [.int 1, .int 0]]), ("AROUND", .tuple [.tuple [.int (-1), .int (-1)], .tuple [.int (-1), .int 0], .tuple [.int (-1), .int 1], .tuple [.int 0, .int (-1)], .tuple [.int 0, .int 1], .tuple [.int 1, .int (-1)], .tuple [.int 1, .int 0], .tuple [.int 1, .int 1]])]
abbrev Tx := G.Txt fa fn cs
section
variable {K : PySem.W.Frag} {mg : Str → Option Value}
abbrev FD_flooded (K : PySem.W.Frag) (fd : FuncData) : Prop := FunD K "flooded" "flooded" (defArgs s_flooded) (defBody s_flooded) (defScope s_flooded) [] [] (He.ga K "flooded") fd
theorem fd_flooded (T : Tx K mg) : ∃ fd, FD_flooded K fd := T.d.def_ 0 rfl
theorem g_flooded (T : Tx K mg) : mg "flooded" = some (.ref (He.ga K "flooded")) := T.glo 0 rfl
theorem b_flooded {fd : FuncData} (F : FD_flooded K fd) : Binds K fd ["some", "start", "steps"] [] := F.bindsN fun _ _ _ _ _ _ us hl => match us, hl with | [_, _, _], _ => rfl
abbrev FD_noted (K : PySem.W.Frag) (fd : FuncData) : Prop := FunD K "noted" "noted" (defArgs s_noted) (defBody s_noted) (defScope s_noted) [] [] (He.ga K "noted") fd
theorem fd_noted (T : Tx K mg) : ∃ fd, FD_noted K fd := T.d.def_ 1 rfl
theorem g_noted (T : Tx K mg) : mg "noted" = some (.ref (He.ga K "noted")) := T.glo 1 rfl
theorem b_noted {fd : FuncData} (F : FD_noted K fd) : Binds K fd ["cells"] [] := F.bindsN fun _ _ _ _ _ _ us hl => match us, hl with | [_], _ => rfl
abbrev FD_near_cells (K : PySem.W.Frag) (fd : FuncData) : Prop := FunD K "near_cells" "near_cells" (defArgs s_near_cells) (defBody s_near_cells) (defScope s_near_cells) [] [] (He.ga K "near_cells") fd
theorem fd_near_cells (T : Tx K mg) : ∃ fd, FD_near_cells K fd := T.d.def_ 2 rfl
theorem g_near_cells (T : Tx K mg) : mg "near_cells" = some (.ref (He.ga K "near_cells")) := T.glo 2 rfl
theorem b_near_cells {fd : FuncData} (F : FD_near_cells K fd) : Binds K fd ["cell", "steps"] [] := F.bindsN fun _ _ _ _ _ _ us hl => match us, hl with | [_, _], _ => rfl
abbrev FD_why_around (K : PySem.W.Frag) (fd : FuncData) : Prop := FunD K "why_around" "why_around" (defArgs s_why_around) (defBody s_why_around) (defScope s_why_around) [] [] (He.ga K "why_around") fd
theorem fd_why_around (T : Tx K mg) : ∃ fd, FD_why_around K fd := T.d.def_ 3 rfl
theorem g_why_around (T : Tx K mg) : mg "why_around" = some (.ref (He.ga K "why_around")) := T.glo 3 rfl
theorem b_why_around {fd : FuncData} (F : FD_why_around K fd) : Binds K fd ["some", "rest", "cell"] [] := F.bindsN fun _ _ _ _ _ _ us hl => match us, hl with | [_, _, _], _ => rfl
abbrev FD_why_loose (K : PySem.W.Frag) (fd : FuncData) : Prop := FunD K "why_loose" "why_loose" (defArgs s_why_loose) (defBody s_why_loose) (defScope s_why_loose) [] [] (He.ga K "why_loose") fd
theorem fd_why_loose (T : Tx K mg) : ∃ fd, FD_why_loose K fd := T.d.def_ 4 rfl
theorem g_why_loose (T : Tx K mg) : mg "why_loose" = some (.ref (He.ga K "why_loose")) := T.glo 4 rfl
theorem b_why_loose {fd : FuncData} (F : FD_why_loose K fd) : Binds K fd ["shape", "cell"] [] := F.bindsN fun _ _ _ _ _ _ us hl => match us, hl with | [_, _], _ => rfl
abbrev FD__law_cell (K : PySem.W.Frag) (fd : FuncData) : Prop := FunD K "_law_cell" "_law_cell" (defArgs s__law_cell) (defBody s__law_cell) (defScope s__law_cell) [] [] (He.ga K "_law_cell") fd
theorem fd__law_cell (T : Tx K mg) : ∃ fd, FD__law_cell K fd := T.d.def_ 5 rfl
theorem g__law_cell (T : Tx K mg) : mg "_law_cell" = some (.ref (He.ga K "_law_cell")) := T.glo 5 rfl
theorem b__law_cell {fd : FuncData} (F : FD__law_cell K fd) : Binds K fd ["script", "k"] [] := F.bindsN fun _ _ _ _ _ _ us hl => match us, hl with | [_, _], _ => rfl
abbrev FD__law_deal (K : PySem.W.Frag) (fd : FuncData) : Prop := FunD K "_law_deal" "_law_deal" (defArgs s__law_deal) (defBody s__law_deal) (defScope s__law_deal) [] [] (He.ga K "_law_deal") fd
theorem fd__law_deal (T : Tx K mg) : ∃ fd, FD__law_deal K fd := T.d.def_ 6 rfl
theorem g__law_deal (T : Tx K mg) : mg "_law_deal" = some (.ref (He.ga K "_law_deal")) := T.glo 6 rfl
theorem b__law_deal {fd : FuncData} (F : FD__law_deal K fd) : Binds K fd ["cell", "salt"] [] := F.bindsN fun _ _ _ _ _ _ us hl => match us, hl with | [_, _], _ => rfl
abbrev FD__law_kept (K : PySem.W.Frag) (fd : FuncData) : Prop := FunD K "_law_kept" "_law_kept" (defArgs s__law_kept) (defBody s__law_kept) (defScope s__law_kept) [] [] (He.ga K "_law_kept") fd
theorem fd__law_kept (T : Tx K mg) : ∃ fd, FD__law_kept K fd := T.d.def_ 7 rfl
theorem g__law_kept (T : Tx K mg) : mg "_law_kept" = some (.ref (He.ga K "_law_kept")) := T.glo 7 rfl
theorem b__law_kept {fd : FuncData} (F : FD__law_kept K fd) : Binds K fd ["row", "column"] [] := F.bindsN fun _ _ _ _ _ _ us hl => match us, hl with | [_, _], _ => rfl
abbrev FD__law_base (K : PySem.W.Frag) (fd : FuncData) : Prop := FunD K "_law_base" "_law_base" (defArgs s__law_base) (defBody s__law_base) (defScope s__law_base) [] [] (He.ga K "_law_base") fd
theorem fd__law_base (T : Tx K mg) : ∃ fd, FD__law_base K fd := T.d.def_ 8 rfl
theorem g__law_base (T : Tx K mg) : mg "_law_base" = some (.ref (He.ga K "_law_base")) := T.glo 8 rfl
theorem b__law_base {fd : FuncData} (F : FD__law_base K fd) : Binds K fd ["number"] [] := F.bindsN fun _ _ _ _ _ _ us hl => match us, hl with | [_], _ => rfl
abbrev FD__law_board (K : PySem.W.Frag) (fd : FuncData) : Prop := FunD K "_law_board" "_law_board" (defArgs s__law_board) (defBody s__law_board) (defScope s__law_board) [] [] (He.ga K "_law_board") fd
theorem fd__law_board (T : Tx K mg) : ∃ fd, FD__law_board K fd := T.d.def_ 9 rfl
theorem g__law_board (T : Tx K mg) : mg "_law_board" = some (.ref (He.ga K "_law_board")) := T.glo 9 rfl
theorem b__law_board {fd : FuncData} (F : FD__law_board K fd) : Binds K fd ["number"] [] := F.bindsN fun _ _ _ _ _ _ us hl => match us, hl with | [_], _ => rfl
abbrev FD__law_fallen (K : PySem.W.Frag) (fd : FuncData) : Prop := FunD K "_law_fallen" "_law_fallen" (defArgs s__law_fallen) (defBody s__law_fallen) (defScope s__law_fallen) [] [] (He.ga K "_law_fallen") fd
theorem fd__law_fallen (T : Tx K mg) : ∃ fd, FD__law_fallen K fd := T.d.def_ 10 rfl
theorem g__law_fallen (T : Tx K mg) : mg "_law_fallen" = some (.ref (He.ga K "_law_fallen")) := T.glo 10 rfl
theorem b__law_fallen {fd : FuncData} (F : FD__law_fallen K fd) : Binds K fd ["cells", "sides"] [] := F.bindsN fun _ _ _ _ _ _ us hl => match us, hl with | [_, _], _ => rfl
abbrev FD__law_has (K : PySem.W.Frag) (fd : FuncData) : Prop := FunD K "_law_has" "_law_has" (defArgs s__law_has) (defBody s__law_has) (defScope s__law_has) [] [] (He.ga K "_law_has") fd
theorem fd__law_has (T : Tx K mg) : ∃ fd, FD__law_has K fd := T.d.def_ 11 rfl
theorem g__law_has (T : Tx K mg) : mg "_law_has" = some (.ref (He.ga K "_law_has")) := T.glo 11 rfl
theorem b__law_has {fd : FuncData} (F : FD__law_has K fd) : Binds K fd ["shape", "cell"] [] := F.bindsN fun _ _ _ _ _ _ us hl => match us, hl with | [_, _], _ => rfl
abbrev FD__law_around (K : PySem.W.Frag) (fd : FuncData) : Prop := FunD K "_law_around" "_law_around" (defArgs s__law_around) (defBody s__law_around) (defScope s__law_around) [] [] (He.ga K "_law_around") fd
theorem fd__law_around (T : Tx K mg) : ∃ fd, FD__law_around K fd := T.d.def_ 12 rfl
theorem g__law_around (T : Tx K mg) : mg "_law_around" = some (.ref (He.ga K "_law_around")) := T.glo 12 rfl
theorem b__law_around {fd : FuncData} (F : FD__law_around K fd) : Binds K fd ["shape", "cell"] [] := F.bindsN fun _ _ _ _ _ _ us hl => match us, hl with | [_, _], _ => rfl
abbrev FD__law_cells (K : PySem.W.Frag) (fd : FuncData) : Prop := FunD K "_law_cells" "_law_cells" (defArgs s__law_cells) (defBody s__law_cells) (defScope s__law_cells) [] [] (He.ga K "_law_cells") fd
theorem fd__law_cells (T : Tx K mg) : ∃ fd, FD__law_cells K fd := T.d.def_ 13 rfl
theorem g__law_cells (T : Tx K mg) : mg "_law_cells" = some (.ref (He.ga K "_law_cells")) := T.glo 13 rfl
theorem b__law_cells {fd : FuncData} (F : FD__law_cells K fd) : Binds K fd ["found"] [] := F.bindsN fun _ _ _ _ _ _ us hl => match us, hl with | [_], _ => rfl
abbrev FD__law_chain (K : PySem.W.Frag) (fd : FuncData) : Prop := FunD K "_law_chain" "_law_chain" (defArgs s__law_chain) (defBody s__law_chain) (defScope s__law_chain) [] [] (He.ga K "_law_chain") fd
theorem fd__law_chain (T : Tx K mg) : ∃ fd, FD__law_chain K fd := T.d.def_ 14 rfl
theorem g__law_chain (T : Tx K mg) : mg "_law_chain" = some (.ref (He.ga K "_law_chain")) := T.glo 14 rfl
theorem b__law_chain {fd : FuncData} (F : FD__law_chain K fd) : Binds K fd ["chain", "near"] [] := F.bindsN fun _ _ _ _ _ _ us hl => match us, hl with | [_, _], _ => rfl
abbrev FD__law_right (K : PySem.W.Frag) (fd : FuncData) : Prop := FunD K "_law_right" "_law_right" (defArgs s__law_right) (defBody s__law_right) (defScope s__law_right) [] [] (He.ga K "_law_right") fd
theorem fd__law_right (T : Tx K mg) : ∃ fd, FD__law_right K fd := T.d.def_ 15 rfl
theorem g__law_right (T : Tx K mg) : mg "_law_right" = some (.ref (He.ga K "_law_right")) := T.glo 15 rfl
theorem b__law_right {fd : FuncData} (F : FD__law_right K fd) : Binds K fd ["told", "shape", "cell"] [] := F.bindsN fun _ _ _ _ _ _ us hl => match us, hl with | [_, _, _], _ => rfl
abbrev FD_law (K : PySem.W.Frag) (fd : FuncData) : Prop := FunD K "law" "law" (defArgs s_law) (defBody s_law) (defScope s_law) [] [] (He.ga K "law") fd
theorem fd_law (T : Tx K mg) : ∃ fd, FD_law K fd := T.d.def_ 16 rfl
theorem g_law (T : Tx K mg) : mg "law" = some (.ref (He.ga K "law")) := T.glo 16 rfl
theorem b_law {fd : FuncData} (F : FD_law K fd) : Binds K fd ["script"] [] := F.bindsN fun _ _ _ _ _ _ us hl => match us, hl with | [_], _ => rfl
theorem g_MossError (T : Tx K mg) : mg "MossError" = some (.ref (He.ga K "MossError")) := T.glo 17 rfl
theorem x_MossError (T : Tx K mg) : (He.Fa.exc "MossError").ok K = true := T.d.fact 18 rfl
theorem g_NoCell (T : Tx K mg) : mg "NoCell" = some (.ref (He.ga K "NoCell")) := T.glo 19 rfl
theorem x_NoCell (T : Tx K mg) : (He.Fa.exc "NoCell").ok K = true := T.d.fact 20 rfl
theorem z_len (T : Tx K mg) : mg "len" = none := T.free 21 rfl
theorem z_sorted (T : Tx K mg) : mg "sorted" = none := T.free 22 rfl
theorem z_tuple (T : Tx K mg) : mg "tuple" = none := T.free 23 rfl
theorem z_range (T : Tx K mg) : mg "range" = none := T.free 24 rfl
theorem z_isinstance (T : Tx K mg) : mg "isinstance" = none := T.free 25 rfl
theorem z_max (T : Tx K mg) : mg "max" = none := T.free 26 rfl
theorem z_min (T : Tx K mg) : mg "min" = none := T.free 27 rfl
theorem z_divmod (T : Tx K mg) : mg "divmod" = none := T.free 28 rfl
theorem z_list (T : Tx K mg) : mg "list" = none := T.free 29 rfl
theorem z_bool (T : Tx K mg) : mg "bool" = none := T.free 30 rfl
theorem z_int (T : Tx K mg) : mg "int" = none := T.free 31 rfl
theorem z_str (T : Tx K mg) : mg "str" = none := T.free 32 rfl
theorem z_abs (T : Tx K mg) : mg "abs" = none := T.free 33 rfl
theorem z_ValueError (T : Tx K mg) : mg "ValueError" = none := T.free 34 rfl
theorem g_SIDES (T : Tx K mg) : mg "SIDES" = some (.ref (He.ga K "SIDES")) := T.glo 35 rfl
theorem g_AROUND (T : Tx K mg) : mg "AROUND" = some (.ref (He.ga K "AROUND")) := T.glo 36 rfl
theorem t_SIDES (T : Tx K mg) (F : Hp) : Dq K F (.ref (He.ga K "SIDES")) (.tuple [.tuple [.int (-1), .int 0], .tuple [.int 0, .int (-1)], .tuple [.int 0, .int 1], .tuple [.int 1, .int 0]]) := T.con 0 rfl F
theorem t_AROUND (T : Tx K mg) (F : Hp) : Dq K F (.ref (He.ga K "AROUND")) (.tuple [.tuple [.int (-1), .int (-1)], .tuple [.int (-1), .int 0], .tuple [.int (-1), .int 1], .tuple [.int 0, .int (-1)], .tuple [.int 0, .int 1], .tuple [.int 1, .int (-1)], .tuple [.int 1, .int 0], .tuple [.int 1, .int 1]]) := T.con 1 rfl F
end
end T72

/-! mirrors and walks of law_k72_why_a_cell_is_loose (printed by gen.py) -/
namespace T72
open PySem PySem.Spec PyProof.Rows L2 G
open PySem.W (Datum Tup T3)
abbrev v_SIDES : Tup Cell := ⟨[(-1, 0), (0, -1), (0, 1), (1, 0)]⟩
abbrev v_AROUND : Tup Cell := ⟨[(-1, -1), (-1, 0), (-1, 1), (0, -1), (0, 1), (1, -1), (1, 0), (1, 1)]⟩
/-- what why_loose tells -/
inductive Why where
  | alone | inner | bridge (c : Tup Cell) | loose (c : List Cell) (s : Cell)
def whyS (n : Nat) : Why → Sl
  | .alone => im (⟨["alone"]⟩ : Tup Str)
  | .inner => im (⟨["inner"]⟩ : Tup Str)
  | .bridge c => im (("bridge", c) : Str × Tup Cell)
  | .loose _ s => tupS [im ("loose" : Str), mu n, im s]
def whyM : Why → List MC
  | .loose c _ => [lst c]
  | _ => []
theorem ret_loose {n j : Nat} {P : Sl → List MC → Prop} {m' : List MC} {c : List Cell} {s : Cell} (hj : n ≤ j) (hc : m'[j]? = some (lst c)) (h : P (tupS [im ("loose" : Str), mu n, im s]) (m'.take n ++ [lst c])) : Ret n P (tupS [im ("loose" : Str), mu j, im s]) m' :=
  ⟨[j], [lst c], tupS [im ("loose" : Str), mu n, im s], by simp, fun k hk => by
    have e : k = j := by simpa using hk
    rw [e]
    exact hj, ⟨hc, rfl, trivial⟩, .tup (.cons .im (.cons (.mu (.inr ⟨0, rfl, rfl⟩)) (.cons .im .nil))), h⟩
section
variable {P : Program} {w : World} {K : PySem.W.Frag} {mg : Str → Option Value} {base : Heap}
def m_near_cells (a_cell : Cell) (a_steps : (Tup Cell)) : R (List Cell) :=
  comp (fun (y1 : Cell) => R.ok true) (fun (y1 : Cell) => R.ok ((a_cell.1 + y1.1), (a_cell.2 + y1.2))) (a_steps).items
def fs_near_cells : Fs := ⟨fun Γ m P PE => ∃ (a_cell : Cell) (a_steps : (Tup Cell)), Γ = [im a_cell, im a_steps] ∧ m = [] ∧ (m_near_cells a_cell a_steps).sat (fun y => P (im y) []) fun e => PE e []⟩
theorem ok_near_cells (TX : Tx K mg) {fd : FuncData} (F : FD_near_cells K fd) : FnOk P w K mg base (L2.CX P w) 1 (He.ga K "near_cells") fd ["cell", "steps"] (spF K fs_near_cells) := by
  have SC := sc_near_cells
  refine fn_ok F sc_near_cells (fun Γ m P PE h => ?_) (fun cdv A outer s H E B Γ m Pr PE hr h => ?_)
  · obtain ⟨_, _, rfl, _⟩ := h
    rfl
  · obtain ⟨a_cell, a_steps, rfl, rfl, h⟩ := h
    show WSs _ _ _ _ [im a_cell, im a_steps, un] [] _
    refine wss_one ?_
    refine ws_ret (α := (List Cell)) (we_end h (fun T h => ?_) (fun y h => ret_im h))
    refine we_comp (α := Cell) (β := Cell) (own := [("step", 2)]) (fun (y1 : Cell) => R.ok true) (fun (y1 : Cell) => R.ok ((a_cell.1 + y1.1), (a_cell.2 + y1.2))) rfl SC.nd (blkOk_by rfl) (tgu_name (i := 2) SC.nd rfl (by decide)) ?_
    refine wi_tup ?_
    refine we_var (α := (Tup Cell)) (i := 1) rfl rfl ?_
    refine comp_fin rfl h (fun y1 acc T hm h s H C cl fp => ?_) (fun y1 acc T hm h s H C cl fp => ?_)
    · exact wts_nil ⟨rfl, h⟩
    · refine we_pair ?_
      refine we_add ?_
      refine we_fst (α := Int) (β := Int) ?_
      refine we_var (α := Cell) (i := 0) rfl rfl ?_
      refine we_fst (α := Int) (β := Int) ?_
      refine we_var (α := Cell) (i := 2) rfl rfl ?_
      refine we_add ?_
      refine we_snd (α := Int) (β := Int) ?_
      refine we_var (α := Cell) (i := 0) rfl rfl ?_
      refine we_snd (α := Int) (β := Int) ?_
      refine we_var (α := Cell) (i := 2) rfl rfl ?_
      exact ⟨rfl, h⟩
def m_noted (a_cells : (List Cell)) : R (List Cell) :=
  R.fl (forR (S := (List Cell)) (ρ := Empty) (fun (s1 : (List Cell)) (y2 : Cell) => chk (decide ((s1).length < sizeLine)) (R.ok (.nx (putC s1 y2)))) a_cells ([] : List Cell)) (fun (s3 : (List Cell)) => R.ok (s3)) (fun y => nomatch y)
def fs_noted : Fs := ⟨fun Γ m P PE => ∃ (a_cells : (List Cell)), Γ = [sq a_cells] ∧ m = [] ∧ (m_noted a_cells).sat (fun y => P (mu 0) [kd y]) fun e => PE e []⟩
theorem ok_noted (TX : Tx K mg) {fd : FuncData} (F : FD_noted K fd) : FnOk P w K mg base (L2.CX P w) 1 (He.ga K "noted") fd ["cells"] (spF K fs_noted) := by
  have SC := sc_noted
  refine fn_ok F sc_noted (fun Γ m P PE h => ?_) (fun cdv A outer s H E B Γ m Pr PE hr h => ?_)
  · obtain ⟨_, rfl, _⟩ := h
    rfl
  · obtain ⟨a_cells, rfl, rfl, h⟩ := h
    show WSs _ _ _ _ [sq a_cells, un, un] [] _
    refine wss_cons ?_
    refine ws_setG (i := 1) SC.nd rfl (wg_dnew ?_)
    refine wss_cons ?_
    refine ws_for (S := (List Cell)) (ρ := Empty) (fun (s1 : (List Cell)) (y2 : Cell) => chk (decide ((s1).length < sizeLine)) (R.ok (.nx (putC s1 y2)))) (fun s1 => [sq a_cells, mu 0, un]) (fun s1 => [kd s1]) (fun (_ : Empty) _ _ => False) (passes_of rfl) rfl (tg_name (α := Cell) (i := 2) SC.nd rfl) ?_
    refine wi_sq (i := 0) rfl rfl ?_
    refine for_on h (fun _ => rfl) ⟨.fre (fun _ _ _ _ _ h => h) (.mu (Nat.le_of_ble_eq_true rfl) (.un .nil)), rfl⟩ (fun s1 y2 T hm h => ?_) (fun s3 h => ?_) (fun y => nomatch y)
    · refine wss_one ?_
      refine ws_dput (i := 1) (j := 0) hr.units rfl rfl ?_
      refine we_var (α := Cell) (i := 2) rfl rfl ?_
      refine chk_next h (fun hl h => ?_)
      refine ⟨_, rfl, of_decide_eq_true hl, ?_⟩
      exact ⟨_, h, ⟨.fre (fun _ _ _ _ _ h => h) (.mu (Nat.le_of_ble_eq_true rfl) (.un .nil)), rfl⟩⟩
    refine wss_one ?_
    refine ws_retG (wg_mu (i := 1) (j := 0) rfl rfl ?_)
    exact ret_mu (Nat.le_of_ble_eq_true rfl) rfl h
def m_flooded (a_some : (List Cell)) (a_start : Cell) (a_steps : (Tup Cell)) : R ((List Cell) × (List Cell)) :=
  chk (decide (a_start ∈ a_some)) ((R.ok (0) : R Int).bind fun at_1 => R.fl (whileR (S := Int × (List Cell) × (List Cell)) (ρ := Empty) (fun (s2 : Int × (List Cell) × (List Cell)) => R.ok (decide (s2.1 < ((s2.2.1).length : Int)))) (fun (s2 : Int × (List Cell) × (List Cell)) => R.fl (forR (S := (List Cell) × (List Cell)) (ρ := Empty) (fun (s3 : (List Cell) × (List Cell)) (y4 : Cell) => ((((idx s3.1 s2.1).bind fun x5 => R.ok (x5).1).bind fun x6 => R.ok (x6 + y4.1)).bind fun x7 => (((idx s3.1 s2.1).bind fun x8 => R.ok (x8).2).bind fun x9 => R.ok (x9 + y4.2)).bind fun x10 => R.ok (x7, x10) : R Cell).bind fun near_11 => (R.ok (memb near_11 (s3.2))).bind fun b12 => R.ite b12 (chk (decide (near_11 ∈ s3.2)) (chk (decide ((s3.1).length < sizeLine)) (R.ok (.nx ((s3.1 ++ [near_11]), (popC s3.2 near_11)))))) (R.ok (.nx (s3.1, s3.2)))) (a_steps).items (s2.2.1, s2.2.2)) (fun (s13 : (List Cell) × (List Cell)) => (R.ok (s2.1 + 1) : R Int).bind fun at_14 => R.ok (.nx (at_14, s13.1, s13.2))) (fun y => nomatch y)) (a_some.length + 1) (at_1, ([a_start] : (List Cell)), (popC a_some a_start))) (fun (s15 : Int × (List Cell) × (List Cell)) => R.ok (s15.2.1, s15.2.2)) (fun y => nomatch y))
def fs_flooded : Fs := ⟨fun Γ m P PE => ∃ (a_some : (List Cell)) (a_start : Cell) (a_steps : (Tup Cell)), Γ = [mu 0, im a_start, im a_steps] ∧ m = [kd a_some] ∧ (m_flooded a_some a_start a_steps).sat (fun y => P (mu 1) ([kd y.2, lst y.1])) fun e => False⟩
theorem ok_flooded (TX : Tx K mg) {fd : FuncData} (F : FD_flooded K fd) : FnOk P w K mg base (L2.CX P w) 1 (He.ga K "flooded") fd ["some", "start", "steps"] (spF K fs_flooded) := by
  have SC := sc_flooded
  refine fn_ok F sc_flooded (fun Γ m P PE h => ?_) (fun cdv A outer s H E B Γ m Pr PE hr h => ?_)
  · obtain ⟨_, _, _, rfl, _⟩ := h
    rfl
  · obtain ⟨a_some, a_start, a_steps, rfl, rfl, h⟩ := h
    show WSs _ _ _ _ [mu 0, im a_start, im a_steps, un, un, un, un] [kd a_some] _
    refine wss_cons ?_
    refine ws_setG (i := 3) SC.nd rfl (wg_list (α := Cell) ?_)
    refine wl_cons ?_
    refine we_var (α := Cell) (i := 1) rfl rfl ?_
    refine wl_nil ?_
    refine ⟨by show (1 : Nat) ≤ sizeLine; decide, ?_⟩
    refine wss_cons ?_
    refine ws_expr (α := Bool) (we_dpop (i := 0) (j := 0) hr.units rfl rfl rfl ?_)
    refine we_var (α := Cell) (i := 1) rfl rfl ?_
    refine chk_next h (fun hl h => ?_)
    refine ⟨_, rfl, of_decide_eq_true hl, ?_⟩
    refine wss_cons ?_
    refine ws_set (α := Int) (i := 4) SC.nd rfl (we_cut h (fun T h => ?_) (fun at_1 h => ?_))
    · refine we_int ?_
      exact ⟨rfl, h⟩
    refine wss_cons ?_
    refine while_on (γ := fun s2 => [mu 0, im a_start, im a_steps, mu 1, im (s2.1 : Int), un, un]) (μ := fun s2 => [kd s2.2.2, lst s2.2.1]) (Rr := fun (_ : Empty) _ _ => False) (passes_of rfl) h (fun _ => rfl) ⟨.mu (Nat.le_of_ble_eq_true rfl) (.im (.im (.mu (Nat.le_of_ble_eq_true rfl) (.im (.un (.un .nil)))))), rfl⟩ (fun s2 T h => ?_) (fun s2 T h => ?_) (fun s15 h => ?_) (fun y => nomatch y)
    · refine wt_wc ?_
      refine wc_lt ?_
      refine we_var (α := Int) (i := 4) rfl rfl ?_
      refine we_lenQ (α := Cell) (z_len TX) ?_
      refine wsr_mu (α := Cell) (i := 3) (j := 1) rfl rfl rfl ?_
      exact ⟨rfl, h⟩
    · refine wss_cons ?_
      refine ws_for (S := (List Cell) × (List Cell)) (ρ := Empty) (fun (s3 : (List Cell) × (List Cell)) (y4 : Cell) => ((((idx s3.1 s2.1).bind fun x5 => R.ok (x5).1).bind fun x6 => R.ok (x6 + y4.1)).bind fun x7 => (((idx s3.1 s2.1).bind fun x8 => R.ok (x8).2).bind fun x9 => R.ok (x9 + y4.2)).bind fun x10 => R.ok (x7, x10) : R Cell).bind fun near_11 => (R.ok (memb near_11 (s3.2))).bind fun b12 => R.ite b12 (chk (decide (near_11 ∈ s3.2)) (chk (decide ((s3.1).length < sizeLine)) (R.ok (.nx ((s3.1 ++ [near_11]), (popC s3.2 near_11)))))) (R.ok (.nx (s3.1, s3.2)))) (fun s3 => [mu 0, im a_start, im a_steps, mu 1, im (s2.1 : Int), un, un]) (fun s3 => [kd s3.2, lst s3.1]) (fun (_ : Empty) _ _ => False) (passes_of rfl) rfl (tg_name (α := Cell) (i := 5) SC.nd rfl) ?_
      refine wi_tup ?_
      refine we_var (α := (Tup Cell)) (i := 2) rfl rfl ?_
      refine for_on h (fun _ => rfl) ⟨.mu (Nat.le_of_ble_eq_true rfl) (.im (.im (.mu (Nat.le_of_ble_eq_true rfl) (.im (.un (.un .nil)))))), rfl⟩ (fun s3 y4 T hm h => ?_) (fun s13 h => ?_) (fun y => nomatch y)
      · refine wss_cons ?_
        refine ws_set (α := Cell) (i := 6) SC.nd rfl (we_cut h (fun T h => ?_) (fun near_11 h => ?_))
        · refine we_pair ?_
          refine we_cut h (fun T h => ?_) (fun x7 h => ?_)
          · refine we_add ?_
            refine we_cut h (fun T h => ?_) (fun x6 h => ?_)
            · refine we_fst (α := Int) (β := Int) ?_
              refine we_cut h (fun T h => ?_) (fun x5 h => ?_)
              · refine we_ixM (α := Cell) (i := 3) (j := 1) rfl rfl ?_
                refine we_var (α := Int) (i := 4) rfl rfl ?_
                exact idx_finM rfl h
              exact ⟨rfl, h⟩
            refine we_fst (α := Int) (β := Int) ?_
            refine we_var (α := Cell) (i := 5) rfl rfl ?_
            exact ⟨rfl, h⟩
          refine we_cut h (fun T h => ?_) (fun x10 h => ?_)
          · refine we_add ?_
            refine we_cut h (fun T h => ?_) (fun x9 h => ?_)
            · refine we_snd (α := Int) (β := Int) ?_
              refine we_cut h (fun T h => ?_) (fun x8 h => ?_)
              · refine we_ixM (α := Cell) (i := 3) (j := 1) rfl rfl ?_
                refine we_var (α := Int) (i := 4) rfl rfl ?_
                exact idx_finM rfl h
              exact ⟨rfl, h⟩
            refine we_snd (α := Int) (β := Int) ?_
            refine we_var (α := Cell) (i := 5) rfl rfl ?_
            exact ⟨rfl, h⟩
          exact ⟨rfl, h⟩
        refine wss_one ?_
        refine ws_if (wt_cut h (fun T h => ?_) (fun b12 h => ite_on h (fun hb h => ?_) (fun hb h => ?_)))
        · refine wt_wc ?_
          refine wc_inC (i := 0) (j := 0) hr.units rfl rfl ?_
          refine we_var (α := Cell) (i := 6) rfl rfl ?_
          refine ⟨_, rfl, ?_⟩
          exact ⟨rfl, h⟩
        · refine wss_cons ?_
          refine ws_expr (α := Bool) (we_dpop (i := 0) (j := 0) hr.units rfl rfl rfl ?_)
          refine we_var (α := Cell) (i := 6) rfl rfl ?_
          refine chk_next h (fun hl h => ?_)
          refine ⟨_, rfl, of_decide_eq_true hl, ?_⟩
          refine wss_one ?_
          refine ws_expr (α := Unit) (we_append (α := Cell) (i := 3) (j := 1) rfl rfl rfl ?_)
          refine we_var (α := Cell) (i := 6) rfl rfl ?_
          refine chk_next h (fun hl h => ?_)
          refine ⟨_, rfl, of_decide_eq_true hl, ?_⟩
          exact ⟨_, h, ⟨.mu (Nat.le_of_ble_eq_true rfl) (.im (.im (.mu (Nat.le_of_ble_eq_true rfl) (.im (.un (.un .nil)))))), rfl⟩⟩
        refine wss_nil ?_
        exact ⟨_, h, ⟨.mu (Nat.le_of_ble_eq_true rfl) (.im (.im (.mu (Nat.le_of_ble_eq_true rfl) (.im (.un (.un .nil)))))), rfl⟩⟩
      refine wss_one ?_
      refine ws_set (α := Int) (i := 4) SC.nd rfl (we_cut h (fun T h => ?_) (fun at_14 h => ?_))
      · refine we_add ?_
        refine we_var (α := Int) (i := 4) rfl rfl ?_
        refine we_int ?_
        exact ⟨rfl, h⟩
      exact ⟨_, h, ⟨.mu (Nat.le_of_ble_eq_true rfl) (.im (.im (.mu (Nat.le_of_ble_eq_true rfl) (.im (.un (.un .nil)))))), rfl⟩⟩
    refine wss_one ?_
    refine ws_retG (wg_mu (i := 3) (j := 1) rfl rfl ?_)
    exact ret_mu (Nat.le_of_ble_eq_true rfl) rfl h
def m__law_cell (a_script : (List Int)) (a_k : Int) : R Int :=
  (R.ok (decide (a_k < ((a_script).length : Int)))).bind fun b1 => R.ite b1 (idx a_script a_k) (R.ok (0))
def fs__law_cell : Fs := ⟨fun Γ m P PE => ∃ (a_script : (List Int)) (a_k : Int), Γ = [sqL a_script, im a_k] ∧ m = [] ∧ (m__law_cell a_script a_k).sat (fun y => P (im y) []) fun e => PE e []⟩
theorem ok__law_cell (TX : Tx K mg) {fd : FuncData} (F : FD__law_cell K fd) : FnOk P w K mg base (L2.CX P w) 1 (He.ga K "_law_cell") fd ["script", "k"] (spF K fs__law_cell) := by
  have SC := sc__law_cell
  refine fn_ok F sc__law_cell (fun Γ m P PE h => ?_) (fun cdv A outer s H E B Γ m Pr PE hr h => ?_)
  · obtain ⟨_, _, rfl, _⟩ := h
    rfl
  · obtain ⟨a_script, a_k, rfl, rfl, h⟩ := h
    show WSs _ _ _ _ [sqL a_script, im a_k] [] _
    refine wss_cons ?_
    refine ws_if (wt_cut h (fun T h => ?_) (fun b1 h => ite_on h (fun hb h => ?_) (fun hb h => ?_)))
    · refine wt_wc ?_
      refine wc_lt ?_
      refine we_var (α := Int) (i := 1) rfl rfl ?_
      refine we_lenQ (α := Int) (z_len TX) ?_
      refine wsr_sqL (α := Int) (i := 0) rfl rfl ?_
      exact ⟨rfl, h⟩
    · refine wss_one ?_
      refine ws_ret (α := Int) (we_end h (fun T h => ?_) (fun y h => ret_im h))
      refine we_ixSq (α := Int) (i := 0) rfl rfl ?_
      refine we_var (α := Int) (i := 1) rfl rfl ?_
      exact idx_fin h
    refine wss_nil ?_
    refine wss_one ?_
    refine ws_ret (α := Int) (we_end h (fun T h => ?_) (fun y h => ret_im h))
    refine we_int ?_
    exact ⟨rfl, h⟩
def m__law_deal (a_cell : Int) (a_salt : Int) : R Int :=
  (R.ok (decide (1000000000000000000 ≤ a_cell))).bind fun b1 => R.ite b1 (R.ok (a_cell - 1000000000000000000)) ((R.ok (a_cell % 2147483629) : R Int).bind fun one_2 => (R.ok (0) : R Int).bind fun number_3 => chk (rg1 24) (R.fl (forR (S := Int × Int) (ρ := Empty) (fun (s4 : Int × Int) (y5 : Int) => ((((((chk (decide (CMul (15 * y5) y5)) (R.ok ((15 * y5) * y5))).bind fun x6 => R.ok (s4.2 + x6)).bind fun x7 => R.ok (x7 + (31 * a_salt))).bind fun x8 => R.ok (x8 + 11)).bind fun x9 => R.ok (x9 * 48271)).bind fun x10 => R.ok (x10 % 2147483647) : R Int).bind fun one_11 => ((chk (decide (CMul one_11 one_11)) (R.ok (one_11 * one_11))).bind fun x12 => R.ok (x12 % 2147483629) : R Int).bind fun one_13 => (R.ok ((s4.1 * 998244353) + (((one_13 * 69621) % 2147483587) / 7)) : R Int).bind fun number_14 => R.ok (.nx (number_14, one_13))) (rangeL 0 24) (number_3, one_2)) (fun (s15 : Int × Int) => R.ok (s15.1)) (fun y => nomatch y)))
def fs__law_deal : Fs := ⟨fun Γ m P PE => ∃ (a_cell : Int) (a_salt : Int), Γ = [im a_cell, im a_salt] ∧ m = [] ∧ (m__law_deal a_cell a_salt).sat (fun y => P (im y) []) fun e => PE e []⟩
theorem ok__law_deal (TX : Tx K mg) {fd : FuncData} (F : FD__law_deal K fd) : FnOk P w K mg base (L2.CX P w) 1 (He.ga K "_law_deal") fd ["cell", "salt"] (spF K fs__law_deal) := by
  have SC := sc__law_deal
  refine fn_ok F sc__law_deal (fun Γ m P PE h => ?_) (fun cdv A outer s H E B Γ m Pr PE hr h => ?_)
  · obtain ⟨_, _, rfl, _⟩ := h
    rfl
  · obtain ⟨a_cell, a_salt, rfl, rfl, h⟩ := h
    show WSs _ _ _ _ [im a_cell, im a_salt, un, un, un] [] _
    refine wss_cons ?_
    refine ws_if (wt_cut h (fun T h => ?_) (fun b1 h => ite_on h (fun hb h => ?_) (fun hb h => ?_)))
    · refine wt_wc ?_
      refine wc_ge ?_
      refine we_var (α := Int) (i := 0) rfl rfl ?_
      refine we_powC (k := 1000000000000000000) ?_
      exact ⟨rfl, h⟩
    · refine wss_one ?_
      refine ws_ret (α := Int) (we_end h (fun T h => ?_) (fun y h => ret_im h))
      refine we_sub ?_
      refine we_var (α := Int) (i := 0) rfl rfl ?_
      refine we_powC (k := 1000000000000000000) ?_
      exact ⟨rfl, h⟩
    refine wss_nil ?_
    refine wss_cons ?_
    refine ws_set (α := Int) (i := 2) SC.nd rfl (we_cut h (fun T h => ?_) (fun one_2 h => ?_))
    · refine we_mod ?_
      refine we_var (α := Int) (i := 0) rfl rfl ?_
      refine we_int ?_
      refine ⟨by decide, ?_⟩
      exact ⟨rfl, h⟩
    refine wss_cons ?_
    refine ws_set (α := Int) (i := 3) SC.nd rfl (we_cut h (fun T h => ?_) (fun number_3 h => ?_))
    · refine we_int ?_
      exact ⟨rfl, h⟩
    refine wss_cons ?_
    refine ws_for (S := Int × Int) (ρ := Empty) (fun (s4 : Int × Int) (y5 : Int) => ((((((chk (decide (CMul (15 * y5) y5)) (R.ok ((15 * y5) * y5))).bind fun x6 => R.ok (s4.2 + x6)).bind fun x7 => R.ok (x7 + (31 * a_salt))).bind fun x8 => R.ok (x8 + 11)).bind fun x9 => R.ok (x9 * 48271)).bind fun x10 => R.ok (x10 % 2147483647) : R Int).bind fun one_11 => ((chk (decide (CMul one_11 one_11)) (R.ok (one_11 * one_11))).bind fun x12 => R.ok (x12 % 2147483629) : R Int).bind fun one_13 => (R.ok ((s4.1 * 998244353) + (((one_13 * 69621) % 2147483587) / 7)) : R Int).bind fun number_14 => R.ok (.nx (number_14, one_13))) (fun s4 => [im a_cell, im a_salt, im (s4.2 : Int), im (s4.1 : Int), un]) (fun s4 => []) (fun (_ : Empty) _ _ => False) (passes_of rfl) rfl (tg_name (α := Int) (i := 4) SC.nd rfl) ?_
    refine wi_range1 (z_range TX) ?_
    refine we_int ?_
    refine chk_next h (fun hg h => ?_)
    refine ⟨(rg1_ok hg).1, (rg1_ok hg).2, ?_⟩
    refine for_on h (fun _ => rfl) ⟨.im (.im (.im (.im (.un .nil)))), rfl⟩ (fun s4 y5 T hm h => ?_) (fun s15 h => ?_) (fun y => nomatch y)
    · refine wss_cons ?_
      refine ws_set (α := Int) (i := 2) SC.nd rfl (we_cut h (fun T h => ?_) (fun one_11 h => ?_))
      · refine we_mod ?_
        refine we_cut h (fun T h => ?_) (fun x10 h => ?_)
        · refine we_mul ?_
          refine we_cut h (fun T h => ?_) (fun x9 h => ?_)
          · refine we_add ?_
            refine we_cut h (fun T h => ?_) (fun x8 h => ?_)
            · refine we_add ?_
              refine we_cut h (fun T h => ?_) (fun x7 h => ?_)
              · refine we_add ?_
                refine we_var (α := Int) (i := 2) rfl rfl ?_
                refine we_cut h (fun T h => ?_) (fun x6 h => ?_)
                · refine we_mul ?_
                  refine we_mul ?_
                  refine we_int ?_
                  refine we_var (α := Int) (i := 4) rfl rfl ?_
                  refine ⟨.inl ⟨by decide, by decide⟩, ?_⟩
                  refine we_var (α := Int) (i := 4) rfl rfl ?_
                  exact ⟨of_decide_eq_true (chk_sat h).1, rfl, (chk_sat h).2⟩
                exact ⟨rfl, h⟩
              refine we_mul ?_
              refine we_int ?_
              refine we_var (α := Int) (i := 1) rfl rfl ?_
              refine ⟨.inl ⟨by decide, by decide⟩, ?_⟩
              exact ⟨rfl, h⟩
            refine we_int ?_
            exact ⟨rfl, h⟩
          refine we_int ?_
          exact ⟨.inr ⟨by decide, by decide⟩, rfl, h⟩
        refine we_int ?_
        exact ⟨by decide, rfl, h⟩
      refine wss_cons ?_
      refine ws_set (α := Int) (i := 2) SC.nd rfl (we_cut h (fun T h => ?_) (fun one_13 h => ?_))
      · refine we_mod ?_
        refine we_cut h (fun T h => ?_) (fun x12 h => ?_)
        · refine we_mul ?_
          refine we_var (α := Int) (i := 2) rfl rfl ?_
          refine we_var (α := Int) (i := 2) rfl rfl ?_
          exact ⟨of_decide_eq_true (chk_sat h).1, rfl, (chk_sat h).2⟩
        refine we_int ?_
        exact ⟨by decide, rfl, h⟩
      refine wss_one ?_
      refine ws_set (α := Int) (i := 3) SC.nd rfl (we_cut h (fun T h => ?_) (fun number_14 h => ?_))
      · refine we_add ?_
        refine we_mul ?_
        refine we_var (α := Int) (i := 3) rfl rfl ?_
        refine we_int ?_
        refine ⟨.inr ⟨by decide, by decide⟩, ?_⟩
        refine we_fdiv ?_
        refine we_mod ?_
        refine we_mul ?_
        refine we_var (α := Int) (i := 2) rfl rfl ?_
        refine we_int ?_
        refine ⟨.inr ⟨by decide, by decide⟩, ?_⟩
        refine we_int ?_
        refine ⟨by decide, ?_⟩
        refine we_int ?_
        refine ⟨⟨by decide, by decide⟩, ?_⟩
        exact ⟨rfl, h⟩
      exact ⟨_, h, ⟨.im (.im (.im (.im (.un .nil)))), rfl⟩⟩
    refine wss_one ?_
    refine ws_ret (α := Int) (we_end h (fun T h => ?_) (fun y h => ret_im h))
    refine we_var (α := Int) (i := 3) rfl rfl ?_
    exact ⟨rfl, h⟩
def m__law_kept (a_row : Int) (a_column : Int) : R Cell :=
  R.ok ((max2 (-1000000000000) (min2 1000000000000 a_row)), (max2 (-1000000000000) (min2 1000000000000 a_column)))
def fs__law_kept : Fs := ⟨fun Γ m P PE => ∃ (a_row : Int) (a_column : Int), Γ = [im a_row, im a_column] ∧ m = [] ∧ (m__law_kept a_row a_column).sat (fun y => P (im y) []) fun e => PE e []⟩
theorem ok__law_kept (TX : Tx K mg) {fd : FuncData} (F : FD__law_kept K fd) : FnOk P w K mg base (L2.CX P w) 1 (He.ga K "_law_kept") fd ["row", "column"] (spF K fs__law_kept) := by
  have SC := sc__law_kept
  refine fn_ok F sc__law_kept (fun Γ m P PE h => ?_) (fun cdv A outer s H E B Γ m Pr PE hr h => ?_)
  · obtain ⟨_, _, rfl, _⟩ := h
    rfl
  · obtain ⟨a_row, a_column, rfl, rfl, h⟩ := h
    show WSs _ _ _ _ [im a_row, im a_column] [] _
    refine wss_one ?_
    refine ws_ret (α := Cell) (we_end h (fun T h => ?_) (fun y h => ret_im h))
    refine we_pair ?_
    refine we_max2 rfl (z_max TX) ?_
    refine we_neg ?_
    refine we_powC (k := 1000000000000) ?_
    refine we_min2 rfl (z_min TX) ?_
    refine we_powC (k := 1000000000000) ?_
    refine we_var (α := Int) (i := 0) rfl rfl ?_
    refine we_max2 rfl (z_max TX) ?_
    refine we_neg ?_
    refine we_powC (k := 1000000000000) ?_
    refine we_min2 rfl (z_min TX) ?_
    refine we_powC (k := 1000000000000) ?_
    refine we_var (α := Int) (i := 1) rfl rfl ?_
    exact ⟨rfl, h⟩
def m__law_base (a_number : Int) : R (Cell × Int) :=
  (R.ok (a_number / 5, a_number % 5) : R Cell).bind fun p1 => (R.ok (decide (1 < p1.2))).bind fun b2 => R.ite b2 (R.ok ((0, 0), p1.1)) (((idx ([((2 * 1000000000000) + 1), 2] : (List Int)) p1.2).bind fun x3 => chk (decide (CDivW p1.1 x3)) (R.ok (p1.1 / x3, p1.1 % x3)) : R Cell).bind fun p4 => ((idx ([((2 * 1000000000000) + 1), 2] : (List Int)) p1.2).bind fun x5 => chk (decide (CDivW p4.1 x5)) (R.ok (p4.1 / x5, p4.1 % x5)) : R Cell).bind fun p6 => (idx ([1, (2 * 1000000000000)] : (List Int)) p1.2 : R Int).bind fun by_7 => (((chk (decide (CMul p4.2 by_7)) (R.ok (p4.2 * by_7))).bind fun x8 => R.ok (x8 - 1000000000000)).bind fun x9 => ((chk (decide (CMul p6.2 by_7)) (R.ok (p6.2 * by_7))).bind fun x10 => R.ok (x10 - 1000000000000)).bind fun x11 => R.ok (x9, x11)).bind fun x12 => R.ok (x12, p6.1))
def fs__law_base : Fs := ⟨fun Γ m P PE => ∃ (a_number : Int), Γ = [im a_number] ∧ m = [] ∧ (m__law_base a_number).sat (fun y => P (im y) []) fun e => PE e []⟩
theorem ok__law_base (TX : Tx K mg) {fd : FuncData} (F : FD__law_base K fd) : FnOk P w K mg base (L2.CX P w) 1 (He.ga K "_law_base") fd ["number"] (spF K fs__law_base) := by
  have SC := sc__law_base
  refine fn_ok F sc__law_base (fun Γ m P PE h => ?_) (fun cdv A outer s H E B Γ m Pr PE hr h => ?_)
  · obtain ⟨_, rfl, _⟩ := h
    rfl
  · obtain ⟨a_number, rfl, rfl, h⟩ := h
    show WSs _ _ _ _ [im a_number, un, un, un, un] [] _
    refine wss_cons ?_
    refine ws_asgT (α := Cell) (tg_pair rfl (tg_name (α := Int) (i := 0) SC.nd rfl) (tg_name (α := Int) (i := 1) SC.nd rfl)) (we_cut h (fun T h => ?_) (fun p1 h => ?_))
    · refine we_divmod (z_divmod TX) ?_
      refine we_var (α := Int) (i := 0) rfl rfl ?_
      refine we_int ?_
      refine ⟨⟨by decide, by decide +kernel⟩, ?_⟩
      exact ⟨rfl, h⟩
    refine wss_cons ?_
    refine ws_if (wt_cut h (fun T h => ?_) (fun b2 h => ite_on h (fun hb h => ?_) (fun hb h => ?_)))
    · refine wt_wc ?_
      refine wc_gt ?_
      refine we_var (α := Int) (i := 1) rfl rfl ?_
      refine we_int ?_
      exact ⟨rfl, h⟩
    · refine wss_one ?_
      refine ws_ret (α := (Cell × Int)) (we_end h (fun T h => ?_) (fun y h => ret_im h))
      refine we_pair ?_
      refine we_pair ?_
      refine we_int ?_
      refine we_int ?_
      refine we_var (α := Int) (i := 0) rfl rfl ?_
      exact ⟨rfl, h⟩
    refine wss_nil ?_
    refine wss_cons ?_
    refine ws_asgT (α := Cell) (tg_pair rfl (tg_name (α := Int) (i := 0) SC.nd rfl) (tg_name (α := Int) (i := 2) SC.nd rfl)) (we_cut h (fun T h => ?_) (fun p4 h => ?_))
    · refine we_divmod (z_divmod TX) ?_
      refine we_var (α := Int) (i := 0) rfl rfl ?_
      refine we_cut h (fun T h => ?_) (fun x3 h => ?_)
      · refine we_ixL (α := Int) ?_
        refine we_listL (α := Int) ?_
        refine wl_cons ?_
        refine we_add ?_
        refine we_mul ?_
        refine we_int ?_
        refine we_powC (k := 1000000000000) ?_
        refine ⟨.inl ⟨by decide, by decide⟩, ?_⟩
        refine we_int ?_
        refine wl_cons ?_
        refine we_int ?_
        refine wl_nil ?_
        refine ⟨by show (2 : Nat) ≤ sizeLine; decide, ?_⟩
        refine we_var (α := Int) (i := 1) rfl rfl ?_
        exact idx_fin h
      exact ⟨of_decide_eq_true (chk_sat h).1, rfl, (chk_sat h).2⟩
    refine wss_cons ?_
    refine ws_asgT (α := Cell) (tg_pair rfl (tg_name (α := Int) (i := 0) SC.nd rfl) (tg_name (α := Int) (i := 3) SC.nd rfl)) (we_cut h (fun T h => ?_) (fun p6 h => ?_))
    · refine we_divmod (z_divmod TX) ?_
      refine we_var (α := Int) (i := 0) rfl rfl ?_
      refine we_cut h (fun T h => ?_) (fun x5 h => ?_)
      · refine we_ixL (α := Int) ?_
        refine we_listL (α := Int) ?_
        refine wl_cons ?_
        refine we_add ?_
        refine we_mul ?_
        refine we_int ?_
        refine we_powC (k := 1000000000000) ?_
        refine ⟨.inl ⟨by decide, by decide⟩, ?_⟩
        refine we_int ?_
        refine wl_cons ?_
        refine we_int ?_
        refine wl_nil ?_
        refine ⟨by show (2 : Nat) ≤ sizeLine; decide, ?_⟩
        refine we_var (α := Int) (i := 1) rfl rfl ?_
        exact idx_fin h
      exact ⟨of_decide_eq_true (chk_sat h).1, rfl, (chk_sat h).2⟩
    refine wss_cons ?_
    refine ws_set (α := Int) (i := 4) SC.nd rfl (we_cut h (fun T h => ?_) (fun by_7 h => ?_))
    · refine we_ixL (α := Int) ?_
      refine we_listL (α := Int) ?_
      refine wl_cons ?_
      refine we_int ?_
      refine wl_cons ?_
      refine we_mul ?_
      refine we_int ?_
      refine we_powC (k := 1000000000000) ?_
      refine ⟨.inl ⟨by decide, by decide⟩, ?_⟩
      refine wl_nil ?_
      refine ⟨by show (2 : Nat) ≤ sizeLine; decide, ?_⟩
      refine we_var (α := Int) (i := 1) rfl rfl ?_
      exact idx_fin h
    refine wss_one ?_
    refine ws_ret (α := (Cell × Int)) (we_end h (fun T h => ?_) (fun y h => ret_im h))
    refine we_pair ?_
    refine we_cut h (fun T h => ?_) (fun x12 h => ?_)
    · refine we_pair ?_
      refine we_cut h (fun T h => ?_) (fun x9 h => ?_)
      · refine we_sub ?_
        refine we_cut h (fun T h => ?_) (fun x8 h => ?_)
        · refine we_mul ?_
          refine we_var (α := Int) (i := 2) rfl rfl ?_
          refine we_var (α := Int) (i := 4) rfl rfl ?_
          exact ⟨of_decide_eq_true (chk_sat h).1, rfl, (chk_sat h).2⟩
        refine we_powC (k := 1000000000000) ?_
        exact ⟨rfl, h⟩
      refine we_cut h (fun T h => ?_) (fun x11 h => ?_)
      · refine we_sub ?_
        refine we_cut h (fun T h => ?_) (fun x10 h => ?_)
        · refine we_mul ?_
          refine we_var (α := Int) (i := 3) rfl rfl ?_
          refine we_var (α := Int) (i := 4) rfl rfl ?_
          exact ⟨of_decide_eq_true (chk_sat h).1, rfl, (chk_sat h).2⟩
        refine we_powC (k := 1000000000000) ?_
        exact ⟨rfl, h⟩
      exact ⟨rfl, h⟩
    refine we_var (α := Int) (i := 0) rfl rfl ?_
    exact ⟨rfl, h⟩
def m__law_board (a_number : Int) : R ((Tup Cell) × Int) :=
  (R.ok (a_number / 5, a_number % 5) : R Cell).bind fun p1 => (m__law_base (p1.1) : R (Cell × Int)).bind fun p2 => (R.ok (p2.2 / 6, p2.2 % 6) : R Cell).bind fun p3 => ((R.ok (eqB (p1.2) (0))).bind fun b4 => R.ite b4 (chk (rg1 (p3.2 + 1)) (R.fl (forR (S := Int × (List Cell)) (ρ := Empty) (fun (s6 : Int × (List Cell)) (y7 : Int) => (R.ok (s6.1 / 25, s6.1 % 25) : R Cell).bind fun p8 => (m__law_kept (p2.1.1 + (p8.2 / 5)) (p2.1.2 + (p8.2 % 5))).bind fun x9 => chk (decide ((s6.2).length < sizeLine)) (R.ok (.nx (p8.1, (putC s6.2 x9))))) (rangeL 0 (p3.2 + 1)) (p3.1, ([] : List Cell))) (fun (s10 : Int × (List Cell)) => R.ok (s10.1, s10.2)) (fun y => nomatch y))) (R.ok (p3.1, ([] : List Cell))) : R (Int × (List Cell))).bind fun (s5 : Int × (List Cell)) => ((R.ok (eqB (p1.2) (1))).bind fun b11 => R.ite b11 (chk (rg1 (1 + (p3.2 % 3))) (R.fl (forR (S := Int × (List Cell)) (ρ := Empty) (fun (s13 : Int × (List Cell)) (y14 : Int) => (R.ok (s13.1 / 4, s13.1 % 4) : R Cell).bind fun p15 => (R.ok (p15.1 / 5, p15.1 % 5) : R Cell).bind fun p16 => (R.ok (p16.1 / 5, p16.1 % 5) : R Cell).bind fun p17 => chk (rg1 (1 + p16.2)) (R.fl (forR (S := (List Cell)) (ρ := Empty) (fun (s18 : (List Cell)) (y19 : Int) => chk (rg1 (1 + p17.2)) (R.fl (forR (S := (List Cell)) (ρ := Empty) (fun (s20 : (List Cell)) (y21 : Int) => ((R.ok (memb y19 (((⟨[0, p16.2]⟩ : (Tup Int))).items))).bind fun c22 => R.ite c22 (R.ok true) (R.ok (memb y21 (((⟨[0, p17.2]⟩ : (Tup Int))).items)))).bind fun b23 => R.ite b23 ((m__law_kept ((p2.1.1 + p15.2) + y19) (((p2.1.2 + (3 * y14)) - p15.2) + y21)).bind fun x24 => chk (decide ((s20).length < sizeLine)) (R.ok (.nx (putC s20 x24)))) (R.ok (.nx s20))) (rangeL 0 (1 + p17.2)) s18) (fun (s25 : (List Cell)) => R.ok (.nx s25)) (fun y => nomatch y))) (rangeL 0 (1 + p16.2)) s13.2) (fun (s26 : (List Cell)) => R.ok (.nx (p17.1, s26))) (fun y => nomatch y))) (rangeL 0 (1 + (p3.2 % 3))) (s5.1, s5.2)) (fun (s27 : Int × (List Cell)) => R.ok (s27.1, s27.2)) (fun y => nomatch y))) (R.ok (s5.1, s5.2)) : R (Int × (List Cell))).bind fun (s12 : Int × (List Cell)) => ((R.ok (decide (1 < p1.2))).bind fun b28 => R.ite b28 (chk (rg1 (p3.2 + 1)) (R.fl (forR (S := Int × (List Cell)) (ρ := Empty) (fun (s30 : Int × (List Cell)) (y31 : Int) => (R.ok (s30.1 / 64, s30.1 % 64) : R Cell).bind fun p32 => chk (rg1 6) (R.fl (forR (S := (List Cell)) (ρ := Empty) (fun (s33 : (List Cell)) (y34 : Int) => (((chk (decide (0 ≤ y34)) (R.ok (p32.2 / 2 ^ (y34 : Int).toNat))).bind fun x35 => R.ok (Builtin.bitAnd x35 1)).bind fun x36 => R.ok (eqB x36 (1))).bind fun b37 => R.ite b37 ((m__law_kept (p2.1.1 + y31) (p2.1.2 + y34)).bind fun x38 => chk (decide ((s33).length < sizeLine)) (R.ok (.nx (putC s33 x38)))) (R.ok (.nx s33))) (rangeL 0 6) s30.2) (fun (s39 : (List Cell)) => R.ok (.nx (p32.1, s39))) (fun y => nomatch y))) (rangeL 0 (p3.2 + 1)) (s12.1, s12.2)) (fun (s40 : Int × (List Cell)) => R.ok (s40.1, s40.2)) (fun y => nomatch y))) (R.ok (s12.1, s12.2)) : R (Int × (List Cell))).bind fun (s29 : Int × (List Cell)) => (R.ok (s29.1 / 3, s29.1 % 3) : R Cell).bind fun p41 => chk (rg1 (min2 p41.2 ((s29.2).length : Int))) (R.fl (forR (S := Int × (List Cell)) (ρ := Empty) (fun (s42 : Int × (List Cell)) (y43 : Int) => (chk (decide (CDivW s42.1 ((s42.2).length : Int))) (R.ok (s42.1 / ((s42.2).length : Int), s42.1 % ((s42.2).length : Int))) : R Cell).bind fun p44 => (idx (sortS s42.2) p44.2).bind fun x45 => chk (decide (x45 ∈ s42.2)) (R.ok (.nx (p44.1, (popC s42.2 x45))))) (rangeL 0 (min2 p41.2 ((s29.2).length : Int))) (p41.1, s29.2)) (fun (s46 : Int × (List Cell)) => R.ok ((⟨(sortS s46.2)⟩ : (Tup Cell)), s46.1)) (fun y => nomatch y))
def fs__law_board : Fs := ⟨fun Γ m P PE => ∃ (a_number : Int), Γ = [im a_number] ∧ m = [] ∧ (m__law_board a_number).sat (fun y => P (im y) []) fun e => PE e []⟩
theorem ok__law_board (TX : Tx K mg) {fd : FuncData} (F : FD__law_board K fd) {fd__law_base : FuncData} (F__law_base : FD__law_base K fd__law_base) (OK__law_base : FnOk P w K mg base (L2.CX P w) 1 (He.ga K "_law_base") fd__law_base ["number"] (spF K fs__law_base)) {fd__law_kept : FuncData} (F__law_kept : FD__law_kept K fd__law_kept) (OK__law_kept : FnOk P w K mg base (L2.CX P w) 1 (He.ga K "_law_kept") fd__law_kept ["row", "column"] (spF K fs__law_kept)) : FnOk P w K mg base (L2.CX P w) 2 (He.ga K "_law_board") fd ["number"] (spF K fs__law_board) := by
  have SC := sc__law_board
  have FD_k__law_base := F__law_base.kp
  have BI__law_base := b__law_base F__law_base
  have FD_k__law_kept := F__law_kept.kp
  have BI__law_kept := b__law_kept F__law_kept
  refine fn_ok F sc__law_board (fun Γ m P PE h => ?_) (fun cdv A outer s H E B Γ m Pr PE hr h => ?_)
  · obtain ⟨_, rfl, _⟩ := h
    rfl
  · obtain ⟨a_number, rfl, rfl, h⟩ := h
    show WSs _ _ _ _ [im a_number, un, un, un, un, un, un, un, un, un, un, un, un, un] [] _
    refine wss_cons ?_
    refine ws_asgT (α := Cell) (tg_pair rfl (tg_name (α := Int) (i := 0) SC.nd rfl) (tg_name (α := Int) (i := 1) SC.nd rfl)) (we_cut h (fun T h => ?_) (fun p1 h => ?_))
    · refine we_divmod (z_divmod TX) ?_
      refine we_var (α := Int) (i := 0) rfl rfl ?_
      refine we_int ?_
      refine ⟨⟨by decide, by decide +kernel⟩, ?_⟩
      exact ⟨rfl, h⟩
    refine wss_cons ?_
    refine ws_asgT (α := (Cell × Int)) (tg_pair rfl (tg_name (α := Cell) (i := 2) SC.nd rfl) (tg_name (α := Int) (i := 0) SC.nd rfl)) (we_cut h (fun T h => ?_) (fun p2 h => ?_))
    · refine we_callV (γ := (Cell × Int)) (Γd := []) OK__law_base (hr.mono (by decide)) (g__law_base TX) FD_k__law_base BI__law_base .nil (fun _ _ => trivial) ?_
      refine wa_e (α := Int) ?_
      refine we_var (α := Int) (i := 0) rfl rfl ?_
      refine wa_nil ?_
      exact ⟨rfl, _, fun _ => .cons .im .nil, _, rfl, rfl, R.sat.imp h (fun _ _ h => cp_ok h) fun _ h => h⟩
    refine wss_cons ?_
    refine ws_setG (i := 3) SC.nd rfl (wg_dnew ?_)
    refine wss_cons ?_
    refine ws_asgT (α := Cell) (tg_pair rfl (tg_name (α := Int) (i := 0) SC.nd rfl) (tg_name (α := Int) (i := 4) SC.nd rfl)) (we_cut h (fun T h => ?_) (fun p3 h => ?_))
    · refine we_divmod (z_divmod TX) ?_
      refine we_var (α := Int) (i := 0) rfl rfl ?_
      refine we_int ?_
      refine ⟨⟨by decide, by decide +kernel⟩, ?_⟩
      exact ⟨rfl, h⟩
    refine wss_cons ?_
    refine ws_join (fun s5 : Int × (List Cell) => [im (s5.1 : Int), im (p1.2 : Int), im (p2.1 : Cell), mu 0, im (p3.2 : Int), un, un, un, un, un, un, un, un, un]) (fun s5 : Int × (List Cell) => [kd s5.2]) (fun _ => rfl) h (fun T h => ?_) (fun s5 h => ?_)
    · refine ws_if (wt_cut h (fun T h => ?_) (fun b4 h => ite_on h (fun hb h => ?_) (fun hb h => ?_)))
      · refine wt_wc ?_
        refine wc_eq Int hr.units ?_
        refine we_var (α := Int) (i := 1) rfl rfl ?_
        refine we_int ?_
        exact ⟨rfl, h⟩
      · refine wss_one ?_
        refine ws_for (S := Int × (List Cell)) (ρ := Empty) (fun (s6 : Int × (List Cell)) (y7 : Int) => (R.ok (s6.1 / 25, s6.1 % 25) : R Cell).bind fun p8 => (m__law_kept (p2.1.1 + (p8.2 / 5)) (p2.1.2 + (p8.2 % 5))).bind fun x9 => chk (decide ((s6.2).length < sizeLine)) (R.ok (.nx (p8.1, (putC s6.2 x9))))) (fun s6 => [im (s6.1 : Int), im (p1.2 : Int), im (p2.1 : Cell), mu 0, im (p3.2 : Int), un, un, un, un, un, un, un, un, un]) (fun s6 => [kd s6.2]) (fun (_ : Empty) _ _ => False) (passes_of rfl) rfl (tg_name (α := Int) (i := 5) SC.nd rfl) ?_
        refine wi_range1 (z_range TX) ?_
        refine we_add ?_
        refine we_var (α := Int) (i := 4) rfl rfl ?_
        refine we_int ?_
        refine chk_next h (fun hg h => ?_)
        refine ⟨(rg1_ok hg).1, (rg1_ok hg).2, ?_⟩
        refine for_on h (fun _ => rfl) ⟨.im (.im (.im (.mu (Nat.le_of_ble_eq_true rfl) (.im (.un (.un (.un (.un (.un (.un (.un (.un (.un .nil))))))))))))), rfl⟩ (fun s6 y7 T hm h => ?_) (fun s10 h => ?_) (fun y => nomatch y)
        · refine wss_cons ?_
          refine ws_asgT (α := Cell) (tg_pair rfl (tg_name (α := Int) (i := 0) SC.nd rfl) (tg_name (α := Int) (i := 6) SC.nd rfl)) (we_cut h (fun T h => ?_) (fun p8 h => ?_))
          · refine we_divmod (z_divmod TX) ?_
            refine we_var (α := Int) (i := 0) rfl rfl ?_
            refine we_int ?_
            refine ⟨⟨by decide, by decide +kernel⟩, ?_⟩
            exact ⟨rfl, h⟩
          refine wss_one ?_
          refine ws_dput (i := 3) (j := 0) hr.units rfl rfl ?_
          refine we_cut h (fun T h => ?_) (fun x9 h => ?_)
          · refine we_callV (γ := Cell) (Γd := []) OK__law_kept (hr.mono (by decide)) (g__law_kept TX) FD_k__law_kept BI__law_kept .nil (fun _ _ => trivial) ?_
            refine wa_e (α := Int) ?_
            refine we_add ?_
            refine we_fst (α := Int) (β := Int) ?_
            refine we_var (α := Cell) (i := 2) rfl rfl ?_
            refine we_fdiv ?_
            refine we_var (α := Int) (i := 6) rfl rfl ?_
            refine we_int ?_
            refine ⟨⟨by decide, by decide⟩, ?_⟩
            refine wa_e (α := Int) ?_
            refine we_add ?_
            refine we_snd (α := Int) (β := Int) ?_
            refine we_var (α := Cell) (i := 2) rfl rfl ?_
            refine we_mod ?_
            refine we_var (α := Int) (i := 6) rfl rfl ?_
            refine we_int ?_
            refine ⟨by decide, ?_⟩
            refine wa_nil ?_
            exact ⟨rfl, _, fun _ => .cons .im (.cons .im .nil), _, _, rfl, rfl, R.sat.imp h (fun _ _ h => cp_ok h) fun _ h => h⟩
          refine chk_next h (fun hl h => ?_)
          refine ⟨_, rfl, of_decide_eq_true hl, ?_⟩
          exact ⟨_, h, ⟨.im (.im (.im (.mu (Nat.le_of_ble_eq_true rfl) (.im (.un (.un (.un (.un (.un (.un (.un (.un (.un .nil))))))))))))), rfl⟩⟩
        exact ⟨_, h, ⟨.im (.im (.im (.mu (Nat.le_of_ble_eq_true rfl) (.im (.un (.un (.un (.un (.un (.un (.un (.un (.un .nil))))))))))))), rfl⟩⟩
      refine wss_nil ?_
      exact ⟨_, h, ⟨.im (.im (.im (.mu (Nat.le_of_ble_eq_true rfl) (.im (.un (.un (.un (.un (.un (.un (.un (.un (.un .nil))))))))))))), rfl⟩⟩
    refine wss_cons ?_
    refine ws_join (fun s12 : Int × (List Cell) => [im (s12.1 : Int), im (p1.2 : Int), im (p2.1 : Cell), mu 0, im (p3.2 : Int), un, un, un, un, un, un, un, un, un]) (fun s12 : Int × (List Cell) => [kd s12.2]) (fun _ => rfl) h (fun T h => ?_) (fun s12 h => ?_)
    · refine ws_if (wt_cut h (fun T h => ?_) (fun b11 h => ite_on h (fun hb h => ?_) (fun hb h => ?_)))
      · refine wt_wc ?_
        refine wc_eq Int hr.units ?_
        refine we_var (α := Int) (i := 1) rfl rfl ?_
        refine we_int ?_
        exact ⟨rfl, h⟩
      · refine wss_one ?_
        refine ws_for (S := Int × (List Cell)) (ρ := Empty) (fun (s13 : Int × (List Cell)) (y14 : Int) => (R.ok (s13.1 / 4, s13.1 % 4) : R Cell).bind fun p15 => (R.ok (p15.1 / 5, p15.1 % 5) : R Cell).bind fun p16 => (R.ok (p16.1 / 5, p16.1 % 5) : R Cell).bind fun p17 => chk (rg1 (1 + p16.2)) (R.fl (forR (S := (List Cell)) (ρ := Empty) (fun (s18 : (List Cell)) (y19 : Int) => chk (rg1 (1 + p17.2)) (R.fl (forR (S := (List Cell)) (ρ := Empty) (fun (s20 : (List Cell)) (y21 : Int) => ((R.ok (memb y19 (((⟨[0, p16.2]⟩ : (Tup Int))).items))).bind fun c22 => R.ite c22 (R.ok true) (R.ok (memb y21 (((⟨[0, p17.2]⟩ : (Tup Int))).items)))).bind fun b23 => R.ite b23 ((m__law_kept ((p2.1.1 + p15.2) + y19) (((p2.1.2 + (3 * y14)) - p15.2) + y21)).bind fun x24 => chk (decide ((s20).length < sizeLine)) (R.ok (.nx (putC s20 x24)))) (R.ok (.nx s20))) (rangeL 0 (1 + p17.2)) s18) (fun (s25 : (List Cell)) => R.ok (.nx s25)) (fun y => nomatch y))) (rangeL 0 (1 + p16.2)) s13.2) (fun (s26 : (List Cell)) => R.ok (.nx (p17.1, s26))) (fun y => nomatch y))) (fun s13 => [im (s13.1 : Int), im (p1.2 : Int), im (p2.1 : Cell), mu 0, im (p3.2 : Int), un, un, un, un, un, un, un, un, un]) (fun s13 => [kd s13.2]) (fun (_ : Empty) _ _ => False) (passes_of rfl) rfl (tg_name (α := Int) (i := 5) SC.nd rfl) ?_
        refine wi_range1 (z_range TX) ?_
        refine we_add ?_
        refine we_int ?_
        refine we_mod ?_
        refine we_var (α := Int) (i := 4) rfl rfl ?_
        refine we_int ?_
        refine ⟨by decide, ?_⟩
        refine chk_next h (fun hg h => ?_)
        refine ⟨(rg1_ok hg).1, (rg1_ok hg).2, ?_⟩
        refine for_on h (fun _ => rfl) ⟨.im (.im (.im (.mu (Nat.le_of_ble_eq_true rfl) (.im (.un (.un (.un (.un (.un (.un (.un (.un (.un .nil))))))))))))), rfl⟩ (fun s13 y14 T hm h => ?_) (fun s27 h => ?_) (fun y => nomatch y)
        · refine wss_cons ?_
          refine ws_asgT (α := Cell) (tg_pair rfl (tg_name (α := Int) (i := 0) SC.nd rfl) (tg_name (α := Int) (i := 7) SC.nd rfl)) (we_cut h (fun T h => ?_) (fun p15 h => ?_))
          · refine we_divmod (z_divmod TX) ?_
            refine we_var (α := Int) (i := 0) rfl rfl ?_
            refine we_int ?_
            refine ⟨⟨by decide, by decide +kernel⟩, ?_⟩
            exact ⟨rfl, h⟩
          refine wss_cons ?_
          refine ws_asgT (α := Cell) (tg_pair rfl (tg_name (α := Int) (i := 0) SC.nd rfl) (tg_name (α := Int) (i := 8) SC.nd rfl)) (we_cut h (fun T h => ?_) (fun p16 h => ?_))
          · refine we_divmod (z_divmod TX) ?_
            refine we_var (α := Int) (i := 0) rfl rfl ?_
            refine we_int ?_
            refine ⟨⟨by decide, by decide +kernel⟩, ?_⟩
            exact ⟨rfl, h⟩
          refine wss_cons ?_
          refine ws_asgT (α := Cell) (tg_pair rfl (tg_name (α := Int) (i := 0) SC.nd rfl) (tg_name (α := Int) (i := 9) SC.nd rfl)) (we_cut h (fun T h => ?_) (fun p17 h => ?_))
          · refine we_divmod (z_divmod TX) ?_
            refine we_var (α := Int) (i := 0) rfl rfl ?_
            refine we_int ?_
            refine ⟨⟨by decide, by decide +kernel⟩, ?_⟩
            exact ⟨rfl, h⟩
          refine wss_one ?_
          refine ws_for (S := (List Cell)) (ρ := Empty) (fun (s18 : (List Cell)) (y19 : Int) => chk (rg1 (1 + p17.2)) (R.fl (forR (S := (List Cell)) (ρ := Empty) (fun (s20 : (List Cell)) (y21 : Int) => ((R.ok (memb y19 (((⟨[0, p16.2]⟩ : (Tup Int))).items))).bind fun c22 => R.ite c22 (R.ok true) (R.ok (memb y21 (((⟨[0, p17.2]⟩ : (Tup Int))).items)))).bind fun b23 => R.ite b23 ((m__law_kept ((p2.1.1 + p15.2) + y19) (((p2.1.2 + (3 * y14)) - p15.2) + y21)).bind fun x24 => chk (decide ((s20).length < sizeLine)) (R.ok (.nx (putC s20 x24)))) (R.ok (.nx s20))) (rangeL 0 (1 + p17.2)) s18) (fun (s25 : (List Cell)) => R.ok (.nx s25)) (fun y => nomatch y))) (fun s18 => [im (p17.1 : Int), im (p1.2 : Int), im (p2.1 : Cell), mu 0, im (p3.2 : Int), im y14, un, im (p15.2 : Int), im (p16.2 : Int), im (p17.2 : Int), un, un, un, un]) (fun s18 => [kd s18]) (fun (_ : Empty) _ _ => False) (passes_of rfl) rfl (tg_name (α := Int) (i := 10) SC.nd rfl) ?_
          refine wi_range1 (z_range TX) ?_
          refine we_add ?_
          refine we_int ?_
          refine we_var (α := Int) (i := 8) rfl rfl ?_
          refine chk_next h (fun hg h => ?_)
          refine ⟨(rg1_ok hg).1, (rg1_ok hg).2, ?_⟩
          refine for_on h (fun _ => rfl) ⟨.im (.im (.im (.mu (Nat.le_of_ble_eq_true rfl) (.im (.im (.un (.im (.im (.im (.un (.un (.un (.un .nil))))))))))))), rfl⟩ (fun s18 y19 T hm h => ?_) (fun s26 h => ?_) (fun y => nomatch y)
          · refine wss_one ?_
            refine ws_for (S := (List Cell)) (ρ := Empty) (fun (s20 : (List Cell)) (y21 : Int) => ((R.ok (memb y19 (((⟨[0, p16.2]⟩ : (Tup Int))).items))).bind fun c22 => R.ite c22 (R.ok true) (R.ok (memb y21 (((⟨[0, p17.2]⟩ : (Tup Int))).items)))).bind fun b23 => R.ite b23 ((m__law_kept ((p2.1.1 + p15.2) + y19) (((p2.1.2 + (3 * y14)) - p15.2) + y21)).bind fun x24 => chk (decide ((s20).length < sizeLine)) (R.ok (.nx (putC s20 x24)))) (R.ok (.nx s20))) (fun s20 => [im (p17.1 : Int), im (p1.2 : Int), im (p2.1 : Cell), mu 0, im (p3.2 : Int), im y14, un, im (p15.2 : Int), im (p16.2 : Int), im (p17.2 : Int), im y19, un, un, un]) (fun s20 => [kd s20]) (fun (_ : Empty) _ _ => False) (passes_of rfl) rfl (tg_name (α := Int) (i := 11) SC.nd rfl) ?_
            refine wi_range1 (z_range TX) ?_
            refine we_add ?_
            refine we_int ?_
            refine we_var (α := Int) (i := 9) rfl rfl ?_
            refine chk_next h (fun hg h => ?_)
            refine ⟨(rg1_ok hg).1, (rg1_ok hg).2, ?_⟩
            refine for_on h (fun _ => rfl) ⟨.im (.im (.im (.mu (Nat.le_of_ble_eq_true rfl) (.im (.im (.un (.im (.im (.im (.im (.un (.un (.un .nil))))))))))))), rfl⟩ (fun s20 y21 T hm h => ?_) (fun s25 h => ?_) (fun y => nomatch y)
            · refine wss_one ?_
              refine ws_if (wt_cut h (fun T h => ?_) (fun b23 h => ite_on h (fun hb h => ?_) (fun hb h => ?_)))
              · refine wt_ww ?_
                refine ww_or (wt_cut h (fun T h => ?_) (fun c h => ite_on h (fun hc h => ⟨rfl, h⟩) (fun hc h => ?_)))
                · refine wt_wc ?_
                  refine wc_inQ (α := Int) (room128 hr) ?_
                  refine we_var (α := Int) (i := 10) rfl rfl ?_
                  refine wsr_t ?_
                  refine we_tupL (α := Int) ?_
                  refine wl_cons ?_
                  refine we_int ?_
                  refine wl_cons ?_
                  refine we_var (α := Int) (i := 8) rfl rfl ?_
                  refine wl_nil ?_
                  refine ⟨by show (2 : Nat) ≤ sizeLine; decide, ?_⟩
                  exact ⟨rfl, h⟩
                refine ww_or1 ?_
                refine wt_wc ?_
                refine wc_inQ (α := Int) (room128 hr) ?_
                refine we_var (α := Int) (i := 11) rfl rfl ?_
                refine wsr_t ?_
                refine we_tupL (α := Int) ?_
                refine wl_cons ?_
                refine we_int ?_
                refine wl_cons ?_
                refine we_var (α := Int) (i := 9) rfl rfl ?_
                refine wl_nil ?_
                refine ⟨by show (2 : Nat) ≤ sizeLine; decide, ?_⟩
                exact ⟨rfl, h⟩
              · refine wss_one ?_
                refine ws_dput (i := 3) (j := 0) hr.units rfl rfl ?_
                refine we_cut h (fun T h => ?_) (fun x24 h => ?_)
                · refine we_callV (γ := Cell) (Γd := []) OK__law_kept (hr.mono (by decide)) (g__law_kept TX) FD_k__law_kept BI__law_kept .nil (fun _ _ => trivial) ?_
                  refine wa_e (α := Int) ?_
                  refine we_add ?_
                  refine we_add ?_
                  refine we_fst (α := Int) (β := Int) ?_
                  refine we_var (α := Cell) (i := 2) rfl rfl ?_
                  refine we_var (α := Int) (i := 7) rfl rfl ?_
                  refine we_var (α := Int) (i := 10) rfl rfl ?_
                  refine wa_e (α := Int) ?_
                  refine we_add ?_
                  refine we_sub ?_
                  refine we_add ?_
                  refine we_snd (α := Int) (β := Int) ?_
                  refine we_var (α := Cell) (i := 2) rfl rfl ?_
                  refine we_mul ?_
                  refine we_int ?_
                  refine we_var (α := Int) (i := 5) rfl rfl ?_
                  refine ⟨.inl ⟨by decide, by decide⟩, ?_⟩
                  refine we_var (α := Int) (i := 7) rfl rfl ?_
                  refine we_var (α := Int) (i := 11) rfl rfl ?_
                  refine wa_nil ?_
                  exact ⟨rfl, _, fun _ => .cons .im (.cons .im .nil), _, _, rfl, rfl, R.sat.imp h (fun _ _ h => cp_ok h) fun _ h => h⟩
                refine chk_next h (fun hl h => ?_)
                refine ⟨_, rfl, of_decide_eq_true hl, ?_⟩
                exact ⟨_, h, ⟨.im (.im (.im (.mu (Nat.le_of_ble_eq_true rfl) (.im (.im (.un (.im (.im (.im (.im (.un (.un (.un .nil))))))))))))), rfl⟩⟩
              refine wss_nil ?_
              exact ⟨_, h, ⟨.im (.im (.im (.mu (Nat.le_of_ble_eq_true rfl) (.im (.im (.un (.im (.im (.im (.im (.un (.un (.un .nil))))))))))))), rfl⟩⟩
            exact ⟨_, h, ⟨.im (.im (.im (.mu (Nat.le_of_ble_eq_true rfl) (.im (.im (.un (.im (.im (.im (.un (.un (.un (.un .nil))))))))))))), rfl⟩⟩
          exact ⟨_, h, ⟨.im (.im (.im (.mu (Nat.le_of_ble_eq_true rfl) (.im (.un (.un (.un (.un (.un (.un (.un (.un (.un .nil))))))))))))), rfl⟩⟩
        exact ⟨_, h, ⟨.im (.im (.im (.mu (Nat.le_of_ble_eq_true rfl) (.im (.un (.un (.un (.un (.un (.un (.un (.un (.un .nil))))))))))))), rfl⟩⟩
      refine wss_nil ?_
      exact ⟨_, h, ⟨.im (.im (.im (.mu (Nat.le_of_ble_eq_true rfl) (.im (.un (.un (.un (.un (.un (.un (.un (.un (.un .nil))))))))))))), rfl⟩⟩
    refine wss_cons ?_
    refine ws_join (fun s29 : Int × (List Cell) => [im (s29.1 : Int), im (p1.2 : Int), im (p2.1 : Cell), mu 0, im (p3.2 : Int), un, un, un, un, un, un, un, un, un]) (fun s29 : Int × (List Cell) => [kd s29.2]) (fun _ => rfl) h (fun T h => ?_) (fun s29 h => ?_)
    · refine ws_if (wt_cut h (fun T h => ?_) (fun b28 h => ite_on h (fun hb h => ?_) (fun hb h => ?_)))
      · refine wt_wc ?_
        refine wc_gt ?_
        refine we_var (α := Int) (i := 1) rfl rfl ?_
        refine we_int ?_
        exact ⟨rfl, h⟩
      · refine wss_one ?_
        refine ws_for (S := Int × (List Cell)) (ρ := Empty) (fun (s30 : Int × (List Cell)) (y31 : Int) => (R.ok (s30.1 / 64, s30.1 % 64) : R Cell).bind fun p32 => chk (rg1 6) (R.fl (forR (S := (List Cell)) (ρ := Empty) (fun (s33 : (List Cell)) (y34 : Int) => (((chk (decide (0 ≤ y34)) (R.ok (p32.2 / 2 ^ (y34 : Int).toNat))).bind fun x35 => R.ok (Builtin.bitAnd x35 1)).bind fun x36 => R.ok (eqB x36 (1))).bind fun b37 => R.ite b37 ((m__law_kept (p2.1.1 + y31) (p2.1.2 + y34)).bind fun x38 => chk (decide ((s33).length < sizeLine)) (R.ok (.nx (putC s33 x38)))) (R.ok (.nx s33))) (rangeL 0 6) s30.2) (fun (s39 : (List Cell)) => R.ok (.nx (p32.1, s39))) (fun y => nomatch y))) (fun s30 => [im (s30.1 : Int), im (p1.2 : Int), im (p2.1 : Cell), mu 0, im (p3.2 : Int), un, un, un, un, un, un, un, un, un]) (fun s30 => [kd s30.2]) (fun (_ : Empty) _ _ => False) (passes_of rfl) rfl (tg_name (α := Int) (i := 10) SC.nd rfl) ?_
        refine wi_range1 (z_range TX) ?_
        refine we_add ?_
        refine we_var (α := Int) (i := 4) rfl rfl ?_
        refine we_int ?_
        refine chk_next h (fun hg h => ?_)
        refine ⟨(rg1_ok hg).1, (rg1_ok hg).2, ?_⟩
        refine for_on h (fun _ => rfl) ⟨.im (.im (.im (.mu (Nat.le_of_ble_eq_true rfl) (.im (.un (.un (.un (.un (.un (.un (.un (.un (.un .nil))))))))))))), rfl⟩ (fun s30 y31 T hm h => ?_) (fun s40 h => ?_) (fun y => nomatch y)
        · refine wss_cons ?_
          refine ws_asgT (α := Cell) (tg_pair rfl (tg_name (α := Int) (i := 0) SC.nd rfl) (tg_name (α := Int) (i := 12) SC.nd rfl)) (we_cut h (fun T h => ?_) (fun p32 h => ?_))
          · refine we_divmod (z_divmod TX) ?_
            refine we_var (α := Int) (i := 0) rfl rfl ?_
            refine we_int ?_
            refine ⟨⟨by decide, by decide +kernel⟩, ?_⟩
            exact ⟨rfl, h⟩
          refine wss_one ?_
          refine ws_for (S := (List Cell)) (ρ := Empty) (fun (s33 : (List Cell)) (y34 : Int) => (((chk (decide (0 ≤ y34)) (R.ok (p32.2 / 2 ^ (y34 : Int).toNat))).bind fun x35 => R.ok (Builtin.bitAnd x35 1)).bind fun x36 => R.ok (eqB x36 (1))).bind fun b37 => R.ite b37 ((m__law_kept (p2.1.1 + y31) (p2.1.2 + y34)).bind fun x38 => chk (decide ((s33).length < sizeLine)) (R.ok (.nx (putC s33 x38)))) (R.ok (.nx s33))) (fun s33 => [im (p32.1 : Int), im (p1.2 : Int), im (p2.1 : Cell), mu 0, im (p3.2 : Int), un, un, un, un, un, im y31, un, im (p32.2 : Int), un]) (fun s33 => [kd s33]) (fun (_ : Empty) _ _ => False) (passes_of rfl) rfl (tg_name (α := Int) (i := 11) SC.nd rfl) ?_
          refine wi_range1 (z_range TX) ?_
          refine we_int ?_
          refine chk_next h (fun hg h => ?_)
          refine ⟨(rg1_ok hg).1, (rg1_ok hg).2, ?_⟩
          refine for_on h (fun _ => rfl) ⟨.im (.im (.im (.mu (Nat.le_of_ble_eq_true rfl) (.im (.un (.un (.un (.un (.un (.im (.un (.im (.un .nil))))))))))))), rfl⟩ (fun s33 y34 T hm h => ?_) (fun s39 h => ?_) (fun y => nomatch y)
          · refine wss_one ?_
            refine ws_if (wt_cut h (fun T h => ?_) (fun b37 h => ite_on h (fun hb h => ?_) (fun hb h => ?_)))
            · refine wt_wc ?_
              refine wc_eq Int hr.units ?_
              refine we_cut h (fun T h => ?_) (fun x36 h => ?_)
              · refine we_and ?_
                refine we_cut h (fun T h => ?_) (fun x35 h => ?_)
                · refine we_shr ?_
                  refine we_var (α := Int) (i := 12) rfl rfl ?_
                  refine we_var (α := Int) (i := 11) rfl rfl ?_
                  exact ⟨of_decide_eq_true (chk_sat h).1, rfl, (chk_sat h).2⟩
                refine we_int ?_
                exact ⟨rfl, h⟩
              refine we_int ?_
              exact ⟨rfl, h⟩
            · refine wss_one ?_
              refine ws_dput (i := 3) (j := 0) hr.units rfl rfl ?_
              refine we_cut h (fun T h => ?_) (fun x38 h => ?_)
              · refine we_callV (γ := Cell) (Γd := []) OK__law_kept (hr.mono (by decide)) (g__law_kept TX) FD_k__law_kept BI__law_kept .nil (fun _ _ => trivial) ?_
                refine wa_e (α := Int) ?_
                refine we_add ?_
                refine we_fst (α := Int) (β := Int) ?_
                refine we_var (α := Cell) (i := 2) rfl rfl ?_
                refine we_var (α := Int) (i := 10) rfl rfl ?_
                refine wa_e (α := Int) ?_
                refine we_add ?_
                refine we_snd (α := Int) (β := Int) ?_
                refine we_var (α := Cell) (i := 2) rfl rfl ?_
                refine we_var (α := Int) (i := 11) rfl rfl ?_
                refine wa_nil ?_
                exact ⟨rfl, _, fun _ => .cons .im (.cons .im .nil), _, _, rfl, rfl, R.sat.imp h (fun _ _ h => cp_ok h) fun _ h => h⟩
              refine chk_next h (fun hl h => ?_)
              refine ⟨_, rfl, of_decide_eq_true hl, ?_⟩
              exact ⟨_, h, ⟨.im (.im (.im (.mu (Nat.le_of_ble_eq_true rfl) (.im (.un (.un (.un (.un (.un (.im (.un (.im (.un .nil))))))))))))), rfl⟩⟩
            refine wss_nil ?_
            exact ⟨_, h, ⟨.im (.im (.im (.mu (Nat.le_of_ble_eq_true rfl) (.im (.un (.un (.un (.un (.un (.im (.un (.im (.un .nil))))))))))))), rfl⟩⟩
          exact ⟨_, h, ⟨.im (.im (.im (.mu (Nat.le_of_ble_eq_true rfl) (.im (.un (.un (.un (.un (.un (.un (.un (.un (.un .nil))))))))))))), rfl⟩⟩
        exact ⟨_, h, ⟨.im (.im (.im (.mu (Nat.le_of_ble_eq_true rfl) (.im (.un (.un (.un (.un (.un (.un (.un (.un (.un .nil))))))))))))), rfl⟩⟩
      refine wss_nil ?_
      exact ⟨_, h, ⟨.im (.im (.im (.mu (Nat.le_of_ble_eq_true rfl) (.im (.un (.un (.un (.un (.un (.un (.un (.un (.un .nil))))))))))))), rfl⟩⟩
    refine wss_cons ?_
    refine ws_asgT (α := Cell) (tg_pair rfl (tg_name (α := Int) (i := 0) SC.nd rfl) (tg_name (α := Int) (i := 13) SC.nd rfl)) (we_cut h (fun T h => ?_) (fun p41 h => ?_))
    · refine we_divmod (z_divmod TX) ?_
      refine we_var (α := Int) (i := 0) rfl rfl ?_
      refine we_int ?_
      refine ⟨⟨by decide, by decide +kernel⟩, ?_⟩
      exact ⟨rfl, h⟩
    refine wss_cons ?_
    refine ws_for (S := Int × (List Cell)) (ρ := Empty) (fun (s42 : Int × (List Cell)) (y43 : Int) => (chk (decide (CDivW s42.1 ((s42.2).length : Int))) (R.ok (s42.1 / ((s42.2).length : Int), s42.1 % ((s42.2).length : Int))) : R Cell).bind fun p44 => (idx (sortS s42.2) p44.2).bind fun x45 => chk (decide (x45 ∈ s42.2)) (R.ok (.nx (p44.1, (popC s42.2 x45))))) (fun s42 => [im (s42.1 : Int), im (p1.2 : Int), im (p2.1 : Cell), mu 0, im (p3.2 : Int), un, un, un, un, un, un, un, un, im (p41.2 : Int)]) (fun s42 => [kd s42.2]) (fun (_ : Empty) _ _ => False) (passes_of rfl) rfl (tg_name (α := Int) (i := 5) SC.nd rfl) ?_
    refine wi_range1 (z_range TX) ?_
    refine we_min2 rfl (z_min TX) ?_
    refine we_var (α := Int) (i := 13) rfl rfl ?_
    refine we_lenC (i := 3) (j := 0) (z_len TX) rfl rfl rfl ?_
    refine chk_next h (fun hg h => ?_)
    refine ⟨(rg1_ok hg).1, (rg1_ok hg).2, ?_⟩
    refine for_on h (fun _ => rfl) ⟨.im (.im (.im (.mu (Nat.le_of_ble_eq_true rfl) (.im (.un (.un (.un (.un (.un (.un (.un (.un (.im .nil))))))))))))), rfl⟩ (fun s42 y43 T hm h => ?_) (fun s46 h => ?_) (fun y => nomatch y)
    · refine wss_cons ?_
      refine ws_asgT (α := Cell) (tg_pair rfl (tg_name (α := Int) (i := 0) SC.nd rfl) (tg_name (α := Int) (i := 6) SC.nd rfl)) (we_cut h (fun T h => ?_) (fun p44 h => ?_))
      · refine we_divmod (z_divmod TX) ?_
        refine we_var (α := Int) (i := 0) rfl rfl ?_
        refine we_lenC (i := 3) (j := 0) (z_len TX) rfl rfl rfl ?_
        exact ⟨of_decide_eq_true (chk_sat h).1, rfl, (chk_sat h).2⟩
      refine wss_one ?_
      refine ws_expr (α := Bool) (we_dpop (i := 3) (j := 0) hr.units rfl rfl rfl ?_)
      refine we_cut h (fun T h => ?_) (fun x45 h => ?_)
      · refine we_ixL (α := Cell) ?_
        refine we_sorted (α := Cell) rfl (room128 hr) (z_sorted TX) ?_
        refine wsr_kd (i := 3) (j := 0) rfl rfl rfl ?_
        refine we_var (α := Int) (i := 6) rfl rfl ?_
        exact idx_fin h
      refine chk_next h (fun hl h => ?_)
      refine ⟨_, rfl, of_decide_eq_true hl, ?_⟩
      exact ⟨_, h, ⟨.im (.im (.im (.mu (Nat.le_of_ble_eq_true rfl) (.im (.un (.un (.un (.un (.un (.un (.un (.un (.im .nil))))))))))))), rfl⟩⟩
    refine wss_one ?_
    refine ws_ret (α := ((Tup Cell) × Int)) (we_end h (fun T h => ?_) (fun y h => ret_im h))
    refine we_pair ?_
    refine we_tupQ (α := Cell) (z_tuple TX) ?_
    refine wsr_l ?_
    refine we_sorted (α := Cell) rfl (room128 hr) (z_sorted TX) ?_
    refine wsr_kd (i := 3) (j := 0) rfl rfl rfl ?_
    refine we_var (α := Int) (i := 0) rfl rfl ?_
    exact ⟨rfl, h⟩
def m__law_fallen (a_cells : (List Cell)) (a_sides : Bool) : R (List (Tup Cell)) :=
  R.fl (forR (S := (List Cell)) (ρ := Empty) (fun (s1 : (List Cell)) (y2 : Cell) => chk (decide ((s1).length < sizeLine)) (R.ok (.nx (putC s1 y2)))) a_cells ([] : List Cell)) (fun (s3 : (List Cell)) => R.fl (forR (S := (List (Tup Cell)) × (List Cell)) (ρ := Empty) (fun (s4 : (List (Tup Cell)) × (List Cell)) (y5 : Cell) => (R.ok (memb y5 (s4.2))).bind fun b6 => R.ite b6 (chk (decide (y5 ∈ s4.2)) ((R.ok (0) : R Int).bind fun at_7 => R.fl (whileR (S := Int × (List Cell) × (List Cell)) (ρ := Empty) (fun (s8 : Int × (List Cell) × (List Cell)) => R.ok (decide (s8.1 < ((s8.2.2).length : Int)))) (fun (s8 : Int × (List Cell) × (List Cell)) => R.fl (forR (S := (List Cell) × (List Cell)) (ρ := Empty) (fun (s9 : (List Cell) × (List Cell)) (y10 : Int) => R.fl (forR (S := (List Cell) × (List Cell)) (ρ := Empty) (fun (s11 : (List Cell) × (List Cell)) (y12 : Int) => ((((idx s11.2 s8.1).bind fun x13 => R.ok (x13).1).bind fun x14 => R.ok (x14 + y10)).bind fun x15 => (((idx s11.2 s8.1).bind fun x16 => R.ok (x16).2).bind fun x17 => R.ok (x17 + y12)).bind fun x18 => R.ok (x15, x18) : R Cell).bind fun near_19 => ((R.ok (memb near_19 (s11.1))).bind fun c23 => R.ite c23 (((R.ok a_sides).bind fun c21 => R.ite c21 ((chk (decide (CMul y10 y12)) (R.ok (y10 * y12))).bind fun x20 => R.ok (neB x20 (0))) (R.ok false)).bind fun c22 => R.ok (!c22)) (R.ok false)).bind fun b24 => R.ite b24 (chk (decide (near_19 ∈ s11.1)) (chk (decide ((s11.2).length < sizeLine)) (R.ok (.nx ((popC s11.1 near_19), (s11.2 ++ [near_19])))))) (R.ok (.nx (s11.1, s11.2)))) ((⟨[(-1), 0, 1]⟩ : (Tup Int))).items (s9.1, s9.2)) (fun (s25 : (List Cell) × (List Cell)) => R.ok (.nx (s25.1, s25.2))) (fun y => nomatch y)) ((⟨[(-1), 0, 1]⟩ : (Tup Int))).items (s8.2.1, s8.2.2)) (fun (s26 : (List Cell) × (List Cell)) => (R.ok (s8.1 + 1) : R Int).bind fun at_27 => R.ok (.nx (at_27, s26.1, s26.2))) (fun y => nomatch y)) 100 (at_7, (popC s4.2 y5), ([y5] : (List Cell)))) (fun (s28 : Int × (List Cell) × (List Cell)) => chk (decide ((s4.1).length < sizeLine)) (R.ok (.nx ((s4.1 ++ [(⟨(sortS s28.2.2)⟩ : (Tup Cell))]), s28.2.1)))) (fun y => nomatch y))) (R.ok (.nx (s4.1, s4.2)))) (sortS a_cells) (([] : (List (Tup Cell))), s3)) (fun (s29 : (List (Tup Cell)) × (List Cell)) => R.ok (s29.1)) (fun y => nomatch y)) (fun y => nomatch y)
def fs__law_fallen : Fs := ⟨fun Γ m P PE => ∃ (a_cells : (List Cell)) (a_sides : Bool), Γ = [im a_cells, im a_sides] ∧ m = [] ∧ (m__law_fallen a_cells a_sides).sat (fun y => P (im y) []) fun e => PE e []⟩
theorem ok__law_fallen (TX : Tx K mg) {fd : FuncData} (F : FD__law_fallen K fd) : FnOk P w K mg base (L2.CX P w) 1 (He.ga K "_law_fallen") fd ["cells", "sides"] (spF K fs__law_fallen) := by
  have SC := sc__law_fallen
  refine fn_ok F sc__law_fallen (fun Γ m P PE h => ?_) (fun cdv A outer s H E B Γ m Pr PE hr h => ?_)
  · obtain ⟨_, _, rfl, _⟩ := h
    rfl
  · obtain ⟨a_cells, a_sides, rfl, rfl, h⟩ := h
    show WSs _ _ _ _ [im a_cells, im a_sides, un, un, un, un, un, un, un, un] [] _
    refine wss_cons ?_
    refine ws_setG (i := 2) SC.nd rfl (wg_dnew ?_)
    refine wss_cons ?_
    refine ws_for (S := (List Cell)) (ρ := Empty) (fun (s1 : (List Cell)) (y2 : Cell) => chk (decide ((s1).length < sizeLine)) (R.ok (.nx (putC s1 y2)))) (fun s1 => [im a_cells, im a_sides, mu 0, un, un, un, un, un, un, un]) (fun s1 => [kd s1]) (fun (_ : Empty) _ _ => False) (passes_of rfl) rfl (tg_name (α := Cell) (i := 3) SC.nd rfl) ?_
    refine wi_list ?_
    refine we_var (α := (List Cell)) (i := 0) rfl rfl ?_
    refine for_on h (fun _ => rfl) ⟨.im (.im (.mu (Nat.le_of_ble_eq_true rfl) (.un (.un (.un (.un (.un (.un (.un .nil))))))))), rfl⟩ (fun s1 y2 T hm h => ?_) (fun s3 h => ?_) (fun y => nomatch y)
    · refine wss_one ?_
      refine ws_dput (i := 2) (j := 0) hr.units rfl rfl ?_
      refine we_var (α := Cell) (i := 3) rfl rfl ?_
      refine chk_next h (fun hl h => ?_)
      refine ⟨_, rfl, of_decide_eq_true hl, ?_⟩
      exact ⟨_, h, ⟨.im (.im (.mu (Nat.le_of_ble_eq_true rfl) (.un (.un (.un (.un (.un (.un (.un .nil))))))))), rfl⟩⟩
    refine wss_cons ?_
    refine ws_setG (i := 4) SC.nd rfl (wg_list (α := (Tup Cell)) ?_)
    refine wl_nil ?_
    refine ⟨by show (0 : Nat) ≤ sizeLine; decide, ?_⟩
    refine wss_cons ?_
    refine ws_for (S := (List (Tup Cell)) × (List Cell)) (ρ := Empty) (fun (s4 : (List (Tup Cell)) × (List Cell)) (y5 : Cell) => (R.ok (memb y5 (s4.2))).bind fun b6 => R.ite b6 (chk (decide (y5 ∈ s4.2)) ((R.ok (0) : R Int).bind fun at_7 => R.fl (whileR (S := Int × (List Cell) × (List Cell)) (ρ := Empty) (fun (s8 : Int × (List Cell) × (List Cell)) => R.ok (decide (s8.1 < ((s8.2.2).length : Int)))) (fun (s8 : Int × (List Cell) × (List Cell)) => R.fl (forR (S := (List Cell) × (List Cell)) (ρ := Empty) (fun (s9 : (List Cell) × (List Cell)) (y10 : Int) => R.fl (forR (S := (List Cell) × (List Cell)) (ρ := Empty) (fun (s11 : (List Cell) × (List Cell)) (y12 : Int) => ((((idx s11.2 s8.1).bind fun x13 => R.ok (x13).1).bind fun x14 => R.ok (x14 + y10)).bind fun x15 => (((idx s11.2 s8.1).bind fun x16 => R.ok (x16).2).bind fun x17 => R.ok (x17 + y12)).bind fun x18 => R.ok (x15, x18) : R Cell).bind fun near_19 => ((R.ok (memb near_19 (s11.1))).bind fun c23 => R.ite c23 (((R.ok a_sides).bind fun c21 => R.ite c21 ((chk (decide (CMul y10 y12)) (R.ok (y10 * y12))).bind fun x20 => R.ok (neB x20 (0))) (R.ok false)).bind fun c22 => R.ok (!c22)) (R.ok false)).bind fun b24 => R.ite b24 (chk (decide (near_19 ∈ s11.1)) (chk (decide ((s11.2).length < sizeLine)) (R.ok (.nx ((popC s11.1 near_19), (s11.2 ++ [near_19])))))) (R.ok (.nx (s11.1, s11.2)))) ((⟨[(-1), 0, 1]⟩ : (Tup Int))).items (s9.1, s9.2)) (fun (s25 : (List Cell) × (List Cell)) => R.ok (.nx (s25.1, s25.2))) (fun y => nomatch y)) ((⟨[(-1), 0, 1]⟩ : (Tup Int))).items (s8.2.1, s8.2.2)) (fun (s26 : (List Cell) × (List Cell)) => (R.ok (s8.1 + 1) : R Int).bind fun at_27 => R.ok (.nx (at_27, s26.1, s26.2))) (fun y => nomatch y)) 100 (at_7, (popC s4.2 y5), ([y5] : (List Cell)))) (fun (s28 : Int × (List Cell) × (List Cell)) => chk (decide ((s4.1).length < sizeLine)) (R.ok (.nx ((s4.1 ++ [(⟨(sortS s28.2.2)⟩ : (Tup Cell))]), s28.2.1)))) (fun y => nomatch y))) (R.ok (.nx (s4.1, s4.2)))) (fun s4 => [im a_cells, im a_sides, mu 0, un, mu 1, un, un, un, un, un]) (fun s4 => [kd s4.2, lst s4.1]) (fun (_ : Empty) _ _ => False) (passes_of rfl) rfl (tg_name (α := Cell) (i := 3) SC.nd rfl) ?_
    refine wi_list ?_
    refine we_sorted (α := Cell) rfl (room128 hr) (z_sorted TX) ?_
    refine wsr_l ?_
    refine we_var (α := (List Cell)) (i := 0) rfl rfl ?_
    refine for_on h (fun _ => rfl) ⟨.im (.im (.mu (Nat.le_of_ble_eq_true rfl) (.un (.mu (Nat.le_of_ble_eq_true rfl) (.un (.un (.un (.un (.un .nil))))))))), rfl⟩ (fun s4 y5 T hm h => ?_) (fun s29 h => ?_) (fun y => nomatch y)
    · refine wss_one ?_
      refine ws_if (wt_cut h (fun T h => ?_) (fun b6 h => ite_on h (fun hb h => ?_) (fun hb h => ?_)))
      · refine wt_wc ?_
        refine wc_inC (i := 2) (j := 0) hr.units rfl rfl ?_
        refine we_var (α := Cell) (i := 3) rfl rfl ?_
        refine ⟨_, rfl, ?_⟩
        exact ⟨rfl, h⟩
      · refine wss_cons ?_
        refine ws_setG (i := 5) SC.nd rfl (wg_list (α := Cell) ?_)
        refine wl_cons ?_
        refine we_var (α := Cell) (i := 3) rfl rfl ?_
        refine wl_nil ?_
        refine ⟨by show (1 : Nat) ≤ sizeLine; decide, ?_⟩
        refine wss_cons ?_
        refine ws_expr (α := Bool) (we_dpop (i := 2) (j := 0) hr.units rfl rfl rfl ?_)
        refine we_var (α := Cell) (i := 3) rfl rfl ?_
        refine chk_next h (fun hl h => ?_)
        refine ⟨_, rfl, of_decide_eq_true hl, ?_⟩
        refine wss_cons ?_
        refine ws_set (α := Int) (i := 6) SC.nd rfl (we_cut h (fun T h => ?_) (fun at_7 h => ?_))
        · refine we_int ?_
          exact ⟨rfl, h⟩
        refine wss_cons ?_
        refine while_on (γ := fun s8 => [im a_cells, im a_sides, mu 0, im y5, mu 1, mu 2, im (s8.1 : Int), un, un, un]) (μ := fun s8 => [kd s8.2.1, lst s4.1, lst s8.2.2]) (Rr := fun (_ : Empty) _ _ => False) (passes_of rfl) h (fun _ => rfl) ⟨.im (.im (.mu (Nat.le_of_ble_eq_true rfl) (.im (.mu (Nat.le_of_ble_eq_true rfl) (.mu (Nat.le_of_ble_eq_true rfl) (.im (.un (.un (.un .nil))))))))), rfl⟩ (fun s8 T h => ?_) (fun s8 T h => ?_) (fun s28 h => ?_) (fun y => nomatch y)
        · refine wt_wc ?_
          refine wc_lt ?_
          refine we_var (α := Int) (i := 6) rfl rfl ?_
          refine we_lenQ (α := Cell) (z_len TX) ?_
          refine wsr_mu (α := Cell) (i := 5) (j := 2) rfl rfl rfl ?_
          exact ⟨rfl, h⟩
        · refine wss_cons ?_
          refine ws_for (S := (List Cell) × (List Cell)) (ρ := Empty) (fun (s9 : (List Cell) × (List Cell)) (y10 : Int) => R.fl (forR (S := (List Cell) × (List Cell)) (ρ := Empty) (fun (s11 : (List Cell) × (List Cell)) (y12 : Int) => ((((idx s11.2 s8.1).bind fun x13 => R.ok (x13).1).bind fun x14 => R.ok (x14 + y10)).bind fun x15 => (((idx s11.2 s8.1).bind fun x16 => R.ok (x16).2).bind fun x17 => R.ok (x17 + y12)).bind fun x18 => R.ok (x15, x18) : R Cell).bind fun near_19 => ((R.ok (memb near_19 (s11.1))).bind fun c23 => R.ite c23 (((R.ok a_sides).bind fun c21 => R.ite c21 ((chk (decide (CMul y10 y12)) (R.ok (y10 * y12))).bind fun x20 => R.ok (neB x20 (0))) (R.ok false)).bind fun c22 => R.ok (!c22)) (R.ok false)).bind fun b24 => R.ite b24 (chk (decide (near_19 ∈ s11.1)) (chk (decide ((s11.2).length < sizeLine)) (R.ok (.nx ((popC s11.1 near_19), (s11.2 ++ [near_19])))))) (R.ok (.nx (s11.1, s11.2)))) ((⟨[(-1), 0, 1]⟩ : (Tup Int))).items (s9.1, s9.2)) (fun (s25 : (List Cell) × (List Cell)) => R.ok (.nx (s25.1, s25.2))) (fun y => nomatch y)) (fun s9 => [im a_cells, im a_sides, mu 0, im y5, mu 1, mu 2, im (s8.1 : Int), un, un, un]) (fun s9 => [kd s9.1, lst s4.1, lst s9.2]) (fun (_ : Empty) _ _ => False) (passes_of rfl) rfl (tg_name (α := Int) (i := 7) SC.nd rfl) ?_
          refine wi_tup ?_
          refine we_tupL (α := Int) ?_
          refine wl_cons ?_
          refine we_neg ?_
          refine we_int ?_
          refine wl_cons ?_
          refine we_int ?_
          refine wl_cons ?_
          refine we_int ?_
          refine wl_nil ?_
          refine ⟨by show (3 : Nat) ≤ sizeLine; decide, ?_⟩
          refine for_on h (fun _ => rfl) ⟨.im (.im (.mu (Nat.le_of_ble_eq_true rfl) (.im (.mu (Nat.le_of_ble_eq_true rfl) (.mu (Nat.le_of_ble_eq_true rfl) (.im (.un (.un (.un .nil))))))))), rfl⟩ (fun s9 y10 T hm h => ?_) (fun s26 h => ?_) (fun y => nomatch y)
          · refine wss_one ?_
            refine ws_for (S := (List Cell) × (List Cell)) (ρ := Empty) (fun (s11 : (List Cell) × (List Cell)) (y12 : Int) => ((((idx s11.2 s8.1).bind fun x13 => R.ok (x13).1).bind fun x14 => R.ok (x14 + y10)).bind fun x15 => (((idx s11.2 s8.1).bind fun x16 => R.ok (x16).2).bind fun x17 => R.ok (x17 + y12)).bind fun x18 => R.ok (x15, x18) : R Cell).bind fun near_19 => ((R.ok (memb near_19 (s11.1))).bind fun c23 => R.ite c23 (((R.ok a_sides).bind fun c21 => R.ite c21 ((chk (decide (CMul y10 y12)) (R.ok (y10 * y12))).bind fun x20 => R.ok (neB x20 (0))) (R.ok false)).bind fun c22 => R.ok (!c22)) (R.ok false)).bind fun b24 => R.ite b24 (chk (decide (near_19 ∈ s11.1)) (chk (decide ((s11.2).length < sizeLine)) (R.ok (.nx ((popC s11.1 near_19), (s11.2 ++ [near_19])))))) (R.ok (.nx (s11.1, s11.2)))) (fun s11 => [im a_cells, im a_sides, mu 0, im y5, mu 1, mu 2, im (s8.1 : Int), im y10, un, un]) (fun s11 => [kd s11.1, lst s4.1, lst s11.2]) (fun (_ : Empty) _ _ => False) (passes_of rfl) rfl (tg_name (α := Int) (i := 8) SC.nd rfl) ?_
            refine wi_tup ?_
            refine we_tupL (α := Int) ?_
            refine wl_cons ?_
            refine we_neg ?_
            refine we_int ?_
            refine wl_cons ?_
            refine we_int ?_
            refine wl_cons ?_
            refine we_int ?_
            refine wl_nil ?_
            refine ⟨by show (3 : Nat) ≤ sizeLine; decide, ?_⟩
            refine for_on h (fun _ => rfl) ⟨.im (.im (.mu (Nat.le_of_ble_eq_true rfl) (.im (.mu (Nat.le_of_ble_eq_true rfl) (.mu (Nat.le_of_ble_eq_true rfl) (.im (.im (.un (.un .nil))))))))), rfl⟩ (fun s11 y12 T hm h => ?_) (fun s25 h => ?_) (fun y => nomatch y)
            · refine wss_cons ?_
              refine ws_set (α := Cell) (i := 9) SC.nd rfl (we_cut h (fun T h => ?_) (fun near_19 h => ?_))
              · refine we_pair ?_
                refine we_cut h (fun T h => ?_) (fun x15 h => ?_)
                · refine we_add ?_
                  refine we_cut h (fun T h => ?_) (fun x14 h => ?_)
                  · refine we_fst (α := Int) (β := Int) ?_
                    refine we_cut h (fun T h => ?_) (fun x13 h => ?_)
                    · refine we_ixM (α := Cell) (i := 5) (j := 2) rfl rfl ?_
                      refine we_var (α := Int) (i := 6) rfl rfl ?_
                      exact idx_finM rfl h
                    exact ⟨rfl, h⟩
                  refine we_var (α := Int) (i := 7) rfl rfl ?_
                  exact ⟨rfl, h⟩
                refine we_cut h (fun T h => ?_) (fun x18 h => ?_)
                · refine we_add ?_
                  refine we_cut h (fun T h => ?_) (fun x17 h => ?_)
                  · refine we_snd (α := Int) (β := Int) ?_
                    refine we_cut h (fun T h => ?_) (fun x16 h => ?_)
                    · refine we_ixM (α := Cell) (i := 5) (j := 2) rfl rfl ?_
                      refine we_var (α := Int) (i := 6) rfl rfl ?_
                      exact idx_finM rfl h
                    exact ⟨rfl, h⟩
                  refine we_var (α := Int) (i := 8) rfl rfl ?_
                  exact ⟨rfl, h⟩
                exact ⟨rfl, h⟩
              refine wss_one ?_
              refine ws_if (wt_cut h (fun T h => ?_) (fun b24 h => ite_on h (fun hb h => ?_) (fun hb h => ?_)))
              · refine wt_ww ?_
                refine ww_and (wt_cut h (fun T h => ?_) (fun c h => ite_on h (fun hc h => ?_) (fun hc h => ⟨rfl, h⟩)))
                · refine wt_wc ?_
                  refine wc_inC (i := 2) (j := 0) hr.units rfl rfl ?_
                  refine we_var (α := Cell) (i := 9) rfl rfl ?_
                  refine ⟨_, rfl, ?_⟩
                  exact ⟨rfl, h⟩
                refine ww_and1 ?_
                refine wt_not (wt_cut h (fun T h => ?_) (fun c h => ⟨rfl, h⟩))
                refine wt_ww ?_
                refine ww_and (wt_cut h (fun T h => ?_) (fun c h => ite_on h (fun hc h => ?_) (fun hc h => ⟨rfl, h⟩)))
                · refine wt_val ?_
                  refine we_var (α := Bool) (i := 1) rfl rfl ?_
                  exact ⟨rfl, h⟩
                refine ww_and1 ?_
                refine wt_wc ?_
                refine wc_ne Int hr.units ?_
                refine we_cut h (fun T h => ?_) (fun x20 h => ?_)
                · refine we_mul ?_
                  refine we_var (α := Int) (i := 7) rfl rfl ?_
                  refine we_var (α := Int) (i := 8) rfl rfl ?_
                  exact ⟨of_decide_eq_true (chk_sat h).1, rfl, (chk_sat h).2⟩
                refine we_int ?_
                exact ⟨rfl, h⟩
              · refine wss_cons ?_
                refine ws_expr (α := Bool) (we_dpop (i := 2) (j := 0) hr.units rfl rfl rfl ?_)
                refine we_var (α := Cell) (i := 9) rfl rfl ?_
                refine chk_next h (fun hl h => ?_)
                refine ⟨_, rfl, of_decide_eq_true hl, ?_⟩
                refine wss_one ?_
                refine ws_expr (α := Unit) (we_append (α := Cell) (i := 5) (j := 2) rfl rfl rfl ?_)
                refine we_var (α := Cell) (i := 9) rfl rfl ?_
                refine chk_next h (fun hl h => ?_)
                refine ⟨_, rfl, of_decide_eq_true hl, ?_⟩
                exact ⟨_, h, ⟨.im (.im (.mu (Nat.le_of_ble_eq_true rfl) (.im (.mu (Nat.le_of_ble_eq_true rfl) (.mu (Nat.le_of_ble_eq_true rfl) (.im (.im (.un (.un .nil))))))))), rfl⟩⟩
              refine wss_nil ?_
              exact ⟨_, h, ⟨.im (.im (.mu (Nat.le_of_ble_eq_true rfl) (.im (.mu (Nat.le_of_ble_eq_true rfl) (.mu (Nat.le_of_ble_eq_true rfl) (.im (.im (.un (.un .nil))))))))), rfl⟩⟩
            exact ⟨_, h, ⟨.im (.im (.mu (Nat.le_of_ble_eq_true rfl) (.im (.mu (Nat.le_of_ble_eq_true rfl) (.mu (Nat.le_of_ble_eq_true rfl) (.im (.un (.un (.un .nil))))))))), rfl⟩⟩
          refine wss_one ?_
          refine ws_set (α := Int) (i := 6) SC.nd rfl (we_cut h (fun T h => ?_) (fun at_27 h => ?_))
          · refine we_add ?_
            refine we_var (α := Int) (i := 6) rfl rfl ?_
            refine we_int ?_
            exact ⟨rfl, h⟩
          exact ⟨_, h, ⟨.im (.im (.mu (Nat.le_of_ble_eq_true rfl) (.im (.mu (Nat.le_of_ble_eq_true rfl) (.mu (Nat.le_of_ble_eq_true rfl) (.im (.un (.un (.un .nil))))))))), rfl⟩⟩
        refine wss_one ?_
        refine ws_expr (α := Unit) (we_append (α := (Tup Cell)) (i := 4) (j := 1) rfl rfl rfl ?_)
        refine we_tupQ (α := Cell) (z_tuple TX) ?_
        refine wsr_l ?_
        refine we_sorted (α := Cell) rfl (room128 hr) (z_sorted TX) ?_
        refine wsr_mu (α := Cell) (i := 5) (j := 2) rfl rfl rfl ?_
        refine chk_next h (fun hl h => ?_)
        refine ⟨_, rfl, of_decide_eq_true hl, ?_⟩
        exact ⟨_, h, ⟨.im (.im (.mu (Nat.le_of_ble_eq_true rfl) (.un (.mu (Nat.le_of_ble_eq_true rfl) (.un (.un (.un (.un (.un .nil))))))))), rfl⟩⟩
      refine wss_nil ?_
      exact ⟨_, h, ⟨.im (.im (.mu (Nat.le_of_ble_eq_true rfl) (.un (.mu (Nat.le_of_ble_eq_true rfl) (.un (.un (.un (.un (.un .nil))))))))), rfl⟩⟩
    refine wss_one ?_
    exact ws_ret (α := (List (Tup Cell))) (we_take (i := 4) (j := 1) rfl rfl rfl fz_lst (ret_im h))
def m__law_has (a_shape : ((Tup Cell) × Bool)) (a_cell : Cell) : R Bool :=
  R.ok (neB (memb a_cell ((a_shape.1).items)) (a_shape.2))
def fs__law_has : Fs := ⟨fun Γ m P PE => ∃ (a_shape : ((Tup Cell) × Bool)) (a_cell : Cell), Γ = [im a_shape, im a_cell] ∧ m = [] ∧ (m__law_has a_shape a_cell).sat (fun y => P (im y) []) fun e => PE e []⟩
theorem ok__law_has (TX : Tx K mg) {fd : FuncData} (F : FD__law_has K fd) : FnOk P w K mg base (L2.CX P w) 1 (He.ga K "_law_has") fd ["shape", "cell"] (spF K fs__law_has) := by
  have SC := sc__law_has
  refine fn_ok F sc__law_has (fun Γ m P PE h => ?_) (fun cdv A outer s H E B Γ m Pr PE hr h => ?_)
  · obtain ⟨_, _, rfl, _⟩ := h
    rfl
  · obtain ⟨a_shape, a_cell, rfl, rfl, h⟩ := h
    show WSs _ _ _ _ [im a_shape, im a_cell] [] _
    refine wss_one ?_
    refine ws_ret (α := Bool) (we_end h (fun T h => ?_) (fun y h => ret_im h))
    refine we_wc ?_
    refine wc_ne Bool hr.units ?_
    refine we_wc ?_
    refine wc_inQ (α := Cell) (room128 hr) ?_
    refine we_var (α := Cell) (i := 1) rfl rfl ?_
    refine wsr_t ?_
    refine we_fst (α := (Tup Cell)) (β := Bool) ?_
    refine we_var (α := ((Tup Cell) × Bool)) (i := 0) rfl rfl ?_
    refine we_snd (α := (Tup Cell)) (β := Bool) ?_
    refine we_var (α := ((Tup Cell) × Bool)) (i := 0) rfl rfl ?_
    exact ⟨rfl, h⟩
def m__law_around (a_shape : ((Tup Cell) × Bool)) (a_cell : Cell) : R (List Cell) :=
  chk (rg2 (a_cell.1 - 1) (a_cell.1 + 2)) (R.fl (forR (S := (List Cell)) (ρ := Empty) (fun (s1 : (List Cell)) (y2 : Int) => chk (rg2 (a_cell.2 - 1) (a_cell.2 + 2)) (R.fl (forR (S := (List Cell)) (ρ := Empty) (fun (s3 : (List Cell)) (y4 : Int) => ((R.ok (neB (y2, y4) a_cell)).bind fun c5 => R.ite c5 (m__law_has a_shape (y2, y4)) (R.ok false)).bind fun b6 => R.ite b6 (chk (decide ((s3).length < sizeLine)) (R.ok (.nx (s3 ++ [(y2, y4)])))) (R.ok (.nx s3))) (rangeL (a_cell.2 - 1) (a_cell.2 + 2)) s1) (fun (s7 : (List Cell)) => R.ok (.nx s7)) (fun y => nomatch y))) (rangeL (a_cell.1 - 1) (a_cell.1 + 2)) ([] : (List Cell))) (fun (s8 : (List Cell)) => R.ok s8) (fun y => nomatch y))
def fs__law_around : Fs := ⟨fun Γ m P PE => ∃ (a_shape : ((Tup Cell) × Bool)) (a_cell : Cell), Γ = [im a_shape, im a_cell] ∧ m = [] ∧ (m__law_around a_shape a_cell).sat (fun y => P (im y) []) fun e => PE e []⟩
theorem ok__law_around (TX : Tx K mg) {fd : FuncData} (F : FD__law_around K fd) {fd__law_has : FuncData} (F__law_has : FD__law_has K fd__law_has) (OK__law_has : FnOk P w K mg base (L2.CX P w) 1 (He.ga K "_law_has") fd__law_has ["shape", "cell"] (spF K fs__law_has)) : FnOk P w K mg base (L2.CX P w) 2 (He.ga K "_law_around") fd ["shape", "cell"] (spF K fs__law_around) := by
  have SC := sc__law_around
  have FD_k__law_has := F__law_has.kp
  have BI__law_has := b__law_has F__law_has
  refine fn_ok F sc__law_around (fun Γ m P PE h => ?_) (fun cdv A outer s H E B Γ m Pr PE hr h => ?_)
  · obtain ⟨_, _, rfl, _⟩ := h
    rfl
  · obtain ⟨a_shape, a_cell, rfl, rfl, h⟩ := h
    show WSs _ _ _ _ [im a_shape, im a_cell, un, un, un] [] _
    refine wss_cons ?_
    refine ws_setG (i := 2) SC.nd rfl (wg_list (α := Cell) ?_)
    refine wl_nil ?_
    refine ⟨by show (0 : Nat) ≤ sizeLine; decide, ?_⟩
    refine wss_cons ?_
    refine ws_for (S := (List Cell)) (ρ := Empty) (fun (s1 : (List Cell)) (y2 : Int) => chk (rg2 (a_cell.2 - 1) (a_cell.2 + 2)) (R.fl (forR (S := (List Cell)) (ρ := Empty) (fun (s3 : (List Cell)) (y4 : Int) => ((R.ok (neB (y2, y4) a_cell)).bind fun c5 => R.ite c5 (m__law_has a_shape (y2, y4)) (R.ok false)).bind fun b6 => R.ite b6 (chk (decide ((s3).length < sizeLine)) (R.ok (.nx (s3 ++ [(y2, y4)])))) (R.ok (.nx s3))) (rangeL (a_cell.2 - 1) (a_cell.2 + 2)) s1) (fun (s7 : (List Cell)) => R.ok (.nx s7)) (fun y => nomatch y))) (fun s1 => [im a_shape, im a_cell, mu 0, un, un]) (fun s1 => [lst s1]) (fun (_ : Empty) _ _ => False) (passes_of rfl) rfl (tg_name (α := Int) (i := 3) SC.nd rfl) ?_
    refine wi_range2 (z_range TX) ?_
    refine we_sub ?_
    refine we_fst (α := Int) (β := Int) ?_
    refine we_var (α := Cell) (i := 1) rfl rfl ?_
    refine we_int ?_
    refine we_add ?_
    refine we_fst (α := Int) (β := Int) ?_
    refine we_var (α := Cell) (i := 1) rfl rfl ?_
    refine we_int ?_
    refine chk_next h (fun hg h => ?_)
    refine ⟨rg2_ok hg, ?_⟩
    refine for_on h (fun _ => rfl) ⟨.im (.im (.mu (Nat.le_of_ble_eq_true rfl) (.un (.un .nil)))), rfl⟩ (fun s1 y2 T hm h => ?_) (fun s8 h => ?_) (fun y => nomatch y)
    · refine wss_one ?_
      refine ws_for (S := (List Cell)) (ρ := Empty) (fun (s3 : (List Cell)) (y4 : Int) => ((R.ok (neB (y2, y4) a_cell)).bind fun c5 => R.ite c5 (m__law_has a_shape (y2, y4)) (R.ok false)).bind fun b6 => R.ite b6 (chk (decide ((s3).length < sizeLine)) (R.ok (.nx (s3 ++ [(y2, y4)])))) (R.ok (.nx s3))) (fun s3 => [im a_shape, im a_cell, mu 0, im y2, un]) (fun s3 => [lst s3]) (fun (_ : Empty) _ _ => False) (passes_of rfl) rfl (tg_name (α := Int) (i := 4) SC.nd rfl) ?_
      refine wi_range2 (z_range TX) ?_
      refine we_sub ?_
      refine we_snd (α := Int) (β := Int) ?_
      refine we_var (α := Cell) (i := 1) rfl rfl ?_
      refine we_int ?_
      refine we_add ?_
      refine we_snd (α := Int) (β := Int) ?_
      refine we_var (α := Cell) (i := 1) rfl rfl ?_
      refine we_int ?_
      refine chk_next h (fun hg h => ?_)
      refine ⟨rg2_ok hg, ?_⟩
      refine for_on h (fun _ => rfl) ⟨.im (.im (.mu (Nat.le_of_ble_eq_true rfl) (.im (.un .nil)))), rfl⟩ (fun s3 y4 T hm h => ?_) (fun s7 h => ?_) (fun y => nomatch y)
      · refine wss_one ?_
        refine ws_if (wt_cut h (fun T h => ?_) (fun b6 h => ite_on h (fun hb h => ?_) (fun hb h => ?_)))
        · refine wt_ww ?_
          refine ww_and (wt_cut h (fun T h => ?_) (fun c h => ite_on h (fun hc h => ?_) (fun hc h => ⟨rfl, h⟩)))
          · refine wt_wc ?_
            refine wc_ne Cell hr.units ?_
            refine we_pair ?_
            refine we_var (α := Int) (i := 3) rfl rfl ?_
            refine we_var (α := Int) (i := 4) rfl rfl ?_
            refine we_var (α := Cell) (i := 1) rfl rfl ?_
            exact ⟨rfl, h⟩
          refine ww_and1 ?_
          refine wt_val ?_
          refine we_callV (γ := Bool) (Γd := []) OK__law_has (hr.mono (by decide)) (g__law_has TX) FD_k__law_has BI__law_has .nil (fun _ _ => trivial) ?_
          refine wa_e (α := ((Tup Cell) × Bool)) ?_
          refine we_var (α := ((Tup Cell) × Bool)) (i := 0) rfl rfl ?_
          refine wa_e (α := Cell) ?_
          refine we_pair ?_
          refine we_var (α := Int) (i := 3) rfl rfl ?_
          refine we_var (α := Int) (i := 4) rfl rfl ?_
          refine wa_nil ?_
          exact ⟨rfl, _, fun _ => .cons .im (.cons .im .nil), _, _, rfl, rfl, R.sat.imp h (fun _ _ h => cp_ok h) fun _ h => h⟩
        · refine wss_one ?_
          refine ws_expr (α := Unit) (we_append (α := Cell) (i := 2) (j := 0) rfl rfl rfl ?_)
          refine we_pair ?_
          refine we_var (α := Int) (i := 3) rfl rfl ?_
          refine we_var (α := Int) (i := 4) rfl rfl ?_
          refine chk_next h (fun hl h => ?_)
          refine ⟨_, rfl, of_decide_eq_true hl, ?_⟩
          exact ⟨_, h, ⟨.im (.im (.mu (Nat.le_of_ble_eq_true rfl) (.im (.un .nil)))), rfl⟩⟩
        refine wss_nil ?_
        exact ⟨_, h, ⟨.im (.im (.mu (Nat.le_of_ble_eq_true rfl) (.im (.un .nil)))), rfl⟩⟩
      exact ⟨_, h, ⟨.im (.im (.mu (Nat.le_of_ble_eq_true rfl) (.un (.un .nil)))), rfl⟩⟩
    refine wss_one ?_
    exact ws_ret (α := (List Cell)) (we_take (i := 2) (j := 0) rfl rfl rfl fz_lst (ret_im h))
def m__law_cells (a_found : (List Cell)) : R Bool :=
  R.fl (forR (S := Unit) (ρ := Bool) (fun (s1 : Unit) (y2 : Cell) => (((R.ok (PyData.isTuple (Datum.toD y2))).bind fun c3 => R.ok (!c3)).bind fun c4 => R.ite c4 (R.ok true) (R.ok (neB (2 : Int) (2)))).bind fun b5 => R.ite b5 ((R.ok false : R Bool).bind fun r6 => R.ok (.rt r6)) (R.fl (forR (S := Unit) (ρ := Bool) (fun (s7 : Unit) (y8 : Int) => (((R.ok (PyData.isInt (Datum.toD y8))).bind fun c9 => R.ok (!c9)).bind fun c10 => R.ite c10 (R.ok true) (R.ok (PyData.isBool (Datum.toD y8)))).bind fun b11 => R.ite b11 ((R.ok false : R Bool).bind fun r12 => R.ok (.rt r12)) (R.ok (.nx ()))) [(y2).1, (y2).2] ()) (fun (s13 : Unit) => R.ok (.nx ())) (fun y => R.ok (.rt y)))) a_found ()) (fun (s14 : Unit) => R.ok true) (fun y => R.ok y)
def fs__law_cells : Fs := ⟨fun Γ m P PE => ∃ (a_found : (List Cell)), Γ = [sq a_found] ∧ m = [] ∧ (m__law_cells a_found).sat (fun y => P (im y) []) fun e => PE e []⟩
theorem ok__law_cells (TX : Tx K mg) {fd : FuncData} (F : FD__law_cells K fd) : FnOk P w K mg base (L2.CX P w) 1 (He.ga K "_law_cells") fd ["found"] (spF K fs__law_cells) := by
  have SC := sc__law_cells
  refine fn_ok F sc__law_cells (fun Γ m P PE h => ?_) (fun cdv A outer s H E B Γ m Pr PE hr h => ?_)
  · obtain ⟨_, rfl, _⟩ := h
    rfl
  · obtain ⟨a_found, rfl, rfl, h⟩ := h
    show WSs _ _ _ _ [sq a_found, un, un] [] _
    refine wss_cons ?_
    refine ws_for (S := Unit) (ρ := Bool) (fun (s1 : Unit) (y2 : Cell) => (((R.ok (PyData.isTuple (Datum.toD y2))).bind fun c3 => R.ok (!c3)).bind fun c4 => R.ite c4 (R.ok true) (R.ok (neB (2 : Int) (2)))).bind fun b5 => R.ite b5 ((R.ok false : R Bool).bind fun r6 => R.ok (.rt r6)) (R.fl (forR (S := Unit) (ρ := Bool) (fun (s7 : Unit) (y8 : Int) => (((R.ok (PyData.isInt (Datum.toD y8))).bind fun c9 => R.ok (!c9)).bind fun c10 => R.ite c10 (R.ok true) (R.ok (PyData.isBool (Datum.toD y8)))).bind fun b11 => R.ite b11 ((R.ok false : R Bool).bind fun r12 => R.ok (.rt r12)) (R.ok (.nx ()))) [(y2).1, (y2).2] ()) (fun (s13 : Unit) => R.ok (.nx ())) (fun y => R.ok (.rt y)))) (fun s1 => [sq a_found, un, un]) (fun s1 => []) (fun y g _ => g = im y) (passes_of rfl) rfl (tg_name (α := Cell) (i := 1) SC.nd rfl) ?_
    refine wi_sq (i := 0) rfl rfl ?_
    refine for_on h (fun _ => rfl) ⟨.fre (fun _ _ _ _ _ h => h) (.un (.un .nil)), rfl⟩ (fun s1 y2 T hm h => ?_) (fun s14 h => ?_) (fun y g m h e => by subst e; exact ret_im h)
    · refine wss_cons ?_
      refine ws_if (wt_cut h (fun T h => ?_) (fun b5 h => ite_on h (fun hb h => ?_) (fun hb h => ?_)))
      · refine wt_ww ?_
        refine ww_or (wt_cut h (fun T h => ?_) (fun c h => ite_on h (fun hc h => ⟨rfl, h⟩) (fun hc h => ?_)))
        · refine wt_not (wt_cut h (fun T h => ?_) (fun c h => ⟨rfl, h⟩))
          refine wt_val ?_
          refine we_isa (f := PyData.isTuple) (fun s v d as Q r h => PySem.W.isinstance_tuple_data r h) (z_isinstance TX) (z_tuple TX) PyProof.Rows.boot_tuple ?_
          refine WE.dyn (α := Cell) ?_
          refine we_var (α := Cell) (i := 1) rfl rfl ?_
          exact ⟨rfl, h⟩
        refine ww_or1 ?_
        refine wt_wc ?_
        refine wc_ne Int hr.units ?_
        refine we_lenF (α := Cell) (n := 2) (fun x => ⟨_, rfl, rfl⟩) (z_len TX) ?_
        refine we_var (α := Cell) (i := 1) rfl rfl ?_
        refine we_int ?_
        exact ⟨rfl, h⟩
      · refine wss_one ?_
        refine ws_ret (α := Bool) (we_cut h (fun T h => ?_) (fun r6 h => ⟨r6, h, rfl⟩))
        refine we_bool ?_
        exact ⟨rfl, h⟩
      refine wss_nil ?_
      refine wss_one ?_
      refine ws_for (S := Unit) (ρ := Bool) (fun (s7 : Unit) (y8 : Int) => (((R.ok (PyData.isInt (Datum.toD y8))).bind fun c9 => R.ok (!c9)).bind fun c10 => R.ite c10 (R.ok true) (R.ok (PyData.isBool (Datum.toD y8)))).bind fun b11 => R.ite b11 ((R.ok false : R Bool).bind fun r12 => R.ok (.rt r12)) (R.ok (.nx ()))) (fun s7 => [sq a_found, im y2, un]) (fun s7 => []) (fun y g _ => g = im y) (passes_of rfl) rfl (tg_name (α := Int) (i := 2) SC.nd rfl) ?_
      refine wi_tup (WE.as (fun c : Cell => (⟨[c.1, c.2]⟩ : (Tup Int))) (fun _ _ _ _ r => r) ?_)
      refine we_var (α := Cell) (i := 1) rfl rfl ?_
      refine for_on h (fun _ => rfl) ⟨.fre (fun _ _ _ _ _ h => h) (.im (.un .nil)), rfl⟩ (fun s7 y8 T hm h => ?_) (fun s13 h => ?_) (fun y g m h e => ⟨y, h, e⟩)
      · refine wss_one ?_
        refine ws_if (wt_cut h (fun T h => ?_) (fun b11 h => ite_on h (fun hb h => ?_) (fun hb h => ?_)))
        · refine wt_ww ?_
          refine ww_or (wt_cut h (fun T h => ?_) (fun c h => ite_on h (fun hc h => ⟨rfl, h⟩) (fun hc h => ?_)))
          · refine wt_not (wt_cut h (fun T h => ?_) (fun c h => ⟨rfl, h⟩))
            refine wt_val ?_
            refine we_isa (f := PyData.isInt) (fun s v d as Q r h => PySem.W.isinstance_int_data r h) (z_isinstance TX) (z_int TX) PyProof.Rows.boot_int ?_
            refine WE.dyn (α := Int) ?_
            refine we_var (α := Int) (i := 2) rfl rfl ?_
            exact ⟨rfl, h⟩
          refine ww_or1 ?_
          refine wt_val ?_
          refine we_isa (f := PyData.isBool) (fun s v d as Q r h => PySem.W.isinstance_bool_data r h) (z_isinstance TX) (z_bool TX) PyProof.Rows.boot_bool ?_
          refine WE.dyn (α := Int) ?_
          refine we_var (α := Int) (i := 2) rfl rfl ?_
          exact ⟨rfl, h⟩
        · refine wss_one ?_
          refine ws_ret (α := Bool) (we_cut h (fun T h => ?_) (fun r12 h => ⟨r12, h, rfl⟩))
          refine we_bool ?_
          exact ⟨rfl, h⟩
        refine wss_nil ?_
        exact ⟨_, h, ⟨.fre (fun _ _ _ _ _ h => h) (.im (.un .nil)), rfl⟩⟩
      exact ⟨_, h, ⟨.fre (fun _ _ _ _ _ h => h) (.un (.un .nil)), rfl⟩⟩
    refine wss_one ?_
    refine ws_ret (α := Bool) (we_end h (fun T h => ?_) (fun y h => ret_im h))
    refine we_bool ?_
    exact ⟨rfl, h⟩
def m__law_chain (a_chain : (List Cell)) (a_near : (List Cell)) : R Bool :=
  (((R.ok (PyData.isList (Datum.toD a_chain))).bind fun c1 => R.ok (!c1)).bind fun c4 => R.ite c4 (R.ok true) (((m__law_cells a_chain).bind fun c2 => R.ok (!c2)).bind fun c3 => R.ite c3 (R.ok true) (R.ok (neB (sortS a_chain) (sortS a_near))))).bind fun b5 => R.ite b5 (R.ok false) (chk (rg2 1 ((a_chain).length : Int)) (R.fl (forR (S := Unit) (ρ := Bool) (fun (s6 : Unit) (y7 : Int) => (idx a_chain y7 : R Cell).bind fun spot_8 => ((comp (fun (y9 : Cell) => R.ok (eqB (max2 (abs1 (y9.1 - spot_8.1)) (abs1 (y9.2 - spot_8.2))) (1))) (fun (y9 : Cell) => R.ok y9) (cut a_chain none (some y7))).bind fun x10 => R.ok (eqB x10 ([] : (List Cell)))).bind fun b11 => R.ite b11 ((R.ok false : R Bool).bind fun r12 => R.ok (.rt r12)) (R.ok (.nx ()))) (rangeL 1 ((a_chain).length : Int)) ()) (fun (s13 : Unit) => R.ok true) (fun y => R.ok y)))
def fs__law_chain : Fs := ⟨fun Γ m P PE => ∃ (a_chain : (List Cell)) (a_near : (List Cell)), Γ = [im a_chain, im a_near] ∧ m = [] ∧ (m__law_chain a_chain a_near).sat (fun y => P (im y) []) fun e => PE e []⟩
theorem ok__law_chain (TX : Tx K mg) {fd : FuncData} (F : FD__law_chain K fd) {fd__law_cells : FuncData} (F__law_cells : FD__law_cells K fd__law_cells) (OK__law_cells : FnOk P w K mg base (L2.CX P w) 1 (He.ga K "_law_cells") fd__law_cells ["found"] (spF K fs__law_cells)) : FnOk P w K mg base (L2.CX P w) 2 (He.ga K "_law_chain") fd ["chain", "near"] (spF K fs__law_chain) := by
  have SC := sc__law_chain
  have FD_k__law_cells := F__law_cells.kp
  have BI__law_cells := b__law_cells F__law_cells
  refine fn_ok F sc__law_chain (fun Γ m P PE h => ?_) (fun cdv A outer s H E B Γ m Pr PE hr h => ?_)
  · obtain ⟨_, _, rfl, _⟩ := h
    rfl
  · obtain ⟨a_chain, a_near, rfl, rfl, h⟩ := h
    show WSs _ _ _ _ [im a_chain, im a_near, un, un, un] [] _
    refine wss_cons ?_
    refine ws_if (wt_cut h (fun T h => ?_) (fun b5 h => ite_on h (fun hb h => ?_) (fun hb h => ?_)))
    · refine wt_ww ?_
      refine ww_or (wt_cut h (fun T h => ?_) (fun c h => ite_on h (fun hc h => ⟨rfl, h⟩) (fun hc h => ?_)))
      · refine wt_not (wt_cut h (fun T h => ?_) (fun c h => ⟨rfl, h⟩))
        refine wt_val ?_
        refine we_isa (f := PyData.isList) (fun s v d as Q r h => PySem.W.isinstance_list_data r h) (z_isinstance TX) (z_list TX) PyProof.Rows.boot_list ?_
        refine WE.dyn (α := (List Cell)) ?_
        refine we_var (α := (List Cell)) (i := 0) rfl rfl ?_
        exact ⟨rfl, h⟩
      refine ww_or (wt_cut h (fun T h => ?_) (fun c h => ite_on h (fun hc h => ⟨rfl, h⟩) (fun hc h => ?_)))
      · refine wt_not (wt_cut h (fun T h => ?_) (fun c h => ⟨rfl, h⟩))
        refine wt_val ?_
        refine we_callV (γ := Bool) (Γd := []) OK__law_cells (hr.mono (by decide)) (g__law_cells TX) FD_k__law_cells BI__law_cells .nil (fun _ _ => trivial) ?_
        refine wa_e (α := (List Cell)) ?_
        refine we_var (α := (List Cell)) (i := 0) rfl rfl ?_
        refine wa_nil ?_
        exact ⟨rfl, _, fun _ => .cons rn_sqL .nil, _, rfl, rfl, R.sat.imp h (fun _ _ h => cp_ok h) fun _ h => h⟩
      refine ww_or1 ?_
      refine wt_wc ?_
      refine wc_ne (List Cell) hr.units ?_
      refine we_sorted (α := Cell) rfl (room128 hr) (z_sorted TX) ?_
      refine wsr_l ?_
      refine we_var (α := (List Cell)) (i := 0) rfl rfl ?_
      refine we_sorted (α := Cell) rfl (room128 hr) (z_sorted TX) ?_
      refine wsr_l ?_
      refine we_var (α := (List Cell)) (i := 1) rfl rfl ?_
      exact ⟨rfl, h⟩
    · refine wss_one ?_
      refine ws_ret (α := Bool) (we_end h (fun T h => ?_) (fun y h => ret_im h))
      refine we_bool ?_
      exact ⟨rfl, h⟩
    refine wss_nil ?_
    refine wss_cons ?_
    refine ws_for (S := Unit) (ρ := Bool) (fun (s6 : Unit) (y7 : Int) => (idx a_chain y7 : R Cell).bind fun spot_8 => ((comp (fun (y9 : Cell) => R.ok (eqB (max2 (abs1 (y9.1 - spot_8.1)) (abs1 (y9.2 - spot_8.2))) (1))) (fun (y9 : Cell) => R.ok y9) (cut a_chain none (some y7))).bind fun x10 => R.ok (eqB x10 ([] : (List Cell)))).bind fun b11 => R.ite b11 ((R.ok false : R Bool).bind fun r12 => R.ok (.rt r12)) (R.ok (.nx ()))) (fun s6 => [im a_chain, im a_near, un, un, un]) (fun s6 => []) (fun y g _ => g = im y) (passes_of rfl) rfl (tg_name (α := Int) (i := 2) SC.nd rfl) ?_
    refine wi_range2 (z_range TX) ?_
    refine we_int ?_
    refine we_lenQ (α := Cell) (z_len TX) ?_
    refine wsr_l ?_
    refine we_var (α := (List Cell)) (i := 0) rfl rfl ?_
    refine chk_next h (fun hg h => ?_)
    refine ⟨rg2_ok hg, ?_⟩
    refine for_on h (fun _ => rfl) ⟨.im (.im (.un (.un (.un .nil)))), rfl⟩ (fun s6 y7 T hm h => ?_) (fun s13 h => ?_) (fun y g m h e => by subst e; exact ret_im h)
    · refine wss_cons ?_
      refine ws_set (α := Cell) (i := 3) SC.nd rfl (we_cut h (fun T h => ?_) (fun spot_8 h => ?_))
      · refine we_ixL (α := Cell) ?_
        refine we_var (α := (List Cell)) (i := 0) rfl rfl ?_
        refine we_var (α := Int) (i := 2) rfl rfl ?_
        exact idx_fin h
      refine wss_one ?_
      refine ws_if (wt_cut h (fun T h => ?_) (fun b11 h => ite_on h (fun hb h => ?_) (fun hb h => ?_)))
      · refine wt_wc ?_
        refine wc_eq (List Cell) hr.units ?_
        refine we_cut h (fun T h => ?_) (fun x10 h => ?_)
        · refine we_comp (α := Cell) (β := Cell) (own := [("one", 4)]) (fun (y9 : Cell) => R.ok (eqB (max2 (abs1 (y9.1 - spot_8.1)) (abs1 (y9.2 - spot_8.2))) (1))) (fun (y9 : Cell) => R.ok y9) rfl SC.nd (blkOk_by rfl) (tgu_name (i := 4) SC.nd rfl (by decide)) ?_
          refine wi_list ?_
          refine we_slL (α := Cell) ?_
          refine we_var (α := (List Cell)) (i := 0) rfl rfl ?_
          refine wo_none ?_
          refine wo_some ?_
          refine we_var (α := Int) (i := 2) rfl rfl ?_
          refine comp_fin rfl h (fun y9 acc T hm h s H C cl fp => ?_) (fun y9 acc T hm h s H C cl fp => ?_)
          · refine wts_one ?_
            refine wt_wc ?_
            refine wc_eq Int hr.units ?_
            refine we_max2 rfl (z_max TX) ?_
            refine we_abs (z_abs TX) ?_
            refine we_sub ?_
            refine we_fst (α := Int) (β := Int) ?_
            refine we_var (α := Cell) (i := 4) rfl rfl ?_
            refine we_fst (α := Int) (β := Int) ?_
            refine we_var (α := Cell) (i := 3) rfl rfl ?_
            refine we_abs (z_abs TX) ?_
            refine we_sub ?_
            refine we_snd (α := Int) (β := Int) ?_
            refine we_var (α := Cell) (i := 4) rfl rfl ?_
            refine we_snd (α := Int) (β := Int) ?_
            refine we_var (α := Cell) (i := 3) rfl rfl ?_
            refine we_int ?_
            exact ⟨rfl, h⟩
          · refine we_var (α := Cell) (i := 4) rfl rfl ?_
            exact ⟨rfl, h⟩
        refine we_listL (α := Cell) ?_
        refine wl_nil ?_
        refine ⟨by show (0 : Nat) ≤ sizeLine; decide, ?_⟩
        exact ⟨rfl, h⟩
      · refine wss_one ?_
        refine ws_ret (α := Bool) (we_cut h (fun T h => ?_) (fun r12 h => ⟨r12, h, rfl⟩))
        refine we_bool ?_
        exact ⟨rfl, h⟩
      refine wss_nil ?_
      exact ⟨_, h, ⟨.im (.im (.un (.un (.un .nil)))), rfl⟩⟩
    refine wss_one ?_
    refine ws_ret (α := Bool) (we_end h (fun T h => ?_) (fun y h => ret_im h))
    refine we_bool ?_
    exact ⟨rfl, h⟩
def m_why_around (a_some : (List Cell)) (a_rest : Bool) (a_cell : Cell) : R Why :=
  ((m_near_cells a_cell v_AROUND).bind fun x2 => comp (fun (y1 : Cell) => R.ok (neB (memb y1 a_some) a_rest)) (fun (y1 : Cell) => R.ok y1) x2 : R (List Cell)).bind fun inside_3 => (R.ok (eqB inside_3 ([] : (List Cell)))).bind fun b4 => R.ite b4 (R.ok .alone) (((m_near_cells a_cell v_SIDES).bind fun x6 => comp (fun (y5 : Cell) => R.ok (eqB (memb y5 a_some) a_rest)) (fun (y5 : Cell) => R.ok y5) x6 : R (List Cell)).bind fun lacking_7 => (R.ok (eqB lacking_7 ([] : (List Cell)))).bind fun b8 => R.ite b8 (R.ok .inner) ((m_noted inside_3).bind fun y9 => (idx inside_3 0).bind fun x10 => (nx (m_flooded y9 x10 v_AROUND)).bind fun y11 => (R.ok (decide (((y11.1).length : Int) < ((inside_3).length : Int)))).bind fun b12 => R.ite b12 (R.ok (.bridge (⟨(sortS y11.1)⟩ : (Tup Cell)))) ((idx lacking_7 0).bind fun x13 => R.ok (.loose (y11.1) x13))))
def fs_why_around : Fs := ⟨fun Γ m P PE => ∃ (a_some : (List Cell)) (a_rest : Bool) (a_cell : Cell), Γ = [mu 0, im a_rest, im a_cell] ∧ m = [kd a_some] ∧ (m_why_around a_some a_rest a_cell).sat (fun y => P (whyS 1 y) (kd a_some :: whyM y)) fun e => False⟩
theorem ok_why_around (TX : Tx K mg) {fd : FuncData} (F : FD_why_around K fd) {fd_flooded : FuncData} (F_flooded : FD_flooded K fd_flooded) (OK_flooded : FnOk P w K mg base (L2.CX P w) 1 (He.ga K "flooded") fd_flooded ["some", "start", "steps"] (spF K fs_flooded)) {fd_noted : FuncData} (F_noted : FD_noted K fd_noted) (OK_noted : FnOk P w K mg base (L2.CX P w) 1 (He.ga K "noted") fd_noted ["cells"] (spF K fs_noted)) {fd_near_cells : FuncData} (F_near_cells : FD_near_cells K fd_near_cells) (OK_near_cells : FnOk P w K mg base (L2.CX P w) 1 (He.ga K "near_cells") fd_near_cells ["cell", "steps"] (spF K fs_near_cells)) : FnOk P w K mg base (L2.CX P w) 2 (He.ga K "why_around") fd ["some", "rest", "cell"] (spF K fs_why_around) := by
  have SC := sc_why_around
  have FD_k_flooded := F_flooded.kp
  have BI_flooded := b_flooded F_flooded
  have FD_k_noted := F_noted.kp
  have BI_noted := b_noted F_noted
  have FD_k_near_cells := F_near_cells.kp
  have BI_near_cells := b_near_cells F_near_cells
  refine fn_ok F sc_why_around (fun Γ m P PE h => ?_) (fun cdv A outer s H E B Γ m Pr PE hr h => ?_)
  · obtain ⟨_, _, _, rfl, _⟩ := h
    rfl
  · obtain ⟨a_some, a_rest, a_cell, rfl, rfl, h⟩ := h
    show WSs _ _ _ _ [mu 0, im a_rest, im a_cell, un, un, un, un] [kd a_some] _
    refine wss_cons ?_
    refine ws_setLcB (i := 3) (α := Cell) (β := Cell) (own := [("near", 6)]) (fun (y1 : Cell) => R.ok (neB (memb y1 a_some) a_rest)) (fun (y1 : Cell) => R.ok y1) h rfl SC.nd (blkOk_by rfl) rfl (tgu_name (i := 6) SC.nd rfl (by decide)) (fun T h => ?_) (fun inside_3 h => ?_)
    · refine wi_list ?_
      refine we_cut h (fun T h => ?_) (fun x2 h => ?_)
      · refine we_callV (γ := (List Cell)) (Γd := []) OK_near_cells (hr.mono (by decide)) (g_near_cells TX) FD_k_near_cells BI_near_cells .nil (fun _ _ => trivial) ?_
        refine wa_e (α := Cell) ?_
        refine we_var (α := Cell) (i := 2) rfl rfl ?_
        refine wa_e (α := (Tup Cell)) ?_
        refine we_glob (y := v_AROUND) (v := .ref (He.ga K "AROUND")) (g_AROUND TX) rfl (fun F => t_AROUND TX F) ?_
        refine wa_nil ?_
        exact ⟨rfl, _, fun _ => .cons .im (.cons .im .nil), _, _, rfl, rfl, R.sat.imp h (fun _ _ h => cp_ok h) fun _ h => h.elim⟩
      refine comp_fin rfl h (fun y1 acc T hm h s H C cl fp => ?_) (fun y1 acc T hm h s H C cl fp => ?_)
      · refine wts_one ?_
        refine wt_wc ?_
        refine wc_ne Bool hr.units ?_
        refine we_wc ?_
        refine wc_inC (i := 0) (j := 0) hr.units rfl rfl ?_
        refine we_var (α := Cell) (i := 6) rfl rfl ?_
        refine ⟨_, rfl, ?_⟩
        refine we_var (α := Bool) (i := 1) rfl rfl ?_
        exact ⟨rfl, h⟩
      · refine we_var (α := Cell) (i := 6) rfl rfl ?_
        exact ⟨rfl, h⟩
    refine wss_cons ?_
    refine ws_if (wt_cut h (fun T h => ?_) (fun b4 h => ite_on h (fun hb h => ?_) (fun hb h => ?_)))
    · refine wt_wc ?_
      refine wc_eq (List Cell) hr.units ?_
      refine we_var (α := (List Cell)) (i := 3) rfl rfl ?_
      refine we_listL (α := Cell) ?_
      refine wl_nil ?_
      refine ⟨by show (0 : Nat) ≤ sizeLine; decide, ?_⟩
      exact ⟨rfl, h⟩
    · refine wss_one ?_
      refine ws_ret (α := (Tup Str)) ?_
      refine we_tupL (α := Str) ?_
      refine wl_cons ?_
      refine we_str ?_
      refine wl_nil ?_
      refine ⟨by show (1 : Nat) ≤ sizeLine; decide, ?_⟩
      exact ret_im h
    refine wss_nil ?_
    refine wss_cons ?_
    refine ws_setLcB (i := 4) (α := Cell) (β := Cell) (own := [("near", 6)]) (fun (y5 : Cell) => R.ok (eqB (memb y5 a_some) a_rest)) (fun (y5 : Cell) => R.ok y5) h rfl SC.nd (blkOk_by rfl) rfl (tgu_name (i := 6) SC.nd rfl (by decide)) (fun T h => ?_) (fun lacking_7 h => ?_)
    · refine wi_list ?_
      refine we_cut h (fun T h => ?_) (fun x6 h => ?_)
      · refine we_callV (γ := (List Cell)) (Γd := []) OK_near_cells (hr.mono (by decide)) (g_near_cells TX) FD_k_near_cells BI_near_cells .nil (fun _ _ => trivial) ?_
        refine wa_e (α := Cell) ?_
        refine we_var (α := Cell) (i := 2) rfl rfl ?_
        refine wa_e (α := (Tup Cell)) ?_
        refine we_glob (y := v_SIDES) (v := .ref (He.ga K "SIDES")) (g_SIDES TX) rfl (fun F => t_SIDES TX F) ?_
        refine wa_nil ?_
        exact ⟨rfl, _, fun _ => .cons .im (.cons .im .nil), _, _, rfl, rfl, R.sat.imp h (fun _ _ h => cp_ok h) fun _ h => h.elim⟩
      refine comp_fin rfl h (fun y5 acc T hm h s H C cl fp => ?_) (fun y5 acc T hm h s H C cl fp => ?_)
      · refine wts_one ?_
        refine wt_wc ?_
        refine wc_eq Bool hr.units ?_
        refine we_wc ?_
        refine wc_inC (i := 0) (j := 0) hr.units rfl rfl ?_
        refine we_var (α := Cell) (i := 6) rfl rfl ?_
        refine ⟨_, rfl, ?_⟩
        refine we_var (α := Bool) (i := 1) rfl rfl ?_
        exact ⟨rfl, h⟩
      · refine we_var (α := Cell) (i := 6) rfl rfl ?_
        exact ⟨rfl, h⟩
    refine wss_cons ?_
    refine ws_if (wt_cut h (fun T h => ?_) (fun b8 h => ite_on h (fun hb h => ?_) (fun hb h => ?_)))
    · refine wt_wc ?_
      refine wc_eq (List Cell) hr.units ?_
      refine we_var (α := (List Cell)) (i := 4) rfl rfl ?_
      refine we_listL (α := Cell) ?_
      refine wl_nil ?_
      refine ⟨by show (0 : Nat) ≤ sizeLine; decide, ?_⟩
      exact ⟨rfl, h⟩
    · refine wss_one ?_
      refine ws_ret (α := (Tup Str)) ?_
      refine we_tupL (α := Str) ?_
      refine wl_cons ?_
      refine we_str ?_
      refine wl_nil ?_
      refine ⟨by show (1 : Nat) ≤ sizeLine; decide, ?_⟩
      exact ret_im h
    refine wss_nil ?_
    refine wss_cons ?_
    refine ws_setG (i := 5) SC.nd rfl ?_
    refine wg_call (Γd := []) OK_flooded (hr.mono (by decide)) (g_flooded TX) FD_k_flooded BI_flooded .nil (fun _ _ => trivial) ?_
    refine wa_cons ?_
    refine wg_call (Γd := []) OK_noted (hr.mono (by decide)) (g_noted TX) FD_k_noted BI_noted .nil (fun _ _ => trivial) ?_
    refine wa_e (α := (List Cell)) ?_
    refine we_var (α := (List Cell)) (i := 3) rfl rfl ?_
    refine wa_nil ?_
    refine ⟨[], [], [sq inside_3], by decide, trivial, .cons rn_sqL .nil, _, rfl, rfl, R.sat.imp (R.bind_sat.mp h) (fun y9 _ h => ⟨rfl, mu 1, .mu (.inr ⟨0, rfl, rfl⟩), ?_⟩) (fun _ h => ⟨rfl, h.elim⟩)⟩
    refine wa_e (α := Cell) ?_
    refine we_cut h (fun T h => ?_) (fun x10 h => ?_)
    · refine we_ixL (α := Cell) ?_
      refine we_var (α := (List Cell)) (i := 3) rfl rfl ?_
      refine we_int ?_
      exact idx_fin h
    refine wa_e (α := (Tup Cell)) ?_
    refine we_glob (y := v_AROUND) (v := .ref (He.ga K "AROUND")) (g_AROUND TX) rfl (fun F => t_AROUND TX F) ?_
    refine wa_nil ?_
    refine ⟨[1], [kd y9], [mu 0, im x10, im v_AROUND], by decide, ⟨rfl, rfl, trivial⟩, .cons (.mu rfl) (.cons .im (.cons .im .nil)), _, _, _, rfl, rfl, R.sat.imp (sat_nx (R.bind_sat.mp h)) (fun y11 _ h => ⟨rfl, mu 2, .mu (.inr ⟨0, rfl, rfl⟩), ?_⟩) (fun _ h => h.elim)⟩
    refine wss_cons ?_
    refine ws_if (wt_cut h (fun T h => ?_) (fun b12 h => ite_on h (fun hb h => ?_) (fun hb h => ?_)))
    · refine wt_wc ?_
      refine wc_lt ?_
      refine we_lenQ (α := Cell) (z_len TX) ?_
      refine wsr_mu (α := Cell) (i := 5) (j := 2) rfl rfl rfl ?_
      refine we_lenQ (α := Cell) (z_len TX) ?_
      refine wsr_l ?_
      refine we_var (α := (List Cell)) (i := 3) rfl rfl ?_
      exact ⟨rfl, h⟩
    · refine wss_one ?_
      refine ws_ret (α := (Str × Tup Cell)) ?_
      refine we_pair ?_
      refine we_str ?_
      refine we_tupQ (α := Cell) (z_tuple TX) ?_
      refine wsr_l ?_
      refine we_sorted (α := Cell) rfl (room128 hr) (z_sorted TX) ?_
      refine wsr_mu (α := Cell) (i := 5) (j := 2) rfl rfl rfl ?_
      exact ret_im h
    refine wss_nil ?_
    refine wss_one ?_
    refine ws_retG (wg_tupS ?_)
    refine wa_e (α := Str) ?_
    refine we_str ?_
    refine wa_cons (wg_mu (i := 5) (j := 2) rfl rfl ?_)
    refine wa_e (α := Cell) ?_
    refine we_cut h (fun T h => ?_) (fun x13 h => ?_)
    · refine we_ixL (α := Cell) ?_
      refine we_var (α := (List Cell)) (i := 4) rfl rfl ?_
      refine we_int ?_
      exact idx_fin h
    refine wa_nil ?_
    refine ⟨by show (3 : Nat) ≤ sizeLine; decide, ?_⟩
    exact ret_loose (Nat.le_of_ble_eq_true rfl) rfl h
theorem why_ret {y : Why} {Pr : Sl → List MC → Prop} (h : Pr (whyS 0 y) (whyM y)) {ks : List Cell} : ((kd ks :: whyM y).take 1).all (·.live) = true ∧ ∃ g', Rn (rhoC [0] 1) (whyS 1 y) g' ∧ Ret 0 Pr g' (joinM [kd ks] [0] (kd ks :: whyM y)) := by
  cases y with
  | alone => exact ⟨rfl, _, .im, ret_im h⟩
  | inner => exact ⟨rfl, _, .im, ret_im h⟩
  | bridge c => exact ⟨rfl, _, .im, ret_im h⟩
  | loose c s => exact ⟨rfl, tupS [im ("loose" : Str), mu 1, im s], .tup (.cons .im (.cons (.mu (.inr ⟨0, rfl, rfl⟩)) (.cons .im .nil))), ret_loose (n := 0) (j := 1) (Nat.le_of_ble_eq_true rfl) rfl h⟩
def m_why_loose (a_shape : ((Tup Cell) × Bool)) (a_cell : Cell) : R Why :=
  (m_noted ((a_shape.1).items)).bind fun y1 => (R.ok (eqB (memb a_cell y1) (a_shape.2))).bind fun b2 => R.ite b2 (R.bad) (nx (m_why_around y1 a_shape.2 a_cell))
def fs_why_loose : Fs := ⟨fun Γ m P PE => ∃ (a_shape : ((Tup Cell) × Bool)) (a_cell : Cell), Γ = [im a_shape, im a_cell] ∧ m = [] ∧ (m_why_loose a_shape a_cell).sat (fun y => P (whyS 0 y) (whyM y)) fun e => PE e []⟩
theorem ok_why_loose (TX : Tx K mg) {fd : FuncData} (F : FD_why_loose K fd) {fd_noted : FuncData} (F_noted : FD_noted K fd_noted) (OK_noted : FnOk P w K mg base (L2.CX P w) 1 (He.ga K "noted") fd_noted ["cells"] (spF K fs_noted)) {fd_why_around : FuncData} (F_why_around : FD_why_around K fd_why_around) (OK_why_around : FnOk P w K mg base (L2.CX P w) 2 (He.ga K "why_around") fd_why_around ["some", "rest", "cell"] (spF K fs_why_around)) : FnOk P w K mg base (L2.CX P w) 3 (He.ga K "why_loose") fd ["shape", "cell"] (spF K fs_why_loose) := by
  have SC := sc_why_loose
  have FD_k_noted := F_noted.kp
  have BI_noted := b_noted F_noted
  have FD_k_why_around := F_why_around.kp
  have BI_why_around := b_why_around F_why_around
  refine fn_ok F sc_why_loose (fun Γ m P PE h => ?_) (fun cdv A outer s H E B Γ m Pr PE hr h => ?_)
  · obtain ⟨_, _, rfl, _⟩ := h
    rfl
  · obtain ⟨a_shape, a_cell, rfl, rfl, h⟩ := h
    show WSs _ _ _ _ [im a_shape, im a_cell, un] [] _
    refine wss_cons ?_
    refine ws_setG (i := 2) SC.nd rfl ?_
    refine wg_call (Γd := []) OK_noted (hr.mono (by decide)) (g_noted TX) FD_k_noted BI_noted .nil (fun _ _ => trivial) ?_
    refine wa_e (α := (Tup Cell)) ?_
    refine we_fst (α := (Tup Cell)) (β := Bool) ?_
    refine we_var (α := ((Tup Cell) × Bool)) (i := 0) rfl rfl ?_
    refine wa_nil ?_
    refine ⟨[], [], [sq ((a_shape.1).items)], by decide, trivial, .cons rn_sqT .nil, _, rfl, rfl, R.sat.imp (R.bind_sat.mp h) (fun y1 _ h => ⟨rfl, mu 0, .mu (.inr ⟨0, rfl, rfl⟩), ?_⟩) (fun _ h => ⟨rfl, h⟩)⟩
    refine wss_cons ?_
    refine ws_if (wt_cut h (fun T h => ?_) (fun b2 h => ite_on h (fun hb h => ?_) (fun hb h => ?_)))
    · refine wt_wc ?_
      refine wc_eq Bool hr.units ?_
      refine we_wc ?_
      refine wc_inC (i := 2) (j := 0) hr.units rfl rfl ?_
      refine we_var (α := Cell) (i := 1) rfl rfl ?_
      refine ⟨_, rfl, ?_⟩
      refine we_snd (α := (Tup Cell)) (β := Bool) ?_
      refine we_var (α := ((Tup Cell) × Bool)) (i := 0) rfl rfl ?_
      exact ⟨rfl, h⟩
    · refine wss_one ?_
      exact h.elim
    refine wss_nil ?_
    refine wss_one ?_
    refine ws_retG (wg_call (Γd := []) OK_why_around (hr.mono (by decide)) (g_why_around TX) FD_k_why_around BI_why_around .nil (fun _ _ => trivial) ?_)
    refine wa_cons (wg_mu (i := 2) (j := 0) rfl rfl ?_)
    refine wa_e (α := Bool) ?_
    refine we_snd (α := (Tup Cell)) (β := Bool) ?_
    refine we_var (α := ((Tup Cell) × Bool)) (i := 0) rfl rfl ?_
    refine wa_e (α := Cell) ?_
    refine we_var (α := Cell) (i := 1) rfl rfl ?_
    refine wa_nil ?_
    exact ⟨[0], [kd y1], [mu 0, im (a_shape.2), im a_cell], by decide, ⟨rfl, rfl, trivial⟩, .cons (.mu rfl) (.cons .im (.cons .im .nil)), _, _, _, rfl, rfl, R.sat.imp (sat_nx h) (fun y _ h => why_ret h) (fun _ h => h.elim)⟩
def m__law_right_word (a_told : (Tup Str)) (a_shape : ((Tup Cell) × Bool)) (a_cell : Cell) : R Bool :=
  (m__law_around a_shape a_cell : R (List Cell)).bind fun near_1 => (R.ok ([((a_cell.1 - 1), a_cell.2), (a_cell.1, (a_cell.2 - 1)), (a_cell.1, (a_cell.2 + 1)), ((a_cell.1 + 1), a_cell.2)] : (List Cell)) : R (List Cell)).bind fun sides_2 => (comp (fun (y3 : Cell) => (m__law_has a_shape y3).bind fun c4 => R.ok (!c4)) (fun (y3 : Cell) => R.ok y3) sides_2 : R (List Cell)).bind fun lacking_5 => (m__law_fallen near_1 false : R (List (Tup Cell))).bind fun hang_6 => (((R.ok (PyData.isTuple (Datum.toD a_told))).bind fun c7 => R.ok (!c7)).bind fun c11 => R.ite c11 (R.ok true) ((R.ok (PyData.eqv (Datum.toD a_told) (Datum.toD (⟨[]⟩ : (Tup Int))))).bind fun c10 => R.ite c10 (R.ok true) (((idx (a_told).items 0).bind fun x8 => R.ok (PyData.isStr (Datum.toD x8))).bind fun c9 => R.ok (!c9)))).bind fun b12 => R.ite b12 (R.ok false) ((R.ok (eqB near_1 ([] : (List Cell)))).bind fun b13 => R.ite b13 (R.ok (eqB a_told (⟨[("alone" : Str)]⟩ : (Tup Str)))) ((R.ok (eqB lacking_5 ([] : (List Cell)))).bind fun b14 => R.ite b14 (R.ok (eqB a_told (⟨[("inner" : Str)]⟩ : (Tup Str)))) ((R.ok (decide (1 < ((hang_6).length : Int)))).bind fun b15 => R.ite b15 ((R.ok (eqB (((a_told).items).length : Int) (2))).bind fun c19 => R.ite c19 ((((idx hang_6 0).bind fun x16 => R.ok (("bridge" : Str), x16)).bind fun x17 => R.ok (PyData.eqv (Datum.toD a_told) (Datum.toD x17))).bind fun c18 => R.ite c18 (R.bad) (R.ok false)) (R.ok false)) (((R.ok (neB (((a_told).items).length : Int) (3))).bind fun c22 => R.ite c22 (R.ok true) (((idx (a_told).items 0).bind fun x20 => R.ok (neB x20 ("loose" : Str))).bind fun c21 => R.ite c21 (R.ok true) (R.bad))).bind fun b23 => R.ite b23 (R.ok false) (R.bad)))))
def fs__law_right_word : Fs := ⟨fun Γ m P PE => ∃ (a_told : (Tup Str)) (a_shape : ((Tup Cell) × Bool)) (a_cell : Cell), Γ = [im a_told, im a_shape, im a_cell] ∧ m = [] ∧ (m__law_right_word a_told a_shape a_cell).sat (fun y => P (im y) []) fun e => PE e []⟩
theorem ok__law_right_word (TX : Tx K mg) {fd : FuncData} (F : FD__law_right K fd) {fd__law_around : FuncData} (F__law_around : FD__law_around K fd__law_around) (OK__law_around : FnOk P w K mg base (L2.CX P w) 2 (He.ga K "_law_around") fd__law_around ["shape", "cell"] (spF K fs__law_around)) {fd__law_fallen : FuncData} (F__law_fallen : FD__law_fallen K fd__law_fallen) (OK__law_fallen : FnOk P w K mg base (L2.CX P w) 1 (He.ga K "_law_fallen") fd__law_fallen ["cells", "sides"] (spF K fs__law_fallen)) {fd__law_cells : FuncData} (F__law_cells : FD__law_cells K fd__law_cells) (OK__law_cells : FnOk P w K mg base (L2.CX P w) 1 (He.ga K "_law_cells") fd__law_cells ["found"] (spF K fs__law_cells)) {fd__law_chain : FuncData} (F__law_chain : FD__law_chain K fd__law_chain) (OK__law_chain : FnOk P w K mg base (L2.CX P w) 2 (He.ga K "_law_chain") fd__law_chain ["chain", "near"] (spF K fs__law_chain)) {fd__law_has : FuncData} (F__law_has : FD__law_has K fd__law_has) (OK__law_has : FnOk P w K mg base (L2.CX P w) 1 (He.ga K "_law_has") fd__law_has ["shape", "cell"] (spF K fs__law_has)) : FnOk P w K mg base (L2.CX P w) 3 (He.ga K "_law_right") fd ["told", "shape", "cell"] (spF K fs__law_right_word) := by
  have SC := sc__law_right
  have FD_k__law_around := F__law_around.kp
  have BI__law_around := b__law_around F__law_around
  have FD_k__law_fallen := F__law_fallen.kp
  have BI__law_fallen := b__law_fallen F__law_fallen
  have FD_k__law_cells := F__law_cells.kp
  have BI__law_cells := b__law_cells F__law_cells
  have FD_k__law_chain := F__law_chain.kp
  have BI__law_chain := b__law_chain F__law_chain
  have FD_k__law_has := F__law_has.kp
  have BI__law_has := b__law_has F__law_has
  refine fn_ok F sc__law_right (fun Γ m P PE h => ?_) (fun cdv A outer s H E B Γ m Pr PE hr h => ?_)
  · obtain ⟨_, _, _, rfl, _⟩ := h
    rfl
  · obtain ⟨a_told, a_shape, a_cell, rfl, rfl, h⟩ := h
    show WSs _ _ _ _ [im a_told, im a_shape, im a_cell, un, un, un, un, un] [] _
    refine wss_cons ?_
    refine ws_set (α := (List Cell)) (i := 3) SC.nd rfl (we_cut h (fun T h => ?_) (fun near_1 h => ?_))
    · refine we_callV (γ := (List Cell)) (Γd := []) OK__law_around (hr.mono (by decide)) (g__law_around TX) FD_k__law_around BI__law_around .nil (fun _ _ => trivial) ?_
      refine wa_e (α := ((Tup Cell) × Bool)) ?_
      refine we_var (α := ((Tup Cell) × Bool)) (i := 1) rfl rfl ?_
      refine wa_e (α := Cell) ?_
      refine we_var (α := Cell) (i := 2) rfl rfl ?_
      refine wa_nil ?_
      exact ⟨rfl, _, fun _ => .cons .im (.cons .im .nil), _, _, rfl, rfl, R.sat.imp h (fun _ _ h => cp_ok h) fun _ h => h⟩
    refine wss_cons ?_
    refine ws_set (α := (List Cell)) (i := 4) SC.nd rfl (we_cut h (fun T h => ?_) (fun sides_2 h => ?_))
    · refine we_listL (α := Cell) ?_
      refine wl_cons ?_
      refine we_pair ?_
      refine we_sub ?_
      refine we_fst (α := Int) (β := Int) ?_
      refine we_var (α := Cell) (i := 2) rfl rfl ?_
      refine we_int ?_
      refine we_snd (α := Int) (β := Int) ?_
      refine we_var (α := Cell) (i := 2) rfl rfl ?_
      refine wl_cons ?_
      refine we_pair ?_
      refine we_fst (α := Int) (β := Int) ?_
      refine we_var (α := Cell) (i := 2) rfl rfl ?_
      refine we_sub ?_
      refine we_snd (α := Int) (β := Int) ?_
      refine we_var (α := Cell) (i := 2) rfl rfl ?_
      refine we_int ?_
      refine wl_cons ?_
      refine we_pair ?_
      refine we_fst (α := Int) (β := Int) ?_
      refine we_var (α := Cell) (i := 2) rfl rfl ?_
      refine we_add ?_
      refine we_snd (α := Int) (β := Int) ?_
      refine we_var (α := Cell) (i := 2) rfl rfl ?_
      refine we_int ?_
      refine wl_cons ?_
      refine we_pair ?_
      refine we_add ?_
      refine we_fst (α := Int) (β := Int) ?_
      refine we_var (α := Cell) (i := 2) rfl rfl ?_
      refine we_int ?_
      refine we_snd (α := Int) (β := Int) ?_
      refine we_var (α := Cell) (i := 2) rfl rfl ?_
      refine wl_nil ?_
      refine ⟨by show (4 : Nat) ≤ sizeLine; decide, ?_⟩
      exact ⟨rfl, h⟩
    refine wss_cons ?_
    refine ws_setLcB (i := 5) (α := Cell) (β := Cell) (own := [("one", 7)]) (fun (y3 : Cell) => (m__law_has a_shape y3).bind fun c4 => R.ok (!c4)) (fun (y3 : Cell) => R.ok y3) h rfl SC.nd (blkOk_by rfl) rfl (tgu_name (i := 7) SC.nd rfl (by decide)) (fun T h => ?_) (fun lacking_5 h => ?_)
    · refine wi_list ?_
      refine we_var (α := (List Cell)) (i := 4) rfl rfl ?_
      refine comp_fin rfl h (fun y3 acc T hm h s H C cl fp => ?_) (fun y3 acc T hm h s H C cl fp => ?_)
      · refine wts_one ?_
        refine wt_not (wt_cut h (fun T h => ?_) (fun c h => ⟨rfl, h⟩))
        refine wt_val ?_
        refine we_callV (γ := Bool) (Γd := []) OK__law_has (hr.mono (by decide)) (g__law_has TX) FD_k__law_has BI__law_has .nil (fun _ _ => trivial) ?_
        refine wa_e (α := ((Tup Cell) × Bool)) ?_
        refine we_var (α := ((Tup Cell) × Bool)) (i := 1) rfl rfl ?_
        refine wa_e (α := Cell) ?_
        refine we_var (α := Cell) (i := 7) rfl rfl ?_
        refine wa_nil ?_
        exact ⟨rfl, _, fun _ => .cons .im (.cons .im .nil), _, _, rfl, rfl, R.sat.imp h (fun _ _ h => cp_ok h) fun _ h => h⟩
      · refine we_var (α := Cell) (i := 7) rfl rfl ?_
        exact ⟨rfl, h⟩
    refine wss_cons ?_
    refine ws_set (α := (List (Tup Cell))) (i := 6) SC.nd rfl (we_cut h (fun T h => ?_) (fun hang_6 h => ?_))
    · refine we_callV (γ := (List (Tup Cell))) (Γd := []) OK__law_fallen (hr.mono (by decide)) (g__law_fallen TX) FD_k__law_fallen BI__law_fallen .nil (fun _ _ => trivial) ?_
      refine wa_e (α := (List Cell)) ?_
      refine we_var (α := (List Cell)) (i := 3) rfl rfl ?_
      refine wa_e (α := Bool) ?_
      refine we_bool ?_
      refine wa_nil ?_
      exact ⟨rfl, _, fun _ => .cons .im (.cons .im .nil), _, _, rfl, rfl, R.sat.imp h (fun _ _ h => cp_ok h) fun _ h => h⟩
    refine wss_cons ?_
    refine ws_if (wt_cut h (fun T h => ?_) (fun b12 h => ite_on h (fun hb h => ?_) (fun hb h => ?_)))
    · refine wt_ww ?_
      refine ww_or (wt_cut h (fun T h => ?_) (fun c h => ite_on h (fun hc h => ⟨rfl, h⟩) (fun hc h => ?_)))
      · refine wt_not (wt_cut h (fun T h => ?_) (fun c h => ⟨rfl, h⟩))
        refine wt_val ?_
        refine we_isa (f := PyData.isTuple) (fun s v d as Q r h => PySem.W.isinstance_tuple_data r h) (z_isinstance TX) (z_tuple TX) PyProof.Rows.boot_tuple ?_
        refine WE.dyn (α := (Tup Str)) ?_
        refine we_var (α := (Tup Str)) (i := 0) rfl rfl ?_
        exact ⟨rfl, h⟩
      refine ww_or (wt_cut h (fun T h => ?_) (fun c h => ite_on h (fun hc h => ⟨rfl, h⟩) (fun hc h => ?_)))
      · refine wt_wc ?_
        refine wc_eqT (Tup Str) (Tup Int) hr.units ?_
        refine we_var (α := (Tup Str)) (i := 0) rfl rfl ?_
        refine we_tupL (α := Int) ?_
        refine wl_nil ?_
        refine ⟨by show (0 : Nat) ≤ sizeLine; decide, ?_⟩
        exact ⟨rfl, h⟩
      refine ww_or1 ?_
      refine wt_not (wt_cut h (fun T h => ?_) (fun c h => ⟨rfl, h⟩))
      refine wt_val ?_
      refine we_isa (f := PyData.isStr) (fun s v d as Q r h => PySem.W.isinstance_str_data r h) (z_isinstance TX) (z_str TX) PyProof.Rows.boot_str ?_
      refine WE.dyn (α := Str) ?_
      refine we_cut h (fun T h => ?_) (fun x8 h => ?_)
      · refine we_ixT (α := Str) ?_
        refine we_var (α := (Tup Str)) (i := 0) rfl rfl ?_
        refine we_int ?_
        exact idx_fin h
      exact ⟨rfl, h⟩
    · refine wss_one ?_
      refine ws_ret (α := Bool) (we_end h (fun T h => ?_) (fun y h => ret_im h))
      refine we_bool ?_
      exact ⟨rfl, h⟩
    refine wss_nil ?_
    refine wss_cons ?_
    refine ws_if (wt_cut h (fun T h => ?_) (fun b13 h => ite_on h (fun hb h => ?_) (fun hb h => ?_)))
    · refine wt_wc ?_
      refine wc_eq (List Cell) hr.units ?_
      refine we_var (α := (List Cell)) (i := 3) rfl rfl ?_
      refine we_listL (α := Cell) ?_
      refine wl_nil ?_
      refine ⟨by show (0 : Nat) ≤ sizeLine; decide, ?_⟩
      exact ⟨rfl, h⟩
    · refine wss_one ?_
      refine ws_ret (α := Bool) (we_end h (fun T h => ?_) (fun y h => ret_im h))
      refine we_wc ?_
      refine wc_eq (Tup Str) hr.units ?_
      refine we_var (α := (Tup Str)) (i := 0) rfl rfl ?_
      refine we_tupL (α := Str) ?_
      refine wl_cons ?_
      refine we_str ?_
      refine wl_nil ?_
      refine ⟨by show (1 : Nat) ≤ sizeLine; decide, ?_⟩
      exact ⟨rfl, h⟩
    refine wss_nil ?_
    refine wss_cons ?_
    refine ws_if (wt_cut h (fun T h => ?_) (fun b14 h => ite_on h (fun hb h => ?_) (fun hb h => ?_)))
    · refine wt_wc ?_
      refine wc_eq (List Cell) hr.units ?_
      refine we_var (α := (List Cell)) (i := 5) rfl rfl ?_
      refine we_listL (α := Cell) ?_
      refine wl_nil ?_
      refine ⟨by show (0 : Nat) ≤ sizeLine; decide, ?_⟩
      exact ⟨rfl, h⟩
    · refine wss_one ?_
      refine ws_ret (α := Bool) (we_end h (fun T h => ?_) (fun y h => ret_im h))
      refine we_wc ?_
      refine wc_eq (Tup Str) hr.units ?_
      refine we_var (α := (Tup Str)) (i := 0) rfl rfl ?_
      refine we_tupL (α := Str) ?_
      refine wl_cons ?_
      refine we_str ?_
      refine wl_nil ?_
      refine ⟨by show (1 : Nat) ≤ sizeLine; decide, ?_⟩
      exact ⟨rfl, h⟩
    refine wss_nil ?_
    refine wss_cons ?_
    refine ws_if (wt_cut h (fun T h => ?_) (fun b15 h => ite_on h (fun hb h => ?_) (fun hb h => ?_)))
    · refine wt_wc ?_
      refine wc_gt ?_
      refine we_lenQ (α := (Tup Cell)) (z_len TX) ?_
      refine wsr_l ?_
      refine we_var (α := (List (Tup Cell))) (i := 6) rfl rfl ?_
      refine we_int ?_
      exact ⟨rfl, h⟩
    · refine wss_one ?_
      refine ws_ret (α := Bool) (we_end h (fun T h => ?_) (fun y h => ret_im h))
      refine we_andV (we_cut h (fun T h => ?_) (fun c h => ite_on h (fun hc h => ?_) (fun hc h => ⟨rfl, h⟩)))
      · refine we_wc ?_
        refine wc_eq Int hr.units ?_
        refine we_lenQ (α := Str) (z_len TX) ?_
        refine wsr_t ?_
        refine we_var (α := (Tup Str)) (i := 0) rfl rfl ?_
        refine we_int ?_
        exact ⟨rfl, h⟩
      refine we_andV (we_cut h (fun T h => ?_) (fun c h => ite_on h (fun hc h => ?_) (fun hc h => ⟨rfl, h⟩)))
      · refine we_wc ?_
        refine wc_eqT (Tup Str) (Str × (Tup Cell)) hr.units ?_
        refine we_var (α := (Tup Str)) (i := 0) rfl rfl ?_
        refine we_cut h (fun T h => ?_) (fun x17 h => ?_)
        · refine we_pair ?_
          refine we_str ?_
          refine we_cut h (fun T h => ?_) (fun x16 h => ?_)
          · refine we_ixL (α := (Tup Cell)) ?_
            refine we_var (α := (List (Tup Cell))) (i := 6) rfl rfl ?_
            refine we_int ?_
            exact idx_fin h
          exact ⟨rfl, h⟩
        exact ⟨rfl, h⟩
      exact h.elim
    refine wss_nil ?_
    refine wss_cons ?_
    refine ws_if (wt_cut h (fun T h => ?_) (fun b23 h => ite_on h (fun hb h => ?_) (fun hb h => ?_)))
    · refine wt_ww ?_
      refine ww_or (wt_cut h (fun T h => ?_) (fun c h => ite_on h (fun hc h => ⟨rfl, h⟩) (fun hc h => ?_)))
      · refine wt_wc ?_
        refine wc_ne Int hr.units ?_
        refine we_lenQ (α := Str) (z_len TX) ?_
        refine wsr_t ?_
        refine we_var (α := (Tup Str)) (i := 0) rfl rfl ?_
        refine we_int ?_
        exact ⟨rfl, h⟩
      refine ww_or (wt_cut h (fun T h => ?_) (fun c h => ite_on h (fun hc h => ⟨rfl, h⟩) (fun hc h => ?_)))
      · refine wt_wc ?_
        refine wc_ne Str hr.units ?_
        refine we_cut h (fun T h => ?_) (fun x20 h => ?_)
        · refine we_ixT (α := Str) ?_
          refine we_var (α := (Tup Str)) (i := 0) rfl rfl ?_
          refine we_int ?_
          exact idx_fin h
        refine we_str ?_
        exact ⟨rfl, h⟩
      exact h.elim
    · refine wss_one ?_
      refine ws_ret (α := Bool) (we_end h (fun T h => ?_) (fun y h => ret_im h))
      refine we_bool ?_
      exact ⟨rfl, h⟩
    exact h.elim
def m__law_right_bridge (a_told : (Str × (Tup Cell))) (a_shape : ((Tup Cell) × Bool)) (a_cell : Cell) : R Bool :=
  (m__law_around a_shape a_cell : R (List Cell)).bind fun near_1 => (R.ok ([((a_cell.1 - 1), a_cell.2), (a_cell.1, (a_cell.2 - 1)), (a_cell.1, (a_cell.2 + 1)), ((a_cell.1 + 1), a_cell.2)] : (List Cell)) : R (List Cell)).bind fun sides_2 => (comp (fun (y3 : Cell) => (m__law_has a_shape y3).bind fun c4 => R.ok (!c4)) (fun (y3 : Cell) => R.ok y3) sides_2 : R (List Cell)).bind fun lacking_5 => (m__law_fallen near_1 false : R (List (Tup Cell))).bind fun hang_6 => (((R.ok (PyData.isTuple (Datum.toD a_told))).bind fun c7 => R.ok (!c7)).bind fun c10 => R.ite c10 (R.ok true) ((R.ok (PyData.eqv (Datum.toD a_told) (Datum.toD (⟨[]⟩ : (Tup Int))))).bind fun c9 => R.ite c9 (R.ok true) ((R.ok (PyData.isStr (Datum.toD a_told.1))).bind fun c8 => R.ok (!c8)))).bind fun b11 => R.ite b11 (R.ok false) ((R.ok (eqB near_1 ([] : (List Cell)))).bind fun b12 => R.ite b12 (R.ok (PyData.eqv (Datum.toD a_told) (Datum.toD (⟨[("alone" : Str)]⟩ : (Tup Str))))) ((R.ok (eqB lacking_5 ([] : (List Cell)))).bind fun b13 => R.ite b13 (R.ok (PyData.eqv (Datum.toD a_told) (Datum.toD (⟨[("inner" : Str)]⟩ : (Tup Str))))) ((R.ok (decide (1 < ((hang_6).length : Int)))).bind fun b14 => R.ite b14 ((R.ok (eqB (2 : Int) (2))).bind fun c18 => R.ite c18 ((((idx hang_6 0).bind fun x15 => R.ok (("bridge" : Str), x15)).bind fun x16 => R.ok (eqB a_told x16)).bind fun c17 => R.ite c17 (m__law_cells ((a_told.2).items)) (R.ok false)) (R.ok false)) (((R.ok (neB (2 : Int) (3))).bind fun c20 => R.ite c20 (R.ok true) ((R.ok (neB (a_told.1) ("loose" : Str))).bind fun c19 => R.ite c19 (R.ok true) (R.bad))).bind fun b21 => R.ite b21 (R.ok false) (R.bad)))))
def fs__law_right_bridge : Fs := ⟨fun Γ m P PE => ∃ (a_told : (Str × (Tup Cell))) (a_shape : ((Tup Cell) × Bool)) (a_cell : Cell), Γ = [im a_told, im a_shape, im a_cell] ∧ m = [] ∧ (m__law_right_bridge a_told a_shape a_cell).sat (fun y => P (im y) []) fun e => PE e []⟩
theorem ok__law_right_bridge (TX : Tx K mg) {fd : FuncData} (F : FD__law_right K fd) {fd__law_around : FuncData} (F__law_around : FD__law_around K fd__law_around) (OK__law_around : FnOk P w K mg base (L2.CX P w) 2 (He.ga K "_law_around") fd__law_around ["shape", "cell"] (spF K fs__law_around)) {fd__law_fallen : FuncData} (F__law_fallen : FD__law_fallen K fd__law_fallen) (OK__law_fallen : FnOk P w K mg base (L2.CX P w) 1 (He.ga K "_law_fallen") fd__law_fallen ["cells", "sides"] (spF K fs__law_fallen)) {fd__law_cells : FuncData} (F__law_cells : FD__law_cells K fd__law_cells) (OK__law_cells : FnOk P w K mg base (L2.CX P w) 1 (He.ga K "_law_cells") fd__law_cells ["found"] (spF K fs__law_cells)) {fd__law_chain : FuncData} (F__law_chain : FD__law_chain K fd__law_chain) (OK__law_chain : FnOk P w K mg base (L2.CX P w) 2 (He.ga K "_law_chain") fd__law_chain ["chain", "near"] (spF K fs__law_chain)) {fd__law_has : FuncData} (F__law_has : FD__law_has K fd__law_has) (OK__law_has : FnOk P w K mg base (L2.CX P w) 1 (He.ga K "_law_has") fd__law_has ["shape", "cell"] (spF K fs__law_has)) : FnOk P w K mg base (L2.CX P w) 3 (He.ga K "_law_right") fd ["told", "shape", "cell"] (spF K fs__law_right_bridge) := by
  have SC := sc__law_right
  have FD_k__law_around := F__law_around.kp
  have BI__law_around := b__law_around F__law_around
  have FD_k__law_fallen := F__law_fallen.kp
  have BI__law_fallen := b__law_fallen F__law_fallen
  have FD_k__law_cells := F__law_cells.kp
  have BI__law_cells := b__law_cells F__law_cells
  have FD_k__law_chain := F__law_chain.kp
  have BI__law_chain := b__law_chain F__law_chain
  have FD_k__law_has := F__law_has.kp
  have BI__law_has := b__law_has F__law_has
  refine fn_ok F sc__law_right (fun Γ m P PE h => ?_) (fun cdv A outer s H E B Γ m Pr PE hr h => ?_)
  · obtain ⟨_, _, _, rfl, _⟩ := h
    rfl
  · obtain ⟨a_told, a_shape, a_cell, rfl, rfl, h⟩ := h
    show WSs _ _ _ _ [im a_told, im a_shape, im a_cell, un, un, un, un, un] [] _
    refine wss_cons ?_
    refine ws_set (α := (List Cell)) (i := 3) SC.nd rfl (we_cut h (fun T h => ?_) (fun near_1 h => ?_))
    · refine we_callV (γ := (List Cell)) (Γd := []) OK__law_around (hr.mono (by decide)) (g__law_around TX) FD_k__law_around BI__law_around .nil (fun _ _ => trivial) ?_
      refine wa_e (α := ((Tup Cell) × Bool)) ?_
      refine we_var (α := ((Tup Cell) × Bool)) (i := 1) rfl rfl ?_
      refine wa_e (α := Cell) ?_
      refine we_var (α := Cell) (i := 2) rfl rfl ?_
      refine wa_nil ?_
      exact ⟨rfl, _, fun _ => .cons .im (.cons .im .nil), _, _, rfl, rfl, R.sat.imp h (fun _ _ h => cp_ok h) fun _ h => h⟩
    refine wss_cons ?_
    refine ws_set (α := (List Cell)) (i := 4) SC.nd rfl (we_cut h (fun T h => ?_) (fun sides_2 h => ?_))
    · refine we_listL (α := Cell) ?_
      refine wl_cons ?_
      refine we_pair ?_
      refine we_sub ?_
      refine we_fst (α := Int) (β := Int) ?_
      refine we_var (α := Cell) (i := 2) rfl rfl ?_
      refine we_int ?_
      refine we_snd (α := Int) (β := Int) ?_
      refine we_var (α := Cell) (i := 2) rfl rfl ?_
      refine wl_cons ?_
      refine we_pair ?_
      refine we_fst (α := Int) (β := Int) ?_
      refine we_var (α := Cell) (i := 2) rfl rfl ?_
      refine we_sub ?_
      refine we_snd (α := Int) (β := Int) ?_
      refine we_var (α := Cell) (i := 2) rfl rfl ?_
      refine we_int ?_
      refine wl_cons ?_
      refine we_pair ?_
      refine we_fst (α := Int) (β := Int) ?_
      refine we_var (α := Cell) (i := 2) rfl rfl ?_
      refine we_add ?_
      refine we_snd (α := Int) (β := Int) ?_
      refine we_var (α := Cell) (i := 2) rfl rfl ?_
      refine we_int ?_
      refine wl_cons ?_
      refine we_pair ?_
      refine we_add ?_
      refine we_fst (α := Int) (β := Int) ?_
      refine we_var (α := Cell) (i := 2) rfl rfl ?_
      refine we_int ?_
      refine we_snd (α := Int) (β := Int) ?_
      refine we_var (α := Cell) (i := 2) rfl rfl ?_
      refine wl_nil ?_
      refine ⟨by show (4 : Nat) ≤ sizeLine; decide, ?_⟩
      exact ⟨rfl, h⟩
    refine wss_cons ?_
    refine ws_setLcB (i := 5) (α := Cell) (β := Cell) (own := [("one", 7)]) (fun (y3 : Cell) => (m__law_has a_shape y3).bind fun c4 => R.ok (!c4)) (fun (y3 : Cell) => R.ok y3) h rfl SC.nd (blkOk_by rfl) rfl (tgu_name (i := 7) SC.nd rfl (by decide)) (fun T h => ?_) (fun lacking_5 h => ?_)
    · refine wi_list ?_
      refine we_var (α := (List Cell)) (i := 4) rfl rfl ?_
      refine comp_fin rfl h (fun y3 acc T hm h s H C cl fp => ?_) (fun y3 acc T hm h s H C cl fp => ?_)
      · refine wts_one ?_
        refine wt_not (wt_cut h (fun T h => ?_) (fun c h => ⟨rfl, h⟩))
        refine wt_val ?_
        refine we_callV (γ := Bool) (Γd := []) OK__law_has (hr.mono (by decide)) (g__law_has TX) FD_k__law_has BI__law_has .nil (fun _ _ => trivial) ?_
        refine wa_e (α := ((Tup Cell) × Bool)) ?_
        refine we_var (α := ((Tup Cell) × Bool)) (i := 1) rfl rfl ?_
        refine wa_e (α := Cell) ?_
        refine we_var (α := Cell) (i := 7) rfl rfl ?_
        refine wa_nil ?_
        exact ⟨rfl, _, fun _ => .cons .im (.cons .im .nil), _, _, rfl, rfl, R.sat.imp h (fun _ _ h => cp_ok h) fun _ h => h⟩
      · refine we_var (α := Cell) (i := 7) rfl rfl ?_
        exact ⟨rfl, h⟩
    refine wss_cons ?_
    refine ws_set (α := (List (Tup Cell))) (i := 6) SC.nd rfl (we_cut h (fun T h => ?_) (fun hang_6 h => ?_))
    · refine we_callV (γ := (List (Tup Cell))) (Γd := []) OK__law_fallen (hr.mono (by decide)) (g__law_fallen TX) FD_k__law_fallen BI__law_fallen .nil (fun _ _ => trivial) ?_
      refine wa_e (α := (List Cell)) ?_
      refine we_var (α := (List Cell)) (i := 3) rfl rfl ?_
      refine wa_e (α := Bool) ?_
      refine we_bool ?_
      refine wa_nil ?_
      exact ⟨rfl, _, fun _ => .cons .im (.cons .im .nil), _, _, rfl, rfl, R.sat.imp h (fun _ _ h => cp_ok h) fun _ h => h⟩
    refine wss_cons ?_
    refine ws_if (wt_cut h (fun T h => ?_) (fun b11 h => ite_on h (fun hb h => ?_) (fun hb h => ?_)))
    · refine wt_ww ?_
      refine ww_or (wt_cut h (fun T h => ?_) (fun c h => ite_on h (fun hc h => ⟨rfl, h⟩) (fun hc h => ?_)))
      · refine wt_not (wt_cut h (fun T h => ?_) (fun c h => ⟨rfl, h⟩))
        refine wt_val ?_
        refine we_isa (f := PyData.isTuple) (fun s v d as Q r h => PySem.W.isinstance_tuple_data r h) (z_isinstance TX) (z_tuple TX) PyProof.Rows.boot_tuple ?_
        refine WE.dyn (α := (Str × (Tup Cell))) ?_
        refine we_var (α := (Str × (Tup Cell))) (i := 0) rfl rfl ?_
        exact ⟨rfl, h⟩
      refine ww_or (wt_cut h (fun T h => ?_) (fun c h => ite_on h (fun hc h => ⟨rfl, h⟩) (fun hc h => ?_)))
      · refine wt_wc ?_
        refine wc_eqT (Str × (Tup Cell)) (Tup Int) hr.units ?_
        refine we_var (α := (Str × (Tup Cell))) (i := 0) rfl rfl ?_
        refine we_tupL (α := Int) ?_
        refine wl_nil ?_
        refine ⟨by show (0 : Nat) ≤ sizeLine; decide, ?_⟩
        exact ⟨rfl, h⟩
      refine ww_or1 ?_
      refine wt_not (wt_cut h (fun T h => ?_) (fun c h => ⟨rfl, h⟩))
      refine wt_val ?_
      refine we_isa (f := PyData.isStr) (fun s v d as Q r h => PySem.W.isinstance_str_data r h) (z_isinstance TX) (z_str TX) PyProof.Rows.boot_str ?_
      refine WE.dyn (α := Str) ?_
      refine we_fst (α := Str) (β := (Tup Cell)) ?_
      refine we_var (α := (Str × (Tup Cell))) (i := 0) rfl rfl ?_
      exact ⟨rfl, h⟩
    · refine wss_one ?_
      refine ws_ret (α := Bool) (we_end h (fun T h => ?_) (fun y h => ret_im h))
      refine we_bool ?_
      exact ⟨rfl, h⟩
    refine wss_nil ?_
    refine wss_cons ?_
    refine ws_if (wt_cut h (fun T h => ?_) (fun b12 h => ite_on h (fun hb h => ?_) (fun hb h => ?_)))
    · refine wt_wc ?_
      refine wc_eq (List Cell) hr.units ?_
      refine we_var (α := (List Cell)) (i := 3) rfl rfl ?_
      refine we_listL (α := Cell) ?_
      refine wl_nil ?_
      refine ⟨by show (0 : Nat) ≤ sizeLine; decide, ?_⟩
      exact ⟨rfl, h⟩
    · refine wss_one ?_
      refine ws_ret (α := Bool) (we_end h (fun T h => ?_) (fun y h => ret_im h))
      refine we_wc ?_
      refine wc_eqT (Str × (Tup Cell)) (Tup Str) hr.units ?_
      refine we_var (α := (Str × (Tup Cell))) (i := 0) rfl rfl ?_
      refine we_tupL (α := Str) ?_
      refine wl_cons ?_
      refine we_str ?_
      refine wl_nil ?_
      refine ⟨by show (1 : Nat) ≤ sizeLine; decide, ?_⟩
      exact ⟨rfl, h⟩
    refine wss_nil ?_
    refine wss_cons ?_
    refine ws_if (wt_cut h (fun T h => ?_) (fun b13 h => ite_on h (fun hb h => ?_) (fun hb h => ?_)))
    · refine wt_wc ?_
      refine wc_eq (List Cell) hr.units ?_
      refine we_var (α := (List Cell)) (i := 5) rfl rfl ?_
      refine we_listL (α := Cell) ?_
      refine wl_nil ?_
      refine ⟨by show (0 : Nat) ≤ sizeLine; decide, ?_⟩
      exact ⟨rfl, h⟩
    · refine wss_one ?_
      refine ws_ret (α := Bool) (we_end h (fun T h => ?_) (fun y h => ret_im h))
      refine we_wc ?_
      refine wc_eqT (Str × (Tup Cell)) (Tup Str) hr.units ?_
      refine we_var (α := (Str × (Tup Cell))) (i := 0) rfl rfl ?_
      refine we_tupL (α := Str) ?_
      refine wl_cons ?_
      refine we_str ?_
      refine wl_nil ?_
      refine ⟨by show (1 : Nat) ≤ sizeLine; decide, ?_⟩
      exact ⟨rfl, h⟩
    refine wss_nil ?_
    refine wss_cons ?_
    refine ws_if (wt_cut h (fun T h => ?_) (fun b14 h => ite_on h (fun hb h => ?_) (fun hb h => ?_)))
    · refine wt_wc ?_
      refine wc_gt ?_
      refine we_lenQ (α := (Tup Cell)) (z_len TX) ?_
      refine wsr_l ?_
      refine we_var (α := (List (Tup Cell))) (i := 6) rfl rfl ?_
      refine we_int ?_
      exact ⟨rfl, h⟩
    · refine wss_one ?_
      refine ws_ret (α := Bool) (we_end h (fun T h => ?_) (fun y h => ret_im h))
      refine we_andV (we_cut h (fun T h => ?_) (fun c h => ite_on h (fun hc h => ?_) (fun hc h => ⟨rfl, h⟩)))
      · refine we_wc ?_
        refine wc_eq Int hr.units ?_
        refine we_lenF (α := (Str × (Tup Cell))) (n := 2) (fun x => ⟨_, rfl, rfl⟩) (z_len TX) ?_
        refine we_var (α := (Str × (Tup Cell))) (i := 0) rfl rfl ?_
        refine we_int ?_
        exact ⟨rfl, h⟩
      refine we_andV (we_cut h (fun T h => ?_) (fun c h => ite_on h (fun hc h => ?_) (fun hc h => ⟨rfl, h⟩)))
      · refine we_wc ?_
        refine wc_eq (Str × (Tup Cell)) hr.units ?_
        refine we_var (α := (Str × (Tup Cell))) (i := 0) rfl rfl ?_
        refine we_cut h (fun T h => ?_) (fun x16 h => ?_)
        · refine we_pair ?_
          refine we_str ?_
          refine we_cut h (fun T h => ?_) (fun x15 h => ?_)
          · refine we_ixL (α := (Tup Cell)) ?_
            refine we_var (α := (List (Tup Cell))) (i := 6) rfl rfl ?_
            refine we_int ?_
            exact idx_fin h
          exact ⟨rfl, h⟩
        exact ⟨rfl, h⟩
      refine we_one ?_
      refine we_callV (γ := Bool) (Γd := []) OK__law_cells (hr.mono (by decide)) (g__law_cells TX) FD_k__law_cells BI__law_cells .nil (fun _ _ => trivial) ?_
      refine wa_e (α := (Tup Cell)) ?_
      refine we_snd (α := Str) (β := (Tup Cell)) ?_
      refine we_var (α := (Str × (Tup Cell))) (i := 0) rfl rfl ?_
      refine wa_nil ?_
      exact ⟨rfl, _, fun _ => .cons rn_sqT .nil, _, rfl, rfl, R.sat.imp h (fun _ _ h => cp_ok h) fun _ h => h⟩
    refine wss_nil ?_
    refine wss_cons ?_
    refine ws_if (wt_cut h (fun T h => ?_) (fun b21 h => ite_on h (fun hb h => ?_) (fun hb h => ?_)))
    · refine wt_ww ?_
      refine ww_or (wt_cut h (fun T h => ?_) (fun c h => ite_on h (fun hc h => ⟨rfl, h⟩) (fun hc h => ?_)))
      · refine wt_wc ?_
        refine wc_ne Int hr.units ?_
        refine we_lenF (α := (Str × (Tup Cell))) (n := 2) (fun x => ⟨_, rfl, rfl⟩) (z_len TX) ?_
        refine we_var (α := (Str × (Tup Cell))) (i := 0) rfl rfl ?_
        refine we_int ?_
        exact ⟨rfl, h⟩
      refine ww_or (wt_cut h (fun T h => ?_) (fun c h => ite_on h (fun hc h => ⟨rfl, h⟩) (fun hc h => ?_)))
      · refine wt_wc ?_
        refine wc_ne Str hr.units ?_
        refine we_fst (α := Str) (β := (Tup Cell)) ?_
        refine we_var (α := (Str × (Tup Cell))) (i := 0) rfl rfl ?_
        refine we_str ?_
        exact ⟨rfl, h⟩
      exact h.elim
    · refine wss_one ?_
      refine ws_ret (α := Bool) (we_end h (fun T h => ?_) (fun y h => ret_im h))
      refine we_bool ?_
      exact ⟨rfl, h⟩
    exact h.elim
def m__law_right_loose (a_told : (T3 Str (List Cell) Cell)) (a_shape : ((Tup Cell) × Bool)) (a_cell : Cell) : R Bool :=
  (m__law_around a_shape a_cell : R (List Cell)).bind fun near_1 => (R.ok ([((a_cell.1 - 1), a_cell.2), (a_cell.1, (a_cell.2 - 1)), (a_cell.1, (a_cell.2 + 1)), ((a_cell.1 + 1), a_cell.2)] : (List Cell)) : R (List Cell)).bind fun sides_2 => (comp (fun (y3 : Cell) => (m__law_has a_shape y3).bind fun c4 => R.ok (!c4)) (fun (y3 : Cell) => R.ok y3) sides_2 : R (List Cell)).bind fun lacking_5 => (m__law_fallen near_1 false : R (List (Tup Cell))).bind fun hang_6 => (((R.ok (PyData.isTuple (Datum.toD a_told))).bind fun c7 => R.ok (!c7)).bind fun c10 => R.ite c10 (R.ok true) ((R.ok (PyData.eqv (Datum.toD a_told) (Datum.toD (⟨[]⟩ : (Tup Int))))).bind fun c9 => R.ite c9 (R.ok true) ((R.ok (PyData.isStr (Datum.toD (a_told).a))).bind fun c8 => R.ok (!c8)))).bind fun b11 => R.ite b11 (R.ok false) ((R.ok (eqB near_1 ([] : (List Cell)))).bind fun b12 => R.ite b12 (R.ok (PyData.eqv (Datum.toD a_told) (Datum.toD (⟨[("alone" : Str)]⟩ : (Tup Str))))) ((R.ok (eqB lacking_5 ([] : (List Cell)))).bind fun b13 => R.ite b13 (R.ok (PyData.eqv (Datum.toD a_told) (Datum.toD (⟨[("inner" : Str)]⟩ : (Tup Str))))) ((R.ok (decide (1 < ((hang_6).length : Int)))).bind fun b14 => R.ite b14 ((R.ok (eqB (3 : Int) (2))).bind fun c18 => R.ite c18 ((((idx hang_6 0).bind fun x15 => R.ok (("bridge" : Str), x15)).bind fun x16 => R.ok (PyData.eqv (Datum.toD a_told) (Datum.toD x16))).bind fun c17 => R.ite c17 (m__law_cells ((a_told).b)) (R.ok false)) (R.ok false)) (((R.ok (neB (3 : Int) (3))).bind fun c21 => R.ite c21 (R.ok true) ((R.ok (neB ((a_told).a) ("loose" : Str))).bind fun c20 => R.ite c20 (R.ok true) ((m__law_chain ((a_told).b) near_1).bind fun c19 => R.ok (!c19)))).bind fun b22 => R.ite b22 (R.ok false) ((m__law_cells ([(a_told).c] : (List Cell))).bind fun c24 => R.ite c24 ((idx lacking_5 0).bind fun x23 => R.ok (eqB ((a_told).c) x23)) (R.ok false))))))
def fs__law_right_loose : Fs := ⟨fun Γ m P PE => ∃ (a_told : (T3 Str (List Cell) Cell)) (a_shape : ((Tup Cell) × Bool)) (a_cell : Cell), Γ = [im a_told, im a_shape, im a_cell] ∧ m = [] ∧ (m__law_right_loose a_told a_shape a_cell).sat (fun y => P (im y) []) fun e => PE e []⟩
theorem ok__law_right_loose (TX : Tx K mg) {fd : FuncData} (F : FD__law_right K fd) {fd__law_around : FuncData} (F__law_around : FD__law_around K fd__law_around) (OK__law_around : FnOk P w K mg base (L2.CX P w) 2 (He.ga K "_law_around") fd__law_around ["shape", "cell"] (spF K fs__law_around)) {fd__law_fallen : FuncData} (F__law_fallen : FD__law_fallen K fd__law_fallen) (OK__law_fallen : FnOk P w K mg base (L2.CX P w) 1 (He.ga K "_law_fallen") fd__law_fallen ["cells", "sides"] (spF K fs__law_fallen)) {fd__law_cells : FuncData} (F__law_cells : FD__law_cells K fd__law_cells) (OK__law_cells : FnOk P w K mg base (L2.CX P w) 1 (He.ga K "_law_cells") fd__law_cells ["found"] (spF K fs__law_cells)) {fd__law_chain : FuncData} (F__law_chain : FD__law_chain K fd__law_chain) (OK__law_chain : FnOk P w K mg base (L2.CX P w) 2 (He.ga K "_law_chain") fd__law_chain ["chain", "near"] (spF K fs__law_chain)) {fd__law_has : FuncData} (F__law_has : FD__law_has K fd__law_has) (OK__law_has : FnOk P w K mg base (L2.CX P w) 1 (He.ga K "_law_has") fd__law_has ["shape", "cell"] (spF K fs__law_has)) : FnOk P w K mg base (L2.CX P w) 3 (He.ga K "_law_right") fd ["told", "shape", "cell"] (spF K fs__law_right_loose) := by
  have SC := sc__law_right
  have FD_k__law_around := F__law_around.kp
  have BI__law_around := b__law_around F__law_around
  have FD_k__law_fallen := F__law_fallen.kp
  have BI__law_fallen := b__law_fallen F__law_fallen
  have FD_k__law_cells := F__law_cells.kp
  have BI__law_cells := b__law_cells F__law_cells
  have FD_k__law_chain := F__law_chain.kp
  have BI__law_chain := b__law_chain F__law_chain
  have FD_k__law_has := F__law_has.kp
  have BI__law_has := b__law_has F__law_has
  refine fn_ok F sc__law_right (fun Γ m P PE h => ?_) (fun cdv A outer s H E B Γ m Pr PE hr h => ?_)
  · obtain ⟨_, _, _, rfl, _⟩ := h
    rfl
  · obtain ⟨a_told, a_shape, a_cell, rfl, rfl, h⟩ := h
    show WSs _ _ _ _ [im a_told, im a_shape, im a_cell, un, un, un, un, un] [] _
    refine wss_cons ?_
    refine ws_set (α := (List Cell)) (i := 3) SC.nd rfl (we_cut h (fun T h => ?_) (fun near_1 h => ?_))
    · refine we_callV (γ := (List Cell)) (Γd := []) OK__law_around (hr.mono (by decide)) (g__law_around TX) FD_k__law_around BI__law_around .nil (fun _ _ => trivial) ?_
      refine wa_e (α := ((Tup Cell) × Bool)) ?_
      refine we_var (α := ((Tup Cell) × Bool)) (i := 1) rfl rfl ?_
      refine wa_e (α := Cell) ?_
      refine we_var (α := Cell) (i := 2) rfl rfl ?_
      refine wa_nil ?_
      exact ⟨rfl, _, fun _ => .cons .im (.cons .im .nil), _, _, rfl, rfl, R.sat.imp h (fun _ _ h => cp_ok h) fun _ h => h⟩
    refine wss_cons ?_
    refine ws_set (α := (List Cell)) (i := 4) SC.nd rfl (we_cut h (fun T h => ?_) (fun sides_2 h => ?_))
    · refine we_listL (α := Cell) ?_
      refine wl_cons ?_
      refine we_pair ?_
      refine we_sub ?_
      refine we_fst (α := Int) (β := Int) ?_
      refine we_var (α := Cell) (i := 2) rfl rfl ?_
      refine we_int ?_
      refine we_snd (α := Int) (β := Int) ?_
      refine we_var (α := Cell) (i := 2) rfl rfl ?_
      refine wl_cons ?_
      refine we_pair ?_
      refine we_fst (α := Int) (β := Int) ?_
      refine we_var (α := Cell) (i := 2) rfl rfl ?_
      refine we_sub ?_
      refine we_snd (α := Int) (β := Int) ?_
      refine we_var (α := Cell) (i := 2) rfl rfl ?_
      refine we_int ?_
      refine wl_cons ?_
      refine we_pair ?_
      refine we_fst (α := Int) (β := Int) ?_
      refine we_var (α := Cell) (i := 2) rfl rfl ?_
      refine we_add ?_
      refine we_snd (α := Int) (β := Int) ?_
      refine we_var (α := Cell) (i := 2) rfl rfl ?_
      refine we_int ?_
      refine wl_cons ?_
      refine we_pair ?_
      refine we_add ?_
      refine we_fst (α := Int) (β := Int) ?_
      refine we_var (α := Cell) (i := 2) rfl rfl ?_
      refine we_int ?_
      refine we_snd (α := Int) (β := Int) ?_
      refine we_var (α := Cell) (i := 2) rfl rfl ?_
      refine wl_nil ?_
      refine ⟨by show (4 : Nat) ≤ sizeLine; decide, ?_⟩
      exact ⟨rfl, h⟩
    refine wss_cons ?_
    refine ws_setLcB (i := 5) (α := Cell) (β := Cell) (own := [("one", 7)]) (fun (y3 : Cell) => (m__law_has a_shape y3).bind fun c4 => R.ok (!c4)) (fun (y3 : Cell) => R.ok y3) h rfl SC.nd (blkOk_by rfl) rfl (tgu_name (i := 7) SC.nd rfl (by decide)) (fun T h => ?_) (fun lacking_5 h => ?_)
    · refine wi_list ?_
      refine we_var (α := (List Cell)) (i := 4) rfl rfl ?_
      refine comp_fin rfl h (fun y3 acc T hm h s H C cl fp => ?_) (fun y3 acc T hm h s H C cl fp => ?_)
      · refine wts_one ?_
        refine wt_not (wt_cut h (fun T h => ?_) (fun c h => ⟨rfl, h⟩))
        refine wt_val ?_
        refine we_callV (γ := Bool) (Γd := []) OK__law_has (hr.mono (by decide)) (g__law_has TX) FD_k__law_has BI__law_has .nil (fun _ _ => trivial) ?_
        refine wa_e (α := ((Tup Cell) × Bool)) ?_
        refine we_var (α := ((Tup Cell) × Bool)) (i := 1) rfl rfl ?_
        refine wa_e (α := Cell) ?_
        refine we_var (α := Cell) (i := 7) rfl rfl ?_
        refine wa_nil ?_
        exact ⟨rfl, _, fun _ => .cons .im (.cons .im .nil), _, _, rfl, rfl, R.sat.imp h (fun _ _ h => cp_ok h) fun _ h => h⟩
      · refine we_var (α := Cell) (i := 7) rfl rfl ?_
        exact ⟨rfl, h⟩
    refine wss_cons ?_
    refine ws_set (α := (List (Tup Cell))) (i := 6) SC.nd rfl (we_cut h (fun T h => ?_) (fun hang_6 h => ?_))
    · refine we_callV (γ := (List (Tup Cell))) (Γd := []) OK__law_fallen (hr.mono (by decide)) (g__law_fallen TX) FD_k__law_fallen BI__law_fallen .nil (fun _ _ => trivial) ?_
      refine wa_e (α := (List Cell)) ?_
      refine we_var (α := (List Cell)) (i := 3) rfl rfl ?_
      refine wa_e (α := Bool) ?_
      refine we_bool ?_
      refine wa_nil ?_
      exact ⟨rfl, _, fun _ => .cons .im (.cons .im .nil), _, _, rfl, rfl, R.sat.imp h (fun _ _ h => cp_ok h) fun _ h => h⟩
    refine wss_cons ?_
    refine ws_if (wt_cut h (fun T h => ?_) (fun b11 h => ite_on h (fun hb h => ?_) (fun hb h => ?_)))
    · refine wt_ww ?_
      refine ww_or (wt_cut h (fun T h => ?_) (fun c h => ite_on h (fun hc h => ⟨rfl, h⟩) (fun hc h => ?_)))
      · refine wt_not (wt_cut h (fun T h => ?_) (fun c h => ⟨rfl, h⟩))
        refine wt_val ?_
        refine we_isa (f := PyData.isTuple) (fun s v d as Q r h => PySem.W.isinstance_tuple_data r h) (z_isinstance TX) (z_tuple TX) PyProof.Rows.boot_tuple ?_
        refine WE.dyn (α := (T3 Str (List Cell) Cell)) ?_
        refine we_var (α := (T3 Str (List Cell) Cell)) (i := 0) rfl rfl ?_
        exact ⟨rfl, h⟩
      refine ww_or (wt_cut h (fun T h => ?_) (fun c h => ite_on h (fun hc h => ⟨rfl, h⟩) (fun hc h => ?_)))
      · refine wt_wc ?_
        refine wc_eqT (T3 Str (List Cell) Cell) (Tup Int) hr.units ?_
        refine we_var (α := (T3 Str (List Cell) Cell)) (i := 0) rfl rfl ?_
        refine we_tupL (α := Int) ?_
        refine wl_nil ?_
        refine ⟨by show (0 : Nat) ≤ sizeLine; decide, ?_⟩
        exact ⟨rfl, h⟩
      refine ww_or1 ?_
      refine wt_not (wt_cut h (fun T h => ?_) (fun c h => ⟨rfl, h⟩))
      refine wt_val ?_
      refine we_isa (f := PyData.isStr) (fun s v d as Q r h => PySem.W.isinstance_str_data r h) (z_isinstance TX) (z_str TX) PyProof.Rows.boot_str ?_
      refine WE.dyn (α := Str) ?_
      refine we_3a (α := Str) (β := (List Cell)) (γ := Cell) ?_
      refine we_var (α := (T3 Str (List Cell) Cell)) (i := 0) rfl rfl ?_
      exact ⟨rfl, h⟩
    · refine wss_one ?_
      refine ws_ret (α := Bool) (we_end h (fun T h => ?_) (fun y h => ret_im h))
      refine we_bool ?_
      exact ⟨rfl, h⟩
    refine wss_nil ?_
    refine wss_cons ?_
    refine ws_if (wt_cut h (fun T h => ?_) (fun b12 h => ite_on h (fun hb h => ?_) (fun hb h => ?_)))
    · refine wt_wc ?_
      refine wc_eq (List Cell) hr.units ?_
      refine we_var (α := (List Cell)) (i := 3) rfl rfl ?_
      refine we_listL (α := Cell) ?_
      refine wl_nil ?_
      refine ⟨by show (0 : Nat) ≤ sizeLine; decide, ?_⟩
      exact ⟨rfl, h⟩
    · refine wss_one ?_
      refine ws_ret (α := Bool) (we_end h (fun T h => ?_) (fun y h => ret_im h))
      refine we_wc ?_
      refine wc_eqT (T3 Str (List Cell) Cell) (Tup Str) hr.units ?_
      refine we_var (α := (T3 Str (List Cell) Cell)) (i := 0) rfl rfl ?_
      refine we_tupL (α := Str) ?_
      refine wl_cons ?_
      refine we_str ?_
      refine wl_nil ?_
      refine ⟨by show (1 : Nat) ≤ sizeLine; decide, ?_⟩
      exact ⟨rfl, h⟩
    refine wss_nil ?_
    refine wss_cons ?_
    refine ws_if (wt_cut h (fun T h => ?_) (fun b13 h => ite_on h (fun hb h => ?_) (fun hb h => ?_)))
    · refine wt_wc ?_
      refine wc_eq (List Cell) hr.units ?_
      refine we_var (α := (List Cell)) (i := 5) rfl rfl ?_
      refine we_listL (α := Cell) ?_
      refine wl_nil ?_
      refine ⟨by show (0 : Nat) ≤ sizeLine; decide, ?_⟩
      exact ⟨rfl, h⟩
    · refine wss_one ?_
      refine ws_ret (α := Bool) (we_end h (fun T h => ?_) (fun y h => ret_im h))
      refine we_wc ?_
      refine wc_eqT (T3 Str (List Cell) Cell) (Tup Str) hr.units ?_
      refine we_var (α := (T3 Str (List Cell) Cell)) (i := 0) rfl rfl ?_
      refine we_tupL (α := Str) ?_
      refine wl_cons ?_
      refine we_str ?_
      refine wl_nil ?_
      refine ⟨by show (1 : Nat) ≤ sizeLine; decide, ?_⟩
      exact ⟨rfl, h⟩
    refine wss_nil ?_
    refine wss_cons ?_
    refine ws_if (wt_cut h (fun T h => ?_) (fun b14 h => ite_on h (fun hb h => ?_) (fun hb h => ?_)))
    · refine wt_wc ?_
      refine wc_gt ?_
      refine we_lenQ (α := (Tup Cell)) (z_len TX) ?_
      refine wsr_l ?_
      refine we_var (α := (List (Tup Cell))) (i := 6) rfl rfl ?_
      refine we_int ?_
      exact ⟨rfl, h⟩
    · refine wss_one ?_
      refine ws_ret (α := Bool) (we_end h (fun T h => ?_) (fun y h => ret_im h))
      refine we_andV (we_cut h (fun T h => ?_) (fun c h => ite_on h (fun hc h => ?_) (fun hc h => ⟨rfl, h⟩)))
      · refine we_wc ?_
        refine wc_eq Int hr.units ?_
        refine we_lenF (α := (T3 Str (List Cell) Cell)) (n := 3) (fun x => ⟨_, rfl, rfl⟩) (z_len TX) ?_
        refine we_var (α := (T3 Str (List Cell) Cell)) (i := 0) rfl rfl ?_
        refine we_int ?_
        exact ⟨rfl, h⟩
      refine we_andV (we_cut h (fun T h => ?_) (fun c h => ite_on h (fun hc h => ?_) (fun hc h => ⟨rfl, h⟩)))
      · refine we_wc ?_
        refine wc_eqT (T3 Str (List Cell) Cell) (Str × (Tup Cell)) hr.units ?_
        refine we_var (α := (T3 Str (List Cell) Cell)) (i := 0) rfl rfl ?_
        refine we_cut h (fun T h => ?_) (fun x16 h => ?_)
        · refine we_pair ?_
          refine we_str ?_
          refine we_cut h (fun T h => ?_) (fun x15 h => ?_)
          · refine we_ixL (α := (Tup Cell)) ?_
            refine we_var (α := (List (Tup Cell))) (i := 6) rfl rfl ?_
            refine we_int ?_
            exact idx_fin h
          exact ⟨rfl, h⟩
        exact ⟨rfl, h⟩
      refine we_one ?_
      refine we_callV (γ := Bool) (Γd := []) OK__law_cells (hr.mono (by decide)) (g__law_cells TX) FD_k__law_cells BI__law_cells .nil (fun _ _ => trivial) ?_
      refine wa_e (α := (List Cell)) ?_
      refine we_3b (α := Str) (β := (List Cell)) (γ := Cell) ?_
      refine we_var (α := (T3 Str (List Cell) Cell)) (i := 0) rfl rfl ?_
      refine wa_nil ?_
      exact ⟨rfl, _, fun _ => .cons rn_sqL .nil, _, rfl, rfl, R.sat.imp h (fun _ _ h => cp_ok h) fun _ h => h⟩
    refine wss_nil ?_
    refine wss_cons ?_
    refine ws_if (wt_cut h (fun T h => ?_) (fun b22 h => ite_on h (fun hb h => ?_) (fun hb h => ?_)))
    · refine wt_ww ?_
      refine ww_or (wt_cut h (fun T h => ?_) (fun c h => ite_on h (fun hc h => ⟨rfl, h⟩) (fun hc h => ?_)))
      · refine wt_wc ?_
        refine wc_ne Int hr.units ?_
        refine we_lenF (α := (T3 Str (List Cell) Cell)) (n := 3) (fun x => ⟨_, rfl, rfl⟩) (z_len TX) ?_
        refine we_var (α := (T3 Str (List Cell) Cell)) (i := 0) rfl rfl ?_
        refine we_int ?_
        exact ⟨rfl, h⟩
      refine ww_or (wt_cut h (fun T h => ?_) (fun c h => ite_on h (fun hc h => ⟨rfl, h⟩) (fun hc h => ?_)))
      · refine wt_wc ?_
        refine wc_ne Str hr.units ?_
        refine we_3a (α := Str) (β := (List Cell)) (γ := Cell) ?_
        refine we_var (α := (T3 Str (List Cell) Cell)) (i := 0) rfl rfl ?_
        refine we_str ?_
        exact ⟨rfl, h⟩
      refine ww_or1 ?_
      refine wt_not (wt_cut h (fun T h => ?_) (fun c h => ⟨rfl, h⟩))
      refine wt_val ?_
      refine we_callV (γ := Bool) (Γd := []) OK__law_chain (hr.mono (by decide)) (g__law_chain TX) FD_k__law_chain BI__law_chain .nil (fun _ _ => trivial) ?_
      refine wa_e (α := (List Cell)) ?_
      refine we_3b (α := Str) (β := (List Cell)) (γ := Cell) ?_
      refine we_var (α := (T3 Str (List Cell) Cell)) (i := 0) rfl rfl ?_
      refine wa_e (α := (List Cell)) ?_
      refine we_var (α := (List Cell)) (i := 3) rfl rfl ?_
      refine wa_nil ?_
      exact ⟨rfl, _, fun _ => .cons .im (.cons .im .nil), _, _, rfl, rfl, R.sat.imp h (fun _ _ h => cp_ok h) fun _ h => h⟩
    · refine wss_one ?_
      refine ws_ret (α := Bool) (we_end h (fun T h => ?_) (fun y h => ret_im h))
      refine we_bool ?_
      exact ⟨rfl, h⟩
    refine wss_nil ?_
    refine wss_one ?_
    refine ws_ret (α := Bool) (we_end h (fun T h => ?_) (fun y h => ret_im h))
    refine we_andV (we_cut h (fun T h => ?_) (fun c h => ite_on h (fun hc h => ?_) (fun hc h => ⟨rfl, h⟩)))
    · refine we_callV (γ := Bool) (Γd := []) OK__law_cells (hr.mono (by decide)) (g__law_cells TX) FD_k__law_cells BI__law_cells .nil (fun _ _ => trivial) ?_
      refine wa_e (α := (List Cell)) ?_
      refine we_listL (α := Cell) ?_
      refine wl_cons ?_
      refine we_3c (α := Str) (β := (List Cell)) (γ := Cell) ?_
      refine we_var (α := (T3 Str (List Cell) Cell)) (i := 0) rfl rfl ?_
      refine wl_nil ?_
      refine ⟨by show (1 : Nat) ≤ sizeLine; decide, ?_⟩
      refine wa_nil ?_
      exact ⟨rfl, _, fun _ => .cons rn_sqL .nil, _, rfl, rfl, R.sat.imp h (fun _ _ h => cp_ok h) fun _ h => h⟩
    refine we_one ?_
    refine we_wc ?_
    refine wc_eq Cell hr.units ?_
    refine we_3c (α := Str) (β := (List Cell)) (γ := Cell) ?_
    refine we_var (α := (T3 Str (List Cell) Cell)) (i := 0) rfl rfl ?_
    refine we_cut h (fun T h => ?_) (fun x23 h => ?_)
    · refine we_ixL (α := Cell) ?_
      refine we_var (α := (List Cell)) (i := 5) rfl rfl ?_
      refine we_int ?_
      exact idx_fin h
    exact ⟨rfl, h⟩
/-- what is told, as data -/
def whyD : Why → PyData
  | .alone => Datum.toD (⟨["alone"]⟩ : Tup Str)
  | .inner => Datum.toD (⟨["inner"]⟩ : Tup Str)
  | .bridge c => Datum.toD (("bridge", c) : Str × Tup Cell)
  | .loose c s => Datum.toD (⟨"loose", c, s⟩ : T3 Str (List Cell) Cell)
def m_right (y : Why) (sh : Tup Cell × Bool) (c : Cell) : R Bool := match y with
  | .alone => m__law_right_word ⟨["alone"]⟩ sh c
  | .inner => m__law_right_word ⟨["inner"]⟩ sh c
  | .bridge b => m__law_right_bridge ("bridge", b) sh c
  | .loose b s => m__law_right_loose ⟨"loose", b, s⟩ sh c
def fs__law_right : Fs := ⟨fun Γ m P PE => ∃ (y : Why) (sh : Tup Cell × Bool) (c : Cell), Γ = [im (whyD y), im sh, im c] ∧ m = [] ∧ (m_right y sh c).sat (fun y => P (im y) []) fun e => PE e []⟩
theorem sp_right {vs : List V} {H : Hp} {Q : VK} {E : XK} (h : spF K fs__law_right vs H Q E) : spF K fs__law_right_word vs H Q E ∨ spF K fs__law_right_bridge vs H Q E ∨ spF K fs__law_right_loose vs H Q E := by
  obtain ⟨Γ, m, as, F, P, PE, o, r, ⟨y, sh, c, rfl, rfl, h⟩, k1, k2⟩ := h
  cases y with
  | alone => exact .inl ⟨[im (⟨["alone"]⟩ : Tup Str), im sh, im c], [], as, F, P, PE, o, r, ⟨_, _, _, rfl, rfl, h⟩, k1, k2⟩
  | inner => exact .inl ⟨[im (⟨["inner"]⟩ : Tup Str), im sh, im c], [], as, F, P, PE, o, r, ⟨_, _, _, rfl, rfl, h⟩, k1, k2⟩
  | bridge b => exact .inr (.inl ⟨[im (("bridge", b) : Str × Tup Cell), im sh, im c], [], as, F, P, PE, o, r, ⟨_, _, _, rfl, rfl, h⟩, k1, k2⟩)
  | loose b s => exact .inr (.inr ⟨[im (⟨"loose", b, s⟩ : T3 Str (List Cell) Cell), im sh, im c], [], as, F, P, PE, o, r, ⟨_, _, _, rfl, rfl, h⟩, k1, k2⟩)
theorem ok__law_right {fd : FuncData} {k : Nat} {ps : List Str} {f : Addr} (h1 : FnOk P w K mg base (L2.CX P w) k f fd ps (spF K fs__law_right_word)) (h2 : FnOk P w K mg base (L2.CX P w) k f fd ps (spF K fs__law_right_bridge)) (h3 : FnOk P w K mg base (L2.CX P w) k f fd ps (spF K fs__law_right_loose)) :
    FnOk P w K mg base (L2.CX P w) k f fd ps (spF K fs__law_right) :=
  ⟨fun vs H Q E h => (sp_right h).elim (fun h => h1.len _ _ _ _ h) fun h => h.elim (fun h => h2.len _ _ _ _ h) fun h => h3.len _ _ _ _ h,
    fun A outer s H args us vs Q E hr e0 hb hv h => (sp_right h).elim (fun h => h1.run A outer s H args us vs Q E hr e0 hb hv h) fun h => h.elim (fun h => h2.run A outer s H args us vs Q E hr e0 hb hv h) fun h => h3.run A outer s H args us vs Q E hr e0 hb hv h⟩
def WhyAt (m : List MC) (g : Sl) (m' : List MC) (z : Why) : Prop := (Rn (fun _ _ => False) g (im (whyD z)) ∧ m' = m) ∨ ∃ c : MC, m' = m ++ [c] ∧ c.live = true ∧ FzS m.length c g (im (whyD z))
theorem we_why {X : Cx} {B : Bs} {PX : PXT} {Γ : List Sl} {m : List MC} {e : Expr} {P : PyData → List MC → Prop} (h : WG X B PX e Γ m fun g m' => ∃ z, WhyAt m g m' z ∧ P (whyD z) m) : WE X B PX e Γ m P :=
  WG.frzS (WG.imp h fun g m' ⟨z, w, p⟩ => by
    rcases w with ⟨w, rfl⟩ | ⟨c, rfl, l, w⟩
    · exact .inl ⟨_, w, rfl, p⟩
    · exact .inr ⟨c, _, m, rfl, rfl, l, w, p⟩)
theorem why_go {m : List MC} {z : Why} {A : Prop} (k : ∀ g', ((whyM z).take 0).all (·.live) = true → Rn (rhoC [] m.length) (whyS 0 z) g' → WhyAt m g' (joinM m [] (whyM z)) z → A) : A := by
  have e0 : joinM m [] [] = m := by
    unfold joinM
    rw [setAll_nil, List.drop_nil, List.append_nil]
  cases z with
  | alone => exact k (im (whyD .alone)) rfl (.ind fun _ _ _ _ _ h => h) (.inl ⟨.im, e0⟩)
  | inner => exact k (im (whyD .inner)) rfl (.ind fun _ _ _ _ _ h => h) (.inl ⟨.im, e0⟩)
  | bridge c => exact k (im (whyD (.bridge c))) rfl (.ind fun _ _ _ _ _ h => h) (.inl ⟨.im, e0⟩)
  | loose c s =>
    refine k (tupS [im ("loose" : Str), mu m.length, im s]) rfl (.tup (.cons .im (.cons (.mu (.inr ⟨0, rfl, rfl⟩)) (.cons .im .nil)))) (.inr ⟨lst c, ?_, rfl, ?_⟩)
    · show joinM m [] [lst c] = _
      unfold joinM
      rw [setAll_nil]
      rfl
    · rintro K as F a u o ha hc hu ⟨t, vs, rfl, hT, hS⟩
      match vs, hS with
      | [v0, v1, v2], ⟨h0, h1, h2, _⟩ =>
        obtain ⟨a', ha', e1⟩ := h1
        rw [ha] at ha'
        cases ha'
        cases e1
        exact ⟨_, rfl, rep_t3.mpr ⟨t, v0, .ref a, v2, rfl, hT, im_ok h0, im_ok (fz_lst K as F a u hc hu), im_ok h2⟩⟩
theorem why_tup {c : List Cell} {s : Cell} {ρ : Nat → Nat → Prop} : Rn ρ (tupS [im ("loose" : Str), im c, im s]) (im (whyD (.loose c s))) := .ind fun K as as' F o ⟨t, vs, e, hT, hS⟩ => by
  match vs, hS with
  | [v0, v1, v2], ⟨h0, h1, h2, _⟩ => exact ⟨_, e, rep_t3.mpr ⟨t, v0, v1, v2, rfl, hT, im_ok h0, im_ok h1, im_ok h2⟩⟩
def m_law (a_script : (List Int)) : R Bool :=
  (((m__law_cell a_script (0)).bind fun x20 => R.ok ([x20] : (List Int))).bind fun x21 => chk (decide ((x21).length + ((cut a_script (some 1) (some 11))).length ≤ sizeLine)) (R.ok (x21 ++ (cut a_script (some 1) (some 11))))).bind fun x22 => R.fl (forR (S := Unit) (ρ := Bool) (fun (s1 : Unit) (y2 : Int) => ((m__law_deal y2 (1)).bind fun x3 => m__law_board x3 : R ((Tup Cell) × Int)).bind fun p4 => ((R.ok (eqB (p4.2 % 16) (7))).bind fun b5 => R.ite b5 ((R.ok (⟨[]⟩ : (Tup Cell)) : R (Tup Cell)).bind fun cells_7 => R.ok cells_7) (R.ok (p4.1)) : R ((Tup Cell))).bind fun (s6 : (Tup Cell)) => (R.ok (s6, (eqB (p4.2 % 3) (1))) : R ((Tup Cell) × Bool)).bind fun shape_8 => (chk (decide ((s6).items.length + ((⟨[(0, 0)]⟩ : (Tup Cell))).items.length ≤ sizeLine)) (R.ok (⟨(s6).items ++ ((⟨[(0, 0)]⟩ : (Tup Cell))).items⟩ : (Tup Cell)))).bind fun x18 => R.fl (forR (S := Unit) (ρ := Bool) (fun (s9 : Unit) (y10 : Cell) => R.fl (forR (S := Unit) (ρ := Bool) (fun (s11 : Unit) (y12 : Cell) => (m__law_kept (y12.1) (y12.2) : R Cell).bind fun there_13 => (m__law_has shape_8 there_13).bind fun b14 => R.ite b14 ((m_why_loose shape_8 there_13).bind fun y => (nx (m_right y shape_8 there_13)).bind fun b => R.ite (!b) ((R.ok false : R Bool).bind fun r15 => R.ok (.rt r15)) (((m_why_loose shape_8 there_13).bind fun z => nx (m_right z shape_8 there_13)).bind fun c => R.ite (!c) ((R.ok false : R Bool).bind fun r15 => R.ok (.rt r15)) (R.ok (.nx ())))) (R.ok (.nx ()))) ([y10, (y10.1, (y10.2 + 1)), ((y10.1 - 1), (y10.2 - 1))] : (List Cell)) ()) (fun (s16 : Unit) => R.ok (.nx ())) (fun y => R.ok (.rt y))) (x18).items ()) (fun (s17 : Unit) => R.ok (.nx ())) (fun y => R.ok (.rt y))) x22 ()) (fun (s19 : Unit) => R.ok true) (fun y => R.ok y)
def fs_law : Fs := ⟨fun Γ m P PE => ∃ (a_script : (List Int)), Γ = [sqL a_script] ∧ m = [] ∧ (m_law a_script).sat (fun y => P (im y) []) fun e => PE e []⟩
theorem ok_law (TX : Tx K mg) {fd : FuncData} (F : FD_law K fd) {fd__law_board : FuncData} (F__law_board : FD__law_board K fd__law_board) (OK__law_board : FnOk P w K mg base (L2.CX P w) 2 (He.ga K "_law_board") fd__law_board ["number"] (spF K fs__law_board)) {fd__law_cell : FuncData} (F__law_cell : FD__law_cell K fd__law_cell) (OK__law_cell : FnOk P w K mg base (L2.CX P w) 1 (He.ga K "_law_cell") fd__law_cell ["script", "k"] (spF K fs__law_cell)) {fd__law_deal : FuncData} (F__law_deal : FD__law_deal K fd__law_deal) (OK__law_deal : FnOk P w K mg base (L2.CX P w) 1 (He.ga K "_law_deal") fd__law_deal ["cell", "salt"] (spF K fs__law_deal)) {fd__law_kept : FuncData} (F__law_kept : FD__law_kept K fd__law_kept) (OK__law_kept : FnOk P w K mg base (L2.CX P w) 1 (He.ga K "_law_kept") fd__law_kept ["row", "column"] (spF K fs__law_kept)) {fd__law_has : FuncData} (F__law_has : FD__law_has K fd__law_has) (OK__law_has : FnOk P w K mg base (L2.CX P w) 1 (He.ga K "_law_has") fd__law_has ["shape", "cell"] (spF K fs__law_has)) {fd_why_loose : FuncData} (F_why_loose : FD_why_loose K fd_why_loose) (OK_why_loose : FnOk P w K mg base (L2.CX P w) 3 (He.ga K "why_loose") fd_why_loose ["shape", "cell"] (spF K fs_why_loose)) {fd__law_right : FuncData} (F__law_right : FD__law_right K fd__law_right) (OK__law_right : FnOk P w K mg base (L2.CX P w) 5 (He.ga K "_law_right") fd__law_right ["told", "shape", "cell"] (spF K fs__law_right)) : FnOk P w K mg base (L2.CX P w) 6 (He.ga K "law") fd ["script"] (spF K fs_law) := by
  have SC := sc_law
  have FD_k__law_board := F__law_board.kp
  have BI__law_board := b__law_board F__law_board
  have FD_k__law_cell := F__law_cell.kp
  have BI__law_cell := b__law_cell F__law_cell
  have FD_k__law_deal := F__law_deal.kp
  have BI__law_deal := b__law_deal F__law_deal
  have FD_k__law_kept := F__law_kept.kp
  have BI__law_kept := b__law_kept F__law_kept
  have FD_k__law_has := F__law_has.kp
  have BI__law_has := b__law_has F__law_has
  have FD_k_why_loose := F_why_loose.kp
  have BI_why_loose := b_why_loose F_why_loose
  have FD_k__law_right := F__law_right.kp
  have BI__law_right := b__law_right F__law_right
  refine fn_ok F sc_law (fun Γ m P PE h => ?_) (fun cdv A outer s H E B Γ m Pr PE hr h => ?_)
  · obtain ⟨_, rfl, _⟩ := h
    rfl
  · obtain ⟨a_script, rfl, rfl, h⟩ := h
    show WSs _ _ _ _ [sqL a_script, un, un, un, un, un, un, un] [] _
    refine wss_cons ?_
    refine ws_for (S := Unit) (ρ := Bool) (fun (s1 : Unit) (y2 : Int) => ((m__law_deal y2 (1)).bind fun x3 => m__law_board x3 : R ((Tup Cell) × Int)).bind fun p4 => ((R.ok (eqB (p4.2 % 16) (7))).bind fun b5 => R.ite b5 ((R.ok (⟨[]⟩ : (Tup Cell)) : R (Tup Cell)).bind fun cells_7 => R.ok cells_7) (R.ok (p4.1)) : R ((Tup Cell))).bind fun (s6 : (Tup Cell)) => (R.ok (s6, (eqB (p4.2 % 3) (1))) : R ((Tup Cell) × Bool)).bind fun shape_8 => (chk (decide ((s6).items.length + ((⟨[(0, 0)]⟩ : (Tup Cell))).items.length ≤ sizeLine)) (R.ok (⟨(s6).items ++ ((⟨[(0, 0)]⟩ : (Tup Cell))).items⟩ : (Tup Cell)))).bind fun x18 => R.fl (forR (S := Unit) (ρ := Bool) (fun (s9 : Unit) (y10 : Cell) => R.fl (forR (S := Unit) (ρ := Bool) (fun (s11 : Unit) (y12 : Cell) => (m__law_kept (y12.1) (y12.2) : R Cell).bind fun there_13 => (m__law_has shape_8 there_13).bind fun b14 => R.ite b14 ((m_why_loose shape_8 there_13).bind fun y => (nx (m_right y shape_8 there_13)).bind fun b => R.ite (!b) ((R.ok false : R Bool).bind fun r15 => R.ok (.rt r15)) (((m_why_loose shape_8 there_13).bind fun z => nx (m_right z shape_8 there_13)).bind fun c => R.ite (!c) ((R.ok false : R Bool).bind fun r15 => R.ok (.rt r15)) (R.ok (.nx ())))) (R.ok (.nx ()))) ([y10, (y10.1, (y10.2 + 1)), ((y10.1 - 1), (y10.2 - 1))] : (List Cell)) ()) (fun (s16 : Unit) => R.ok (.nx ())) (fun y => R.ok (.rt y))) (x18).items ()) (fun (s17 : Unit) => R.ok (.nx ())) (fun y => R.ok (.rt y))) (fun s1 => [sqL a_script, un, un, un, un, un, un, un]) (fun s1 => []) (fun y g _ => g = im y) (passes_of rfl) rfl (tg_name (α := Int) (i := 1) SC.nd rfl) ?_
    refine wi_list ?_
    refine we_cut h (fun T h => ?_) (fun x22 h => ?_)
    · refine we_catL (α := Int) ?_
      refine we_cut h (fun T h => ?_) (fun x21 h => ?_)
      · refine we_listL (α := Int) ?_
        refine wl_cons ?_
        refine we_cut h (fun T h => ?_) (fun x20 h => ?_)
        · refine we_callV (γ := Int) (Γd := []) OK__law_cell (hr.mono (by decide)) (g__law_cell TX) FD_k__law_cell BI__law_cell .nil (fun _ _ => trivial) ?_
          refine wa_cons (wg_slot (i := 0) rfl rfl (fun _ _ _ _ ⟨_, _, e, _⟩ => ⟨_, e⟩) ?_)
          refine wa_e (α := Int) ?_
          refine we_int ?_
          refine wa_nil ?_
          exact ⟨rfl, _, fun _ => .cons rn_sqL0 (.cons .im .nil), _, _, rfl, rfl, R.sat.imp h (fun _ _ h => cp_ok h) fun _ h => h⟩
        refine wl_nil ?_
        exact ⟨by show (1 : Nat) ≤ sizeLine; decide, rfl, h⟩
      refine we_slSq (α := Int) (i := 0) rfl rfl ?_
      refine wo_some ?_
      refine we_int ?_
      refine wo_some ?_
      refine we_int ?_
      exact ⟨of_decide_eq_true (chk_sat h).1, rfl, (chk_sat h).2⟩
    refine for_on h (fun _ => rfl) ⟨.fre (fun _ _ _ _ _ h => h) (.un (.un (.un (.un (.un (.un (.un .nil))))))), rfl⟩ (fun s1 y2 T hm h => ?_) (fun s19 h => ?_) (fun y g m h e => by subst e; exact ret_im h)
    · refine wss_cons ?_
      refine ws_asgT (α := ((Tup Cell) × Int)) (tg_pair rfl (tg_name (α := (Tup Cell)) (i := 2) SC.nd rfl) (tg_name (α := Int) (i := 3) SC.nd rfl)) (we_cut h (fun T h => ?_) (fun p4 h => ?_))
      · refine we_callV (γ := ((Tup Cell) × Int)) (Γd := []) OK__law_board (hr.mono (by decide)) (g__law_board TX) FD_k__law_board BI__law_board .nil (fun _ _ => trivial) ?_
        refine wa_e (α := Int) ?_
        refine we_cut h (fun T h => ?_) (fun x3 h => ?_)
        · refine we_callV (γ := Int) (Γd := []) OK__law_deal (hr.mono (by decide)) (g__law_deal TX) FD_k__law_deal BI__law_deal .nil (fun _ _ => trivial) ?_
          refine wa_e (α := Int) ?_
          refine we_var (α := Int) (i := 1) rfl rfl ?_
          refine wa_e (α := Int) ?_
          refine we_int ?_
          refine wa_nil ?_
          exact ⟨rfl, _, fun _ => .cons .im (.cons .im .nil), _, _, rfl, rfl, R.sat.imp h (fun _ _ h => cp_ok h) fun _ h => h⟩
        refine wa_nil ?_
        exact ⟨rfl, _, fun _ => .cons .im .nil, _, rfl, rfl, R.sat.imp h (fun _ _ h => cp_ok h) fun _ h => h⟩
      refine wss_cons ?_
      refine ws_join (fun s6 : (Tup Cell) => [sqL a_script, im y2, im s6, im (p4.2 : Int), un, un, un, un]) (fun s6 : (Tup Cell) => []) (fun _ => rfl) h (fun T h => ?_) (fun s6 h => ?_)
      · refine ws_if (wt_cut h (fun T h => ?_) (fun b5 h => ite_on h (fun hb h => ?_) (fun hb h => ?_)))
        · refine wt_wc ?_
          refine wc_eq Int hr.units ?_
          refine we_mod ?_
          refine we_var (α := Int) (i := 3) rfl rfl ?_
          refine we_int ?_
          refine ⟨by decide, ?_⟩
          refine we_int ?_
          exact ⟨rfl, h⟩
        · refine wss_one ?_
          refine ws_set (α := (Tup Cell)) (i := 2) SC.nd rfl (we_cut h (fun T h => ?_) (fun cells_7 h => ?_))
          · refine we_tupL (α := Cell) ?_
            refine wl_nil ?_
            refine ⟨by show (0 : Nat) ≤ sizeLine; decide, ?_⟩
            exact ⟨rfl, h⟩
          exact ⟨_, h, ⟨.fre (fun _ _ _ _ _ h => h) (.im (.im (.im (.un (.un (.un (.un .nil))))))), rfl⟩⟩
        refine wss_nil ?_
        exact ⟨_, h, ⟨.fre (fun _ _ _ _ _ h => h) (.im (.im (.im (.un (.un (.un (.un .nil))))))), rfl⟩⟩
      refine wss_cons ?_
      refine ws_set (α := ((Tup Cell) × Bool)) (i := 4) SC.nd rfl (we_cut h (fun T h => ?_) (fun shape_8 h => ?_))
      · refine we_pair ?_
        refine we_var (α := (Tup Cell)) (i := 2) rfl rfl ?_
        refine we_wc ?_
        refine wc_eq Int hr.units ?_
        refine we_mod ?_
        refine we_var (α := Int) (i := 3) rfl rfl ?_
        refine we_int ?_
        refine ⟨by decide, ?_⟩
        refine we_int ?_
        exact ⟨rfl, h⟩
      refine wss_one ?_
      refine ws_for (S := Unit) (ρ := Bool) (fun (s9 : Unit) (y10 : Cell) => R.fl (forR (S := Unit) (ρ := Bool) (fun (s11 : Unit) (y12 : Cell) => (m__law_kept (y12.1) (y12.2) : R Cell).bind fun there_13 => (m__law_has shape_8 there_13).bind fun b14 => R.ite b14 ((m_why_loose shape_8 there_13).bind fun y => (nx (m_right y shape_8 there_13)).bind fun b => R.ite (!b) ((R.ok false : R Bool).bind fun r15 => R.ok (.rt r15)) (((m_why_loose shape_8 there_13).bind fun z => nx (m_right z shape_8 there_13)).bind fun c => R.ite (!c) ((R.ok false : R Bool).bind fun r15 => R.ok (.rt r15)) (R.ok (.nx ())))) (R.ok (.nx ()))) ([y10, (y10.1, (y10.2 + 1)), ((y10.1 - 1), (y10.2 - 1))] : (List Cell)) ()) (fun (s16 : Unit) => R.ok (.nx ())) (fun y => R.ok (.rt y))) (fun s9 => [sqL a_script, im y2, im s6, im (p4.2 : Int), im shape_8, un, un, un]) (fun s9 => []) (fun y g _ => g = im y) (passes_of rfl) rfl (tg_name (α := Cell) (i := 5) SC.nd rfl) ?_
      refine wi_tup ?_
      refine we_cut h (fun T h => ?_) (fun x18 h => ?_)
      · refine we_catT (α := Cell) ?_
        refine we_var (α := (Tup Cell)) (i := 2) rfl rfl ?_
        refine we_tupL (α := Cell) ?_
        refine wl_cons ?_
        refine we_pair ?_
        refine we_int ?_
        refine we_int ?_
        refine wl_nil ?_
        refine ⟨by show (1 : Nat) ≤ sizeLine; decide, ?_⟩
        exact ⟨of_decide_eq_true (chk_sat h).1, rfl, (chk_sat h).2⟩
      refine for_on h (fun _ => rfl) ⟨.fre (fun _ _ _ _ _ h => h) (.im (.im (.im (.im (.un (.un (.un .nil))))))), rfl⟩ (fun s9 y10 T hm h => ?_) (fun s17 h => ?_) (fun y g m h e => ⟨y, h, e⟩)
      · refine wss_one ?_
        refine ws_for (S := Unit) (ρ := Bool) (fun (s11 : Unit) (y12 : Cell) => (m__law_kept (y12.1) (y12.2) : R Cell).bind fun there_13 => (m__law_has shape_8 there_13).bind fun b14 => R.ite b14 ((m_why_loose shape_8 there_13).bind fun y => (nx (m_right y shape_8 there_13)).bind fun b => R.ite (!b) ((R.ok false : R Bool).bind fun r15 => R.ok (.rt r15)) (((m_why_loose shape_8 there_13).bind fun z => nx (m_right z shape_8 there_13)).bind fun c => R.ite (!c) ((R.ok false : R Bool).bind fun r15 => R.ok (.rt r15)) (R.ok (.nx ())))) (R.ok (.nx ()))) (fun s11 => [sqL a_script, im y2, im s6, im (p4.2 : Int), im shape_8, im y10, un, un]) (fun s11 => []) (fun y g _ => g = im y) (passes_of rfl) rfl (tg_name (α := Cell) (i := 6) SC.nd rfl) ?_
        refine wi_list ?_
        refine we_listL (α := Cell) ?_
        refine wl_cons ?_
        refine we_var (α := Cell) (i := 5) rfl rfl ?_
        refine wl_cons ?_
        refine we_pair ?_
        refine we_fst (α := Int) (β := Int) ?_
        refine we_var (α := Cell) (i := 5) rfl rfl ?_
        refine we_add ?_
        refine we_snd (α := Int) (β := Int) ?_
        refine we_var (α := Cell) (i := 5) rfl rfl ?_
        refine we_int ?_
        refine wl_cons ?_
        refine we_pair ?_
        refine we_sub ?_
        refine we_fst (α := Int) (β := Int) ?_
        refine we_var (α := Cell) (i := 5) rfl rfl ?_
        refine we_int ?_
        refine we_sub ?_
        refine we_snd (α := Int) (β := Int) ?_
        refine we_var (α := Cell) (i := 5) rfl rfl ?_
        refine we_int ?_
        refine wl_nil ?_
        refine ⟨by show (3 : Nat) ≤ sizeLine; decide, ?_⟩
        refine for_on h (fun _ => rfl) ⟨.fre (fun _ _ _ _ _ h => h) (.im (.im (.im (.im (.im (.un (.un .nil))))))), rfl⟩ (fun s11 y12 T hm h => ?_) (fun s16 h => ?_) (fun y g m h e => ⟨y, h, e⟩)
        · refine wss_cons ?_
          refine ws_set (α := Cell) (i := 6) SC.nd rfl (we_cut h (fun T h => ?_) (fun there_13 h => ?_))
          · refine we_callV (γ := Cell) (Γd := []) OK__law_kept (hr.mono (by decide)) (g__law_kept TX) FD_k__law_kept BI__law_kept .nil (fun _ _ => trivial) ?_
            refine wa_e (α := Int) ?_
            refine we_fst (α := Int) (β := Int) ?_
            refine we_var (α := Cell) (i := 6) rfl rfl ?_
            refine wa_e (α := Int) ?_
            refine we_snd (α := Int) (β := Int) ?_
            refine we_var (α := Cell) (i := 6) rfl rfl ?_
            refine wa_nil ?_
            exact ⟨rfl, _, fun _ => .cons .im (.cons .im .nil), _, _, rfl, rfl, R.sat.imp h (fun _ _ h => cp_ok h) fun _ h => h⟩
          refine wss_one ?_
          refine ws_if (wt_cut h (fun T h => ?_) (fun b14 h => ite_on h (fun hb h => ?_) (fun hb h => ?_)))
          · refine wt_val ?_
            refine we_callV (γ := Bool) (Γd := []) OK__law_has (hr.mono (by decide)) (g__law_has TX) FD_k__law_has BI__law_has .nil (fun _ _ => trivial) ?_
            refine wa_e (α := ((Tup Cell) × Bool)) ?_
            refine we_var (α := ((Tup Cell) × Bool)) (i := 4) rfl rfl ?_
            refine wa_e (α := Cell) ?_
            refine we_var (α := Cell) (i := 6) rfl rfl ?_
            refine wa_nil ?_
            exact ⟨rfl, _, fun _ => .cons .im (.cons .im .nil), _, _, rfl, rfl, R.sat.imp h (fun _ _ h => cp_ok h) fun _ h => h⟩
          · refine wss_cons ?_
            refine ws_setG (i := 7) SC.nd rfl (wg_call (Γd := []) OK_why_loose (hr.mono (by decide)) (g_why_loose TX) FD_k_why_loose BI_why_loose .nil (fun _ _ => trivial) ?_)
            refine wa_e (α := (Tup Cell × Bool)) ?_
            refine we_var (α := ((Tup Cell) × Bool)) (i := 4) rfl rfl ?_
            refine wa_e (α := Cell) ?_
            refine we_var (α := Cell) (i := 6) rfl rfl ?_
            refine wa_nil ?_
            refine ⟨[], [], [im shape_8, im there_13], by decide, trivial, .cons .im (.cons .im .nil), _, _, rfl, rfl, R.sat.imp (R.bind_sat.mp h) (fun y _ h => ?_) (fun _ h => ⟨rfl, h⟩)⟩
            cases y with
            | alone =>
              refine ⟨rfl, im (⟨["alone"]⟩ : Tup Str), .im, ?_⟩
              refine wss_cons ?_
              refine ws_if (wt_not (wt_cut h (fun T h => ?_) (fun b h => ite_on h (fun hb h => ?_) (fun hb h => ?_))))
              · refine wt_val (we_callV (γ := Bool) (Γd := []) OK__law_right (hr.mono (by decide)) (g__law_right TX) FD_k__law_right BI__law_right .nil (fun _ _ => trivial) ?_)
                refine wa_cons (wg_slot (i := 7) rfl rfl (fun _ _ _ _ ⟨v, e, _⟩ => ⟨v, e⟩) ?_)
                refine wa_e (α := (Tup Cell × Bool)) ?_
                refine we_var (α := ((Tup Cell) × Bool)) (i := 4) rfl rfl ?_
                refine wa_e (α := Cell) ?_
                refine we_var (α := Cell) (i := 6) rfl rfl ?_
                refine wa_nil ?_
                exact ⟨rfl, [im (whyD .alone), im shape_8, im there_13], fun _ => .cons (.ind fun _ _ _ _ _ h => h) (.cons .im (.cons .im .nil)), _, _, _, rfl, rfl, R.sat.imp (sat_nx h) (fun _ _ h => cp_ok h) fun _ h => h.elim⟩
              · refine wss_one ?_
                refine ws_ret (α := Bool) (we_cut h (fun T h => ?_) (fun r15 h => ⟨r15, h, rfl⟩))
                refine we_bool ?_
                exact ⟨rfl, h⟩
              refine wss_nil ?_
              refine wss_cons ?_
              refine ws_if (wt_wc ?_)
              refine wc_eq Str hr.units ?_
              refine we_ixT (α := Str) ?_
              refine we_var (α := (Tup Str)) (i := 7) rfl rfl ?_
              refine we_int ?_
              refine idx0 ?_
              refine we_str ?_
              rw [show eqB ("alone" : Str) "loose" = false from by decide]
              refine wss_nil ?_
              refine wss_one ?_
              refine ws_if (wt_not (wt_cut h (fun T h => ?_) (fun b h => ite_on h (fun hb h => ?_) (fun hb h => ?_))))
              · refine wt_val (we_callV (γ := Bool) (Γd := []) OK__law_right (hr.mono (by decide)) (g__law_right TX) FD_k__law_right BI__law_right .nil (fun _ _ => trivial) ?_)
                refine wa_e (α := PyData) ?_
                refine we_why ?_
                refine wg_call (Γd := []) OK_why_loose (hr.mono (by decide)) (g_why_loose TX) FD_k_why_loose BI_why_loose .nil (fun _ _ => trivial) ?_
                refine wa_e (α := (Tup Cell × Bool)) ?_
                refine we_var (α := ((Tup Cell) × Bool)) (i := 4) rfl rfl ?_
                refine wa_e (α := Cell) ?_
                refine we_var (α := Cell) (i := 6) rfl rfl ?_
                refine wa_nil ?_
                refine ⟨[], [], [im shape_8, im there_13], by decide, trivial, .cons .im (.cons .im .nil), _, _, rfl, rfl, R.sat.imp (R.bind_sat.mp h) (fun z _ h => ?_) (fun _ h => ⟨rfl, h⟩)⟩
                refine why_go (fun g1 w1 w2 w3 => ⟨w1, g1, w2, z, w3, ?_⟩)
                refine wa_e (α := (Tup Cell × Bool)) ?_
                refine we_var (α := ((Tup Cell) × Bool)) (i := 4) rfl rfl ?_
                refine wa_e (α := Cell) ?_
                refine we_var (α := Cell) (i := 6) rfl rfl ?_
                refine wa_nil ?_
                exact ⟨rfl, [im (whyD z), im shape_8, im there_13], fun _ => .cons .im (.cons .im (.cons .im .nil)), _, _, _, rfl, rfl, R.sat.imp (sat_nx h) (fun _ _ h => cp_ok h) fun _ h => h.elim⟩
              · refine wss_one ?_
                refine ws_ret (α := Bool) (we_cut h (fun T h => ?_) (fun r15 h => ⟨r15, h, rfl⟩))
                refine we_bool ?_
                exact ⟨rfl, h⟩
              · refine wss_nil ?_
                exact ⟨_, h, ⟨.fre (fun _ _ _ _ _ h => h) (.im (.im (.im (.im (.im (.un (.un .nil))))))), rfl⟩⟩
            | inner =>
              refine ⟨rfl, im (⟨["inner"]⟩ : Tup Str), .im, ?_⟩
              refine wss_cons ?_
              refine ws_if (wt_not (wt_cut h (fun T h => ?_) (fun b h => ite_on h (fun hb h => ?_) (fun hb h => ?_))))
              · refine wt_val (we_callV (γ := Bool) (Γd := []) OK__law_right (hr.mono (by decide)) (g__law_right TX) FD_k__law_right BI__law_right .nil (fun _ _ => trivial) ?_)
                refine wa_cons (wg_slot (i := 7) rfl rfl (fun _ _ _ _ ⟨v, e, _⟩ => ⟨v, e⟩) ?_)
                refine wa_e (α := (Tup Cell × Bool)) ?_
                refine we_var (α := ((Tup Cell) × Bool)) (i := 4) rfl rfl ?_
                refine wa_e (α := Cell) ?_
                refine we_var (α := Cell) (i := 6) rfl rfl ?_
                refine wa_nil ?_
                exact ⟨rfl, [im (whyD .inner), im shape_8, im there_13], fun _ => .cons (.ind fun _ _ _ _ _ h => h) (.cons .im (.cons .im .nil)), _, _, _, rfl, rfl, R.sat.imp (sat_nx h) (fun _ _ h => cp_ok h) fun _ h => h.elim⟩
              · refine wss_one ?_
                refine ws_ret (α := Bool) (we_cut h (fun T h => ?_) (fun r15 h => ⟨r15, h, rfl⟩))
                refine we_bool ?_
                exact ⟨rfl, h⟩
              refine wss_nil ?_
              refine wss_cons ?_
              refine ws_if (wt_wc ?_)
              refine wc_eq Str hr.units ?_
              refine we_ixT (α := Str) ?_
              refine we_var (α := (Tup Str)) (i := 7) rfl rfl ?_
              refine we_int ?_
              refine idx0 ?_
              refine we_str ?_
              rw [show eqB ("inner" : Str) "loose" = false from by decide]
              refine wss_nil ?_
              refine wss_one ?_
              refine ws_if (wt_not (wt_cut h (fun T h => ?_) (fun b h => ite_on h (fun hb h => ?_) (fun hb h => ?_))))
              · refine wt_val (we_callV (γ := Bool) (Γd := []) OK__law_right (hr.mono (by decide)) (g__law_right TX) FD_k__law_right BI__law_right .nil (fun _ _ => trivial) ?_)
                refine wa_e (α := PyData) ?_
                refine we_why ?_
                refine wg_call (Γd := []) OK_why_loose (hr.mono (by decide)) (g_why_loose TX) FD_k_why_loose BI_why_loose .nil (fun _ _ => trivial) ?_
                refine wa_e (α := (Tup Cell × Bool)) ?_
                refine we_var (α := ((Tup Cell) × Bool)) (i := 4) rfl rfl ?_
                refine wa_e (α := Cell) ?_
                refine we_var (α := Cell) (i := 6) rfl rfl ?_
                refine wa_nil ?_
                refine ⟨[], [], [im shape_8, im there_13], by decide, trivial, .cons .im (.cons .im .nil), _, _, rfl, rfl, R.sat.imp (R.bind_sat.mp h) (fun z _ h => ?_) (fun _ h => ⟨rfl, h⟩)⟩
                refine why_go (fun g1 w1 w2 w3 => ⟨w1, g1, w2, z, w3, ?_⟩)
                refine wa_e (α := (Tup Cell × Bool)) ?_
                refine we_var (α := ((Tup Cell) × Bool)) (i := 4) rfl rfl ?_
                refine wa_e (α := Cell) ?_
                refine we_var (α := Cell) (i := 6) rfl rfl ?_
                refine wa_nil ?_
                exact ⟨rfl, [im (whyD z), im shape_8, im there_13], fun _ => .cons .im (.cons .im (.cons .im .nil)), _, _, _, rfl, rfl, R.sat.imp (sat_nx h) (fun _ _ h => cp_ok h) fun _ h => h.elim⟩
              · refine wss_one ?_
                refine ws_ret (α := Bool) (we_cut h (fun T h => ?_) (fun r15 h => ⟨r15, h, rfl⟩))
                refine we_bool ?_
                exact ⟨rfl, h⟩
              · refine wss_nil ?_
                exact ⟨_, h, ⟨.fre (fun _ _ _ _ _ h => h) (.im (.im (.im (.im (.im (.un (.un .nil))))))), rfl⟩⟩
            | bridge c =>
              refine ⟨rfl, im (("bridge", c) : Str × Tup Cell), .im, ?_⟩
              refine wss_cons ?_
              refine ws_if (wt_not (wt_cut h (fun T h => ?_) (fun b h => ite_on h (fun hb h => ?_) (fun hb h => ?_))))
              · refine wt_val (we_callV (γ := Bool) (Γd := []) OK__law_right (hr.mono (by decide)) (g__law_right TX) FD_k__law_right BI__law_right .nil (fun _ _ => trivial) ?_)
                refine wa_cons (wg_slot (i := 7) rfl rfl (fun _ _ _ _ ⟨v, e, _⟩ => ⟨v, e⟩) ?_)
                refine wa_e (α := (Tup Cell × Bool)) ?_
                refine we_var (α := ((Tup Cell) × Bool)) (i := 4) rfl rfl ?_
                refine wa_e (α := Cell) ?_
                refine we_var (α := Cell) (i := 6) rfl rfl ?_
                refine wa_nil ?_
                exact ⟨rfl, [im (whyD (.bridge c)), im shape_8, im there_13], fun _ => .cons (.ind fun _ _ _ _ _ h => h) (.cons .im (.cons .im .nil)), _, _, _, rfl, rfl, R.sat.imp (sat_nx h) (fun _ _ h => cp_ok h) fun _ h => h.elim⟩
              · refine wss_one ?_
                refine ws_ret (α := Bool) (we_cut h (fun T h => ?_) (fun r15 h => ⟨r15, h, rfl⟩))
                refine we_bool ?_
                exact ⟨rfl, h⟩
              refine wss_nil ?_
              refine wss_cons ?_
              refine ws_if (wt_wc ?_)
              refine wc_eq Str hr.units ?_
              refine we_fst (α := Str) (β := (Tup Cell)) ?_
              refine we_var (α := (Str × Tup Cell)) (i := 7) rfl rfl ?_
              refine we_str ?_
              rw [show eqB ("bridge" : Str) "loose" = false from by decide]
              refine wss_nil ?_
              refine wss_one ?_
              refine ws_if (wt_not (wt_cut h (fun T h => ?_) (fun b h => ite_on h (fun hb h => ?_) (fun hb h => ?_))))
              · refine wt_val (we_callV (γ := Bool) (Γd := []) OK__law_right (hr.mono (by decide)) (g__law_right TX) FD_k__law_right BI__law_right .nil (fun _ _ => trivial) ?_)
                refine wa_e (α := PyData) ?_
                refine we_why ?_
                refine wg_call (Γd := []) OK_why_loose (hr.mono (by decide)) (g_why_loose TX) FD_k_why_loose BI_why_loose .nil (fun _ _ => trivial) ?_
                refine wa_e (α := (Tup Cell × Bool)) ?_
                refine we_var (α := ((Tup Cell) × Bool)) (i := 4) rfl rfl ?_
                refine wa_e (α := Cell) ?_
                refine we_var (α := Cell) (i := 6) rfl rfl ?_
                refine wa_nil ?_
                refine ⟨[], [], [im shape_8, im there_13], by decide, trivial, .cons .im (.cons .im .nil), _, _, rfl, rfl, R.sat.imp (R.bind_sat.mp h) (fun z _ h => ?_) (fun _ h => ⟨rfl, h⟩)⟩
                refine why_go (fun g1 w1 w2 w3 => ⟨w1, g1, w2, z, w3, ?_⟩)
                refine wa_e (α := (Tup Cell × Bool)) ?_
                refine we_var (α := ((Tup Cell) × Bool)) (i := 4) rfl rfl ?_
                refine wa_e (α := Cell) ?_
                refine we_var (α := Cell) (i := 6) rfl rfl ?_
                refine wa_nil ?_
                exact ⟨rfl, [im (whyD z), im shape_8, im there_13], fun _ => .cons .im (.cons .im (.cons .im .nil)), _, _, _, rfl, rfl, R.sat.imp (sat_nx h) (fun _ _ h => cp_ok h) fun _ h => h.elim⟩
              · refine wss_one ?_
                refine ws_ret (α := Bool) (we_cut h (fun T h => ?_) (fun r15 h => ⟨r15, h, rfl⟩))
                refine we_bool ?_
                exact ⟨rfl, h⟩
              · refine wss_nil ?_
                exact ⟨_, h, ⟨.fre (fun _ _ _ _ _ h => h) (.im (.im (.im (.im (.im (.un (.un .nil))))))), rfl⟩⟩
            | loose c s =>
              refine ⟨rfl, tupS [im ("loose" : Str), mu 0, im s], .tup (.cons .im (.cons (.mu (.inr ⟨0, rfl, rfl⟩)) (.cons .im .nil))), ?_⟩
              refine wss_cons ?_
              refine ws_if (wt_not (wt_cut h (fun T h => ?_) (fun b h => ite_on h (fun hb h => ?_) (fun hb h => ?_))))
              · refine wt_val (we_lend (α := Bool) (.keep (.keep (.keep (.keep (.keep (.keep (.keep (.tup (.keep (.thing rfl rfl fz_lst (.keep .nil))) .nil)))))))) (fun B' => ?_))
                refine WE.imp (we_callV (γ := Bool) (T := T) (Γd := []) OK__law_right (hr.mono (by decide)) (g__law_right TX) FD_k__law_right BI__law_right .nil (fun _ _ => trivial) ?_) (fun _ _ h => ⟨rfl, h.2⟩)
                refine wa_cons (wg_slot (i := 7) rfl rfl (fun _ _ _ _ ⟨_, _, e, _⟩ => ⟨_, e⟩) ?_)
                refine wa_e (α := (Tup Cell × Bool)) ?_
                refine we_var (α := ((Tup Cell) × Bool)) (i := 4) rfl rfl ?_
                refine wa_e (α := Cell) ?_
                refine we_var (α := Cell) (i := 6) rfl rfl ?_
                refine wa_nil ?_
                exact ⟨rfl, [im (whyD (.loose c s)), im shape_8, im there_13], fun _ => .cons why_tup (.cons .im (.cons .im .nil)), _, _, _, rfl, rfl, R.sat.imp (sat_nx h) (fun _ _ h => cp_ok h) fun _ h => h.elim⟩
              · refine wss_one ?_
                refine ws_ret (α := Bool) (we_cut h (fun T h => ?_) (fun r15 h => ⟨r15, h, rfl⟩))
                refine we_bool ?_
                exact ⟨rfl, h⟩
              refine wss_nil ?_
              refine wss_cons ?_
              refine ws_if (wt_wc ?_)
              refine wc_eq Str hr.units ?_
              refine WG.typed (wg_ixS (i := 7) (n := 0) rfl rfl rfl ⟨("loose" : Str), rfl, rfl, ?_⟩)
              refine we_str ?_
              rw [show eqB ("loose" : Str) "loose" = true from by decide]
              refine wss_one (ws_expr (α := Unit) (we_clear (α := Cell) (j := 0) (xs := c) rfl (wg_ixS (i := 7) (n := 1) rfl rfl rfl ⟨rfl, rfl⟩) ?_))
              refine wss_one ?_
              refine ws_if (wt_not (wt_cut h (fun T h => ?_) (fun b h => ite_on h (fun hb h => ?_) (fun hb h => ?_))))
              · refine wt_val (we_callV (γ := Bool) (Γd := []) OK__law_right (hr.mono (by decide)) (g__law_right TX) FD_k__law_right BI__law_right .nil (fun _ _ => trivial) ?_)
                refine wa_e (α := PyData) ?_
                refine we_why ?_
                refine wg_call (Γd := []) OK_why_loose (hr.mono (by decide)) (g_why_loose TX) FD_k_why_loose BI_why_loose .nil (fun _ _ => trivial) ?_
                refine wa_e (α := (Tup Cell × Bool)) ?_
                refine we_var (α := ((Tup Cell) × Bool)) (i := 4) rfl rfl ?_
                refine wa_e (α := Cell) ?_
                refine we_var (α := Cell) (i := 6) rfl rfl ?_
                refine wa_nil ?_
                refine ⟨[], [], [im shape_8, im there_13], by decide, trivial, .cons .im (.cons .im .nil), _, _, rfl, rfl, R.sat.imp (R.bind_sat.mp h) (fun z _ h => ?_) (fun _ h => ⟨rfl, h⟩)⟩
                refine why_go (fun g1 w1 w2 w3 => ⟨w1, g1, w2, z, w3, ?_⟩)
                refine wa_e (α := (Tup Cell × Bool)) ?_
                refine we_var (α := ((Tup Cell) × Bool)) (i := 4) rfl rfl ?_
                refine wa_e (α := Cell) ?_
                refine we_var (α := Cell) (i := 6) rfl rfl ?_
                refine wa_nil ?_
                exact ⟨rfl, [im (whyD z), im shape_8, im there_13], fun _ => .cons .im (.cons .im (.cons .im .nil)), _, _, _, rfl, rfl, R.sat.imp (sat_nx h) (fun _ _ h => cp_ok h) fun _ h => h.elim⟩
              · refine wss_one ?_
                refine ws_ret (α := Bool) (we_cut h (fun T h => ?_) (fun r15 h => ⟨r15, h, rfl⟩))
                refine we_bool ?_
                exact ⟨rfl, h⟩
              · refine wss_nil ?_
                exact ⟨_, h, ⟨.fre (fun _ _ _ _ _ h => h) (.im (.im (.im (.im (.im (.un (.un .nil))))))), rfl⟩⟩
          refine wss_nil ?_
          exact ⟨_, h, ⟨.fre (fun _ _ _ _ _ h => h) (.im (.im (.im (.im (.im (.un (.un .nil))))))), rfl⟩⟩
        exact ⟨_, h, ⟨.fre (fun _ _ _ _ _ h => h) (.im (.im (.im (.im (.un (.un (.un .nil))))))), rfl⟩⟩
      exact ⟨_, h, ⟨.fre (fun _ _ _ _ _ h => h) (.un (.un (.un (.un (.un (.un (.un .nil))))))), rfl⟩⟩
    refine wss_one ?_
    refine ws_ret (α := Bool) (we_end h (fun T h => ?_) (fun y h => ret_im h))
    refine we_bool ?_
    exact ⟨rfl, h⟩
/-- every def keeps its promise -/
theorem all_ok (TX : Tx K mg) : ∃ fd, FD_law K fd ∧ FnOk P w K mg base (L2.CX P w) 6 (He.ga K "law") fd ["script"] (spF K fs_law) := by
  obtain ⟨fd_near_cells, F_near_cells⟩ := fd_near_cells TX
  have o_near_cells := ok_near_cells (P := P) (w := w) (base := base) TX F_near_cells
  obtain ⟨fd_noted, F_noted⟩ := fd_noted TX
  have o_noted := ok_noted (P := P) (w := w) (base := base) TX F_noted
  obtain ⟨fd_flooded, F_flooded⟩ := fd_flooded TX
  have o_flooded := ok_flooded (P := P) (w := w) (base := base) TX F_flooded
  obtain ⟨fd__law_cell, F__law_cell⟩ := fd__law_cell TX
  have o__law_cell := ok__law_cell (P := P) (w := w) (base := base) TX F__law_cell
  obtain ⟨fd__law_deal, F__law_deal⟩ := fd__law_deal TX
  have o__law_deal := ok__law_deal (P := P) (w := w) (base := base) TX F__law_deal
  obtain ⟨fd__law_kept, F__law_kept⟩ := fd__law_kept TX
  have o__law_kept := ok__law_kept (P := P) (w := w) (base := base) TX F__law_kept
  obtain ⟨fd__law_base, F__law_base⟩ := fd__law_base TX
  have o__law_base := ok__law_base (P := P) (w := w) (base := base) TX F__law_base
  obtain ⟨fd__law_board, F__law_board⟩ := fd__law_board TX
  have o__law_board := ok__law_board (P := P) (w := w) (base := base) TX F__law_board (F__law_base := F__law_base) (OK__law_base := o__law_base) (F__law_kept := F__law_kept) (OK__law_kept := o__law_kept)
  obtain ⟨fd__law_fallen, F__law_fallen⟩ := fd__law_fallen TX
  have o__law_fallen := ok__law_fallen (P := P) (w := w) (base := base) TX F__law_fallen
  obtain ⟨fd__law_has, F__law_has⟩ := fd__law_has TX
  have o__law_has := ok__law_has (P := P) (w := w) (base := base) TX F__law_has
  obtain ⟨fd__law_around, F__law_around⟩ := fd__law_around TX
  have o__law_around := ok__law_around (P := P) (w := w) (base := base) TX F__law_around (F__law_has := F__law_has) (OK__law_has := o__law_has)
  obtain ⟨fd__law_cells, F__law_cells⟩ := fd__law_cells TX
  have o__law_cells := ok__law_cells (P := P) (w := w) (base := base) TX F__law_cells
  obtain ⟨fd__law_chain, F__law_chain⟩ := fd__law_chain TX
  have o__law_chain := ok__law_chain (P := P) (w := w) (base := base) TX F__law_chain (F__law_cells := F__law_cells) (OK__law_cells := o__law_cells)
  obtain ⟨fd_why_around, F_why_around⟩ := fd_why_around TX
  have o_why_around := ok_why_around (P := P) (w := w) (base := base) TX F_why_around (F_flooded := F_flooded) (OK_flooded := o_flooded) (F_noted := F_noted) (OK_noted := o_noted) (F_near_cells := F_near_cells) (OK_near_cells := o_near_cells)
  obtain ⟨fd_why_loose, F_why_loose⟩ := fd_why_loose TX
  have o_why_loose := ok_why_loose (P := P) (w := w) (base := base) TX F_why_loose (F_noted := F_noted) (OK_noted := o_noted) (F_why_around := F_why_around) (OK_why_around := o_why_around)
  obtain ⟨fd__law_right, F__law_right⟩ := fd__law_right TX
  have o__law_right_word := ok__law_right_word (P := P) (w := w) (base := base) TX F__law_right (F__law_around := F__law_around) (OK__law_around := o__law_around) (F__law_fallen := F__law_fallen) (OK__law_fallen := o__law_fallen) (F__law_cells := F__law_cells) (OK__law_cells := o__law_cells) (F__law_chain := F__law_chain) (OK__law_chain := o__law_chain) (F__law_has := F__law_has) (OK__law_has := o__law_has)
  have o__law_right_bridge := ok__law_right_bridge (P := P) (w := w) (base := base) TX F__law_right (F__law_around := F__law_around) (OK__law_around := o__law_around) (F__law_fallen := F__law_fallen) (OK__law_fallen := o__law_fallen) (F__law_cells := F__law_cells) (OK__law_cells := o__law_cells) (F__law_chain := F__law_chain) (OK__law_chain := o__law_chain) (F__law_has := F__law_has) (OK__law_has := o__law_has)
  have o__law_right_loose := ok__law_right_loose (P := P) (w := w) (base := base) TX F__law_right (F__law_around := F__law_around) (OK__law_around := o__law_around) (F__law_fallen := F__law_fallen) (OK__law_fallen := o__law_fallen) (F__law_cells := F__law_cells) (OK__law_cells := o__law_cells) (F__law_chain := F__law_chain) (OK__law_chain := o__law_chain) (F__law_has := F__law_has) (OK__law_has := o__law_has)
  obtain ⟨fd_law, F_law⟩ := fd_law TX
  have o__law_right := (ok__law_right o__law_right_word o__law_right_bridge o__law_right_loose).mono (k := 5) (by decide)
  have o_law := ok_law (P := P) (w := w) (base := base) TX F_law (F__law_board := F__law_board) (OK__law_board := o__law_board) (F__law_cell := F__law_cell) (OK__law_cell := o__law_cell) (F__law_deal := F__law_deal) (OK__law_deal := o__law_deal) (F__law_kept := F__law_kept) (OK__law_kept := o__law_kept) (F__law_has := F__law_has) (OK__law_has := o__law_has) (F_why_loose := F_why_loose) (OK_why_loose := o_why_loose) (F__law_right := F__law_right) (OK__law_right := o__law_right)
  exact ⟨_, F_law, o_law⟩
end
end T72

/-! Law72a: the mirrors in plain words: noted, flooded, fallen. -/
namespace T72
open PySem PySem.Spec PyProof.Rows L2 G
open PySem.W (Datum Tup T3)
theorem memb_iff {α : Type} [DecidableEq α] {x : α} {xs : List α} : memb x xs = true ↔ x ∈ xs := by
  unfold memb
  simp
theorem memb_congr {α : Type} [DecidableEq α] {x : α} {xs ys : List α} (h : x ∈ xs ↔ x ∈ ys) : memb x xs = memb x ys := by
  unfold memb
  simp [h]
theorem memb_eq {x : Cell} {xs : List Cell} : memb x xs = decide (x ∈ xs) := memb_cell
theorem eqB_iff {α : Type} [DecidableEq α] {x y : α} : eqB x y = true ↔ x = y := by
  unfold eqB
  simp
theorem neB_iff {α : Type} [DecidableEq α] {x y : α} : neB x y = true ↔ x ≠ y := by
  unfold neB
  simp
theorem chk_t {α : Type} {c : Bool} {r : R α} (h : c = true) : chk c r = r := by
  rw [h, chk_true]
theorem chk_d {α : Type} {p : Prop} [Decidable p] {r : R α} (h : p) : chk (decide p) r = r := chk_t (decide_eq_true h)
theorem forR_inv {S ρ α : Type} {f : S → α → R (Fl S ρ)} {g : S → α → S} {I : S → Prop} : ∀ (xs : List α) (s : S), (∀ s x, x ∈ xs → I s → f s x = .ok (.nx (g s x)) ∧ I (g s x)) → I s → forR f xs s = .ok (.nx (xs.foldl g s)) ∧ I (xs.foldl g s)
  | [], s, _, hs => ⟨rfl, hs⟩
  | x :: xs, s, h, hs => by
    obtain ⟨h1, h2⟩ := h s x List.mem_cons_self hs
    have ih := forR_inv xs (g s x) (fun s y hy => h s y (List.mem_cons_of_mem _ hy)) h2
    refine ⟨?_, ih.2⟩
    show (f s x).bind _ = _
    rw [h1]
    exact ih.1
theorem sizeL : sizeLine = 16777216 := sizeLine_eq
/-! ### noted -/
def notedP (cells : List Cell) : List Cell := cells.foldl putC []
theorem putC_mem {ks : List Cell} {c x : Cell} : x ∈ putC ks c ↔ x ∈ ks ∨ x = c := by
  unfold putC
  by_cases h : c ∈ ks
  · rw [if_pos h]
    constructor
    · exact .inl
    · rintro (h1 | rfl)
      · exact h1
      · exact h
  · rw [if_neg h]
    simp
theorem putC_nodup {ks : List Cell} {c : Cell} (h : ks.Nodup) : (putC ks c).Nodup := by
  unfold putC
  by_cases hc : c ∈ ks
  · rw [if_pos hc]
    exact h
  · rw [if_neg hc, List.nodup_append]
    refine ⟨h, by simp, fun a ha b hb e => ?_⟩
    have : b = c := by simpa using hb
    subst this
    subst e
    exact hc ha
theorem putC_len {ks : List Cell} {c : Cell} : (putC ks c).length ≤ ks.length + 1 := by
  unfold putC
  split
  · omega
  · simp
theorem putC_new {ks : List Cell} {c : Cell} (h : c ∉ ks) : putC ks c = ks ++ [c] := if_neg h
theorem putAll : ∀ (xs ks : List Cell), ks.Nodup → (xs.foldl putC ks).Nodup ∧ (∀ x, x ∈ xs.foldl putC ks ↔ x ∈ ks ∨ x ∈ xs) ∧ (xs.foldl putC ks).length ≤ ks.length + xs.length
  | [], ks, h => ⟨h, by simp, by simp⟩
  | c :: xs, ks, h => by
    obtain ⟨h1, h2, h3⟩ := putAll xs (putC ks c) (putC_nodup h)
    refine ⟨h1, fun x => ?_, ?_⟩
    · rw [List.foldl_cons, h2, putC_mem, List.mem_cons, or_assoc]
    · have := putC_len (ks := ks) (c := c)
      rw [List.foldl_cons, List.length_cons]
      omega
theorem put_run {ρ : Type} : ∀ (xs ks : List Cell), ks.length + xs.length ≤ sizeLine → forR (S := List Cell) (ρ := ρ) (fun s y => chk (decide (s.length < sizeLine)) (R.ok (.nx (putC s y)))) xs ks = .ok (.nx (xs.foldl putC ks))
  | [], ks, _ => rfl
  | c :: xs, ks, h => by
    have hl : ks.length < sizeLine := by rw [List.length_cons] at h; omega
    show (chk _ _).bind _ = _
    rw [chk_d hl]
    have := putC_len (ks := ks) (c := c)
    exact put_run xs (putC ks c) (by rw [List.length_cons] at h; omega)
theorem noted_ok {cells : List Cell} (h : cells.length ≤ sizeLine) : m_noted cells = .ok (notedP cells) := by
  unfold m_noted R.fl
  rw [put_run cells [] (by simpa using h)]
  rfl
theorem notedP_mem {cells : List Cell} {x : Cell} : x ∈ notedP cells ↔ x ∈ cells := by
  have := (putAll cells [] List.nodup_nil).2.1 x
  unfold notedP
  simpa using this
theorem putAll_nodup : ∀ (xs ks : List Cell), (ks ++ xs).Nodup → xs.foldl putC ks = ks ++ xs
  | [], ks, _ => by simp
  | c :: xs, ks, h => by
    have hc : c ∉ ks := fun hm => (List.nodup_append.mp h).2.2 c hm c List.mem_cons_self rfl
    rw [List.foldl_cons, putC_new hc, putAll_nodup xs (ks ++ [c]) (by rw [List.append_assoc]; exact h), List.append_assoc]
    rfl
theorem notedP_nodup {xs : List Cell} (h : xs.Nodup) : notedP xs = xs := putAll_nodup xs [] h
/-! ### flooding -/
def nb (c o : Cell) : Cell := (c.1 + o.1, c.2 + o.2)
def fs1 (c : Cell) (s : List Cell × List Cell) (o : Cell) : List Cell × List Cell := if nb c o ∈ s.2 then (s.1 ++ [nb c o], popC s.2 (nb c o)) else s
def fl1 (c : Cell) (offs : List Cell) (s : List Cell × List Cell) : List Cell × List Cell := offs.foldl (fs1 c) s
def tch (a b : Cell) : Prop := max2 (abs1 (a.1 - b.1)) (abs1 (a.2 - b.2)) = 1
/-- each but the first one touches one ahead -/
def Chn (l : List Cell) : Prop := ∀ i (h : i < l.length), 1 ≤ i → ∃ a ∈ l.take i, tch a l[i]
theorem pop_perm {l : List Cell} {n : Cell} (nd : l.Nodup) (h : n ∈ l) : l.Perm (n :: popC l n) := by
  unfold popC
  induction l with
  | nil => exact nomatch h
  | cons x l ih =>
    have hx := List.nodup_cons.mp nd
    by_cases e : x = n
    · subst e
      rw [List.filter_cons_of_neg (by simp)]
      have : l.filter (fun k => decide (k ≠ x)) = l := List.filter_eq_self.mpr fun a ha => by
        have : a ≠ x := fun e => hx.1 (e ▸ ha)
        simpa using this
      rw [this]
    · rw [List.filter_cons_of_pos (by simpa using e)]
      have hn : n ∈ l := by
        rcases List.mem_cons.mp h with h | h
        · exact absurd h.symm e
        · exact h
      exact ((ih hx.2 hn).cons x).trans (List.Perm.swap n x _)
/-- the invariant of a flood over the cells N -/
structure FI (N : List Cell) (s : List Cell × List Cell) : Prop where
  nd : s.2.Nodup
  perm : (s.1 ++ s.2).Perm N
  chn : Chn s.1
theorem FI.len {N : List Cell} {s : List Cell × List Cell} (h : FI N s) : s.1.length + s.2.length = N.length := by
  rw [← List.length_append]
  exact h.perm.length_eq
theorem chn_snoc {l : List Cell} {c n : Cell} (h : Chn l) (hc : c ∈ l) (ht : tch c n) : Chn (l ++ [n]) := fun i hi h1 => by
  by_cases e : i < l.length
  · obtain ⟨a, ha, t⟩ := h i e h1
    refine ⟨a, ?_, ?_⟩
    · rw [List.take_append_of_le_length (Nat.le_of_lt e)]
      exact ha
    · rw [List.getElem_append_left e]
      exact t
  · have e2 : i = l.length := by
      rw [List.length_append, List.length_singleton] at hi
      omega
    subst e2
    refine ⟨c, ?_, ?_⟩
    · rw [List.take_left' rfl]
      exact hc
    · rw [List.getElem_append_right (Nat.le_refl _)]
      simpa using ht
def Offs (o : Cell) : Prop := max2 (abs1 o.1) (abs1 o.2) = 1
theorem tch_nb {c o : Cell} (h : Offs o) : tch c (nb c o) := by
  unfold tch nb
  unfold Offs at h
  have e : ∀ a b : Int, abs1 (a - (a + b)) = abs1 b := fun a b => by
    unfold abs1
    split <;> split <;> omega
  show max2 (abs1 (c.1 - (c.1 + o.1))) (abs1 (c.2 - (c.2 + o.2))) = 1
  rw [e, e]
  exact h
theorem fs1_inv {N : List Cell} {c o : Cell} {s : List Cell × List Cell} (h : FI N s) (hc : c ∈ s.1) (ho : Offs o) : FI N (fs1 c s o) ∧ c ∈ (fs1 c s o).1 ∧ ∃ r, (fs1 c s o).1 = s.1 ++ r := by
  unfold fs1
  by_cases hn : nb c o ∈ s.2
  · rw [if_pos hn]
    refine ⟨⟨?_, ?_, chn_snoc h.chn hc (tch_nb ho)⟩, List.mem_append_left _ hc, _, rfl⟩
    · unfold popC
      exact h.nd.filter _
    · show ((s.1 ++ [nb c o]) ++ popC s.2 (nb c o)).Perm N
      rw [List.append_assoc]
      exact ((List.Perm.append_left s.1 (pop_perm h.nd hn)).symm).trans h.perm
  · rw [if_neg hn]
    exact ⟨h, hc, [], by simp⟩

theorem fl1_inv {N : List Cell} {c : Cell} : ∀ (offs : List Cell) {s : List Cell × List Cell}, (∀ o ∈ offs, Offs o) → FI N s → c ∈ s.1 → FI N (fl1 c offs s) ∧ ∃ r, (fl1 c offs s).1 = s.1 ++ r
  | [], s, _, h, _ => ⟨h, [], by simp [fl1]⟩
  | o :: offs, s, ho, h, hc => by
    obtain ⟨h1, h2, r1, e1⟩ := fs1_inv h hc (ho o List.mem_cons_self)
    obtain ⟨h3, r2, e2⟩ := fl1_inv offs (fun o ho' => ho o (List.mem_cons_of_mem _ ho')) h1 h2
    refine ⟨h3, r1 ++ r2, ?_⟩
    show (fl1 c offs (fs1 c s o)).1 = _
    rw [e2, e1, List.append_assoc]
theorem idx_nat {α : Type} {xs : List α} {i : Nat} (h : i < xs.length) : idx xs (i : Int) = .ok xs[i] := by
  unfold idx atI ixN
  have h2 : (i : Int) < xs.length := by omega
  simp [h2, h]
/-- the way of a flood -/
@[irreducible] def fld : Nat → Nat → List Cell × List Cell → List Cell × List Cell
  | 0, _, s => s
  | k + 1, at', s => match s.1[at']? with
    | some c => fld k (at' + 1) (fl1 c v_AROUND.items s)
    | none => s
theorem offs_around : ∀ o ∈ v_AROUND.items, Offs o := by
  unfold Offs
  decide
theorem fld_inv {N : List Cell} : ∀ (k at' : Nat) {s : List Cell × List Cell}, FI N s → FI N (fld k at' s) ∧ ∃ r, (fld k at' s).1 = s.1 ++ r
  | 0, _, s, h => by
    unfold fld
    exact ⟨h, [], by simp⟩
  | k + 1, at', s, h => by
    unfold fld
    cases e : s.1[at']? with
    | none => exact ⟨h, [], by simp⟩
    | some c =>
      obtain ⟨h1, r1, e1⟩ := fl1_inv v_AROUND.items offs_around h (List.mem_of_getElem? e)
      obtain ⟨h2, r2, e2⟩ := fld_inv k (at' + 1) h1
      refine ⟨h2, r1 ++ r2, ?_⟩
      show (fld k (at' + 1) (fl1 c v_AROUND.items s)).1 = _
      rw [e2, e1, List.append_assoc]
theorem fld_stable {N : List Cell} : ∀ (k k' at' : Nat) {s : List Cell × List Cell}, FI N s → N.length < k + at' → N.length < k' + at' → fld k at' s = fld k' at' s
  | 0, 0, _, _, _, _, _ => rfl
  | 0, k' + 1, at', s, h, h1, _ => by
    have hl := h.len
    unfold fld
    rw [List.getElem?_eq_none (by omega)]
  | k + 1, 0, at', s, h, _, h2 => by
    have hl := h.len
    unfold fld
    rw [List.getElem?_eq_none (by omega)]
  | k + 1, k' + 1, at', s, h, h1, h2 => by
    unfold fld
    cases e : s.1[at']? with
    | none => rfl
    | some c => exact fld_stable k k' (at' + 1) (fl1_inv v_AROUND.items offs_around h (List.mem_of_getElem? e)).1 (by omega) (by omega)
/-- one step of the program's flood -/
theorem step_ok {N : List Cell} {at' : Nat} {c o : Cell} {s : List Cell × List Cell} (hN : N.length < sizeLine) (h : FI N s) (hc : s.1[at']? = some c) (ho : Offs o) :
    ((((((idx s.1 (at' : Int)).bind fun x5 => R.ok (x5).1).bind fun x6 => R.ok (x6 + o.1)).bind fun x7 => (((idx s.1 (at' : Int)).bind fun x8 => R.ok (x8).2).bind fun x9 => R.ok (x9 + o.2)).bind fun x10 => R.ok (x7, x10) : R Cell).bind fun near_11 => (R.ok (memb near_11 (s.2))).bind fun b12 => R.ite b12 (chk (decide (near_11 ∈ s.2)) (chk (decide ((s.1).length < sizeLine)) (R.ok (.nx ((s.1 ++ [near_11]), (popC s.2 near_11)))))) (R.ok (.nx (s.1, s.2)))) : R (Fl (List Cell × List Cell) Empty)) = .ok (.nx (fs1 c s o)) := by
  obtain ⟨hl, he⟩ := List.getElem?_eq_some_iff.mp hc
  rw [idx_nat hl, he]
  simp only [R.ok_bind]
  unfold fs1 nb
  rw [memb_eq]
  by_cases hn : (c.1 + o.1, c.2 + o.2) ∈ s.2
  · have hlen := h.len
    have hp : 0 < s.2.length := List.length_pos_of_mem hn
    rw [decide_eq_true hn, if_pos hn, R.ite_true, chk_true, chk_d (by omega)]
  · rw [decide_eq_false hn, if_neg hn, R.ite_false]
theorem getElem?_pre {α : Type} {l r : List α} {i : Nat} {x : α} (h : l[i]? = some x) : (l ++ r)[i]? = some x := by
  rw [List.getElem?_append_left (List.getElem?_eq_some_iff.mp h).1, h]
theorem whileR_t {S ρ : Type} {c : S → R Bool} {f : S → R (Fl S ρ)} {n : Nat} {s s' : S} (hc : c s = .ok true) (hf : f s = .ok (.nx s')) : whileR c f (n + 1) s = whileR c f n s' := by
  show (c s).bind _ = _
  rw [hc]
  show (f s).bind _ = _
  rw [hf]
  rfl
theorem whileR_f {S ρ : Type} {c : S → R Bool} {f : S → R (Fl S ρ)} {n : Nat} {s : S} (hc : c s = .ok false) : whileR c f (n + 1) s = .ok (.nx s) := by
  show (c s).bind _ = _
  rw [hc]
  rfl
theorem fl_nx {S ρ β : Type} {r : R (Fl S ρ)} {s : S} {k : S → R β} {q : ρ → R β} (h : r = .ok (.nx s)) : R.fl r k q = k s := by
  rw [h]
  rfl
theorem fl_rt {S ρ β : Type} {r : R (Fl S ρ)} {y : ρ} {k : S → R β} {q : ρ → R β} (h : r = .ok (.rt y)) : R.fl r k q = q y := by
  rw [h]
  rfl
theorem while_flood {N : List Cell} {S ρ : Type} (φ : Nat → List Cell × List Cell → S) {c : S → R Bool} {f : S → R (Fl S ρ)} (Hc : ∀ a s, c (φ a s) = .ok (decide (a < s.1.length)))
    (Hf : ∀ a s x, FI N s → s.1[a]? = some x → f (φ a s) = .ok (.nx (φ (a + 1) (fl1 x v_AROUND.items s)))) : ∀ (k a : Nat) (s : List Cell × List Cell), FI N s → N.length < k + 1 + a → ∃ a2, whileR c f (k + 1) (φ a s) = .ok (.nx (φ a2 (fld (k + 1) a s)))
  | k, a, s, h, hk => by
    cases e : s.1[a]? with
    | none =>
      have hl : s.1.length ≤ a := List.getElem?_eq_none_iff.mp e
      refine ⟨a, ?_⟩
      rw [whileR_f (by rw [Hc, decide_eq_false (by omega)]), fld, e]
    | some x =>
      obtain ⟨hl, he⟩ := List.getElem?_eq_some_iff.mp e
      have h1 := (fl1_inv v_AROUND.items offs_around h (List.mem_of_getElem? e)).1
      have hlen := h.len
      rw [whileR_t (by rw [Hc, decide_eq_true hl]) (Hf a s x h e)]
      have e2 : fld (k + 1) a s = fld k (a + 1) (fl1 x v_AROUND.items s) := by rw [fld, e]
      rw [e2]
      cases k with
      | zero => omega
      | succ k => exact while_flood φ Hc Hf k (a + 1) _ h1 (by omega)
theorem fi_start {N : List Cell} (nd : N.Nodup) {start : Cell} (hs : start ∈ N) : FI N ([start], popC N start) := ⟨by unfold popC; exact nd.filter _, (pop_perm nd hs).symm, fun i hi h1 => by
  have : i < 1 := hi
  omega⟩
theorem flood_ok {N : List Cell} (hN : N.length < sizeLine) (nd : N.Nodup) {start : Cell} (hs : start ∈ N) : m_flooded N start v_AROUND = .ok (fld (N.length + 1) 0 ([start], popC N start)) := by
  have hI := fi_start nd hs
  unfold m_flooded
  rw [chk_d hs]
  obtain ⟨a2, hw⟩ := while_flood (N := N) (S := Int × (List Cell) × (List Cell)) (ρ := Empty) (fun a s => ((a : Int), s.1, s.2)) (c := fun (s2 : Int × (List Cell) × (List Cell)) => R.ok (decide (s2.1 < ((s2.2.1).length : Int))))
    (f := fun (s2 : Int × (List Cell) × (List Cell)) => R.fl (forR (S := (List Cell) × (List Cell)) (ρ := Empty) (fun (s3 : (List Cell) × (List Cell)) (y4 : Cell) => ((((idx s3.1 s2.1).bind fun x5 => R.ok (x5).1).bind fun x6 => R.ok (x6 + y4.1)).bind fun x7 => (((idx s3.1 s2.1).bind fun x8 => R.ok (x8).2).bind fun x9 => R.ok (x9 + y4.2)).bind fun x10 => R.ok (x7, x10) : R Cell).bind fun near_11 => (R.ok (memb near_11 (s3.2))).bind fun b12 => R.ite b12 (chk (decide (near_11 ∈ s3.2)) (chk (decide ((s3.1).length < sizeLine)) (R.ok (.nx ((s3.1 ++ [near_11]), (popC s3.2 near_11)))))) (R.ok (.nx (s3.1, s3.2)))) (v_AROUND).items (s2.2.1, s2.2.2)) (fun (s13 : (List Cell) × (List Cell)) => (R.ok (s2.1 + 1) : R Int).bind fun at_14 => R.ok (.nx (at_14, s13.1, s13.2))) (fun y => nomatch y))
    (fun a s => congrArg R.ok (by
      show decide ((a : Int) < (s.1.length : Int)) = _
      exact decide_eq_decide.mpr (by omega)))
    (fun a s x h e => by
      have inner := forR_inv (ρ := Empty) (g := fs1 x) (I := fun t => FI N t ∧ t.1[a]? = some x) v_AROUND.items s (fun t o ho ⟨ht, hat⟩ => ⟨step_ok hN ht hat (offs_around o ho), by
        obtain ⟨q1, _, r, q3⟩ := fs1_inv ht (List.mem_of_getElem? hat) (offs_around o ho)
        exact ⟨q1, by rw [q3]; exact getElem?_pre hat⟩⟩) ⟨h, e⟩
      exact fl_nx inner.1) N.length 0 ([start], popC N start) hI (by omega)
  exact fl_nx hw
end T72

/-! Law72b: the law's own flood. -/
namespace T72
open PySem PySem.Spec PyProof.Rows L2 G
open PySem.W (Datum Tup T3)
def sw (s : List Cell × List Cell) : List Cell × List Cell := (s.2, s.1)
def g2 (x : Cell) (r : Int) (s : List Cell × List Cell) (c : Int) : List Cell × List Cell := sw (fs1 x (sw s) (r, c))
theorem fi_out {N : List Cell} (nd : N.Nodup) {s : List Cell × List Cell} (h : FI N s) {x : Cell} (hx : x ∈ s.1) : x ∉ s.2 := fun h2 => by
  have := h.perm.nodup_iff.mpr nd
  exact (List.nodup_append.mp this).2.2 x hx x h2 rfl
theorem fs1_mid {N : List Cell} (nd : N.Nodup) {s : List Cell × List Cell} (h : FI N s) {x : Cell} (hx : x ∈ s.1) : fs1 x s (0, 0) = s := by
  have e : nb x (0, 0) = x := by
    unfold nb
    simp
  unfold fs1
  rw [e, if_neg (fi_out nd h hx)]
theorem fs1_any {N : List Cell} (nd : N.Nodup) {x o : Cell} {s : List Cell × List Cell} (h : FI N s) (hx : x ∈ s.1) (ho : Offs o ∨ o = (0, 0)) : FI N (fs1 x s o) ∧ x ∈ (fs1 x s o).1 ∧ ∃ r, (fs1 x s o).1 = s.1 ++ r := by
  rcases ho with ho | rfl
  · exact fs1_inv h hx ho
  · rw [fs1_mid nd h hx]
    exact ⟨h, hx, [], by simp⟩
theorem offs9 : ∀ r ∈ [(-1 : Int), 0, 1], ∀ c ∈ [(-1 : Int), 0, 1], Offs (r, c) ∨ ((r, c) : Cell) = (0, 0) := by
  unfold Offs
  decide
theorem nine_abs {S : Type} (F : S → Cell → S) (t : S) (h : F (F (F (F (F t (-1, -1)) (-1, 0)) (-1, 1)) (0, -1)) (0, 0) = F (F (F (F t (-1, -1)) (-1, 0)) (-1, 1)) (0, -1)) :
    [(-1 : Int), 0, 1].foldl (fun s r => [(-1 : Int), 0, 1].foldl (fun s c => F s (r, c)) s) t = v_AROUND.items.foldl F t := by
  show F (F (F (F (F (F (F (F (F t (-1, -1)) (-1, 0)) (-1, 1)) (0, -1)) (0, 0)) (0, 1)) (1, -1)) (1, 0)) (1, 1) = F (F (F (F (F (F (F (F t (-1, -1)) (-1, 0)) (-1, 1)) (0, -1)) (0, 1)) (1, -1)) (1, 0)) (1, 1)
  rw [h]
theorem fold_sw {x : Cell} : ∀ (offs : List Cell) (t : List Cell × List Cell), offs.foldl (fun s o => sw (fs1 x (sw s) o)) (sw t) = sw (offs.foldl (fs1 x) t)
  | [], _ => rfl
  | o :: offs, t => fold_sw offs (fs1 x t o)
theorem nine {N : List Cell} (nd : N.Nodup) {x : Cell} {t : List Cell × List Cell} (h : FI N t) (hx : x ∈ t.1) : [(-1 : Int), 0, 1].foldl (fun s r => [(-1 : Int), 0, 1].foldl (g2 x r) s) (sw t) = sw (fl1 x v_AROUND.items t) := by
  have a1 := fs1_inv h hx (show Offs (-1, -1) by unfold Offs; decide)
  have a2 := fs1_inv a1.1 a1.2.1 (show Offs (-1, 0) by unfold Offs; decide)
  have a3 := fs1_inv a2.1 a2.2.1 (show Offs (-1, 1) by unfold Offs; decide)
  have a4 := fs1_inv a3.1 a3.2.1 (show Offs (0, -1) by unfold Offs; decide)
  have e := fs1_mid nd a4.1 a4.2.1
  refine (nine_abs (fun s o => sw (fs1 x (sw s) o)) (sw t) ?_).trans (fold_sw v_AROUND.items t)
  generalize fs1 x = f at e ⊢
  exact congrArg sw e
theorem step2_ok {N : List Cell} {a : Nat} {x : Cell} {r c : Int} {s : List Cell × List Cell} (hN : N.length < sizeLine) (h : FI N (sw s)) (hc : s.2[a]? = some x) :
    ((((((idx s.2 (a : Int)).bind fun x13 => R.ok (x13).1).bind fun x14 => R.ok (x14 + r)).bind fun x15 => (((idx s.2 (a : Int)).bind fun x16 => R.ok (x16).2).bind fun x17 => R.ok (x17 + c)).bind fun x18 => R.ok (x15, x18) : R Cell).bind fun near_19 => ((R.ok (memb near_19 (s.1))).bind fun c23 => R.ite c23 (((R.ok false).bind fun c21 => R.ite c21 ((chk (decide (CMul r c)) (R.ok (r * c))).bind fun x20 => R.ok (neB x20 (0))) (R.ok false)).bind fun c22 => R.ok (!c22)) (R.ok false)).bind fun b24 => R.ite b24 (chk (decide (near_19 ∈ s.1)) (chk (decide ((s.2).length < sizeLine)) (R.ok (.nx ((popC s.1 near_19), (s.2 ++ [near_19])))))) (R.ok (.nx (s.1, s.2)))) : R (Fl (List Cell × List Cell) Empty)) = .ok (.nx (g2 x r s c)) := by
  obtain ⟨hl, he⟩ := List.getElem?_eq_some_iff.mp hc
  rw [idx_nat hl, he]
  simp only [R.ok_bind, R.ite_false, Bool.not_false]
  unfold g2 fs1 nb sw
  rw [memb_eq]
  by_cases hn : (x.1 + r, x.2 + c) ∈ s.1
  · have hlen := h.len
    have hp : 0 < s.1.length := List.length_pos_of_mem hn
    unfold sw at hlen
    simp only at hlen
    rw [decide_eq_true hn, if_pos hn]
    simp only [R.ite_true, R.ok_bind, chk_true]
    rw [chk_d (by omega)]
  · rw [decide_eq_false hn, if_neg hn]
    simp only [R.ite_false, R.ok_bind]
def go1 (s : List (Tup Cell) × List Cell) (cell : Cell) : List (Tup Cell) × List Cell := if cell ∈ s.2 then (s.1 ++ [⟨sortS (fld 100 0 ([cell], popC s.2 cell)).1⟩], (fld 100 0 ([cell], popC s.2 cell)).2) else s
theorem fallen_ok {cells : List Cell} (hl : cells.length ≤ 50) : m__law_fallen cells false = .ok ((sortS cells).foldl go1 ([], notedP cells)).1 := by
  have hz := sizeL
  unfold m__law_fallen
  rw [fl_nx (put_run cells [] (by simp; omega))]
  have hN := putAll cells [] List.nodup_nil
  refine (fl_nx (forR_inv (g := go1) (I := fun s => s.2.Nodup ∧ s.1.length + s.2.length ≤ 50) _ _ (fun s y hy hI => ⟨?_, ?_⟩) ⟨hN.1, by
    have := hN.2.2
    simp at this ⊢
    omega⟩).1).trans rfl
  all_goals obtain ⟨nd, hb⟩ := hI
  rotate_left
  · unfold go1
    by_cases h : y ∈ s.2
    · rw [if_pos h]
      obtain ⟨q, r, e⟩ := fld_inv 100 0 (fi_start nd h)
      refine ⟨q.nd, ?_⟩
      have := q.len
      have e2 := congrArg List.length e
      rw [List.length_append, List.length_singleton] at e2
      show (s.1 ++ [_]).length + (fld 100 0 ([y], popC s.2 y)).2.length ≤ 50
      rw [List.length_append, List.length_singleton]
      omega
    · rw [if_neg h]
      exact ⟨nd, hb⟩
  · show (R.ok (memb y s.2)).bind _ = _
    rw [memb_eq]
    by_cases h : y ∈ s.2
    · have hp : 0 < s.2.length := List.length_pos_of_mem h
      have hI := fi_start nd h
      rw [decide_eq_true h, R.ok_bind, R.ite_true, chk_true, R.ok_bind]
      unfold go1
      rw [if_pos h]
      have hw := while_flood (N := s.2) (S := Int × (List Cell) × (List Cell)) (ρ := Empty) (fun a t => ((a : Int), t.2, t.1)) (c := fun (s8 : Int × (List Cell) × (List Cell)) => R.ok (decide (s8.1 < ((s8.2.2).length : Int))))
        (f := fun (s8 : Int × (List Cell) × (List Cell)) => R.fl (forR (S := (List Cell) × (List Cell)) (ρ := Empty) (fun (s9 : (List Cell) × (List Cell)) (y10 : Int) => R.fl (forR (S := (List Cell) × (List Cell)) (ρ := Empty) (fun (s11 : (List Cell) × (List Cell)) (y12 : Int) => ((((idx s11.2 s8.1).bind fun x13 => R.ok (x13).1).bind fun x14 => R.ok (x14 + y10)).bind fun x15 => (((idx s11.2 s8.1).bind fun x16 => R.ok (x16).2).bind fun x17 => R.ok (x17 + y12)).bind fun x18 => R.ok (x15, x18) : R Cell).bind fun near_19 => ((R.ok (memb near_19 (s11.1))).bind fun c23 => R.ite c23 (((R.ok false).bind fun c21 => R.ite c21 ((chk (decide (CMul y10 y12)) (R.ok (y10 * y12))).bind fun x20 => R.ok (neB x20 (0))) (R.ok false)).bind fun c22 => R.ok (!c22)) (R.ok false)).bind fun b24 => R.ite b24 (chk (decide (near_19 ∈ s11.1)) (chk (decide ((s11.2).length < sizeLine)) (R.ok (.nx ((popC s11.1 near_19), (s11.2 ++ [near_19])))))) (R.ok (.nx (s11.1, s11.2)))) ((⟨[(-1), 0, 1]⟩ : (Tup Int))).items (s9.1, s9.2)) (fun (s25 : (List Cell) × (List Cell)) => R.ok (.nx (s25.1, s25.2))) (fun y => nomatch y)) ((⟨[(-1), 0, 1]⟩ : (Tup Int))).items (s8.2.1, s8.2.2)) (fun (s26 : (List Cell) × (List Cell)) => (R.ok (s8.1 + 1) : R Int).bind fun at_27 => R.ok (.nx (at_27, s26.1, s26.2))) (fun y => nomatch y))
        (fun a t => congrArg R.ok (by
          show decide ((a : Int) < (t.1.length : Int)) = _
          exact decide_eq_decide.mpr (by omega)))
        (fun a t x ht e => by
          have outer := forR_inv (ρ := Empty) (g := fun s r => [(-1 : Int), 0, 1].foldl (g2 x r) s) (I := fun u => FI s.2 (sw u) ∧ u.2[a]? = some x) [(-1 : Int), 0, 1] (sw t) (fun u r hr ⟨hu, hat⟩ => by
            have inner := forR_inv (ρ := Empty) (g := g2 x r) (I := fun u => FI s.2 (sw u) ∧ u.2[a]? = some x) [(-1 : Int), 0, 1] u (fun u c hc ⟨hu, hat⟩ => ⟨step2_ok (by omega) hu hat, by
              obtain ⟨q1, _, r', q3⟩ := fs1_any nd hu (List.mem_of_getElem? hat) (offs9 r hr c hc)
              exact ⟨q1, by
                show (fs1 x (sw u) (r, c)).1[a]? = some x
                rw [q3]
                exact getElem?_pre hat⟩⟩) ⟨hu, hat⟩
            exact ⟨fl_nx (k := fun s25 : (List Cell) × (List Cell) => (R.ok (.nx (s25.1, s25.2)) : R (Fl ((List Cell) × (List Cell)) Empty))) (q := fun y => nomatch y) inner.1, inner.2⟩) ⟨ht, e⟩
          refine (fl_nx outer.1).trans ?_
          rw [nine nd ht (List.mem_of_getElem? e)]
          rfl) 99 0 ([y], popC s.2 y) hI (by omega)
      obtain ⟨a2, hw⟩ := hw
      refine (fl_nx hw).trans ?_
      rw [chk_d (by omega)]
    · rw [decide_eq_false h, R.ok_bind, R.ite_false]
      unfold go1
      rw [if_neg h]
/-- what is found: the first part, and more just where something is left -/
theorem go_more : ∀ (rest : List Cell) (fs : List (Tup Cell)) (left : List Cell), left.Nodup → (∀ x ∈ left, x ∈ rest) → ∃ more, (rest.foldl go1 (fs, left)).1 = fs ++ more ∧ (left = [] ↔ more = [])
  | [], fs, left, _, h => ⟨[], by simp, by
    constructor
    · exact fun _ => rfl
    · intro _
      cases left with
      | nil => rfl
      | cons x l => exact nomatch h x List.mem_cons_self⟩
  | c :: rest, fs, left, nd, h => by
    rw [List.foldl_cons]
    by_cases hc : c ∈ left
    · have hI := fi_start nd hc
      obtain ⟨q, r, e⟩ := fld_inv 100 0 hI
      have hcm : c ∈ (fld 100 0 ([c], popC left c)).1 := by
        rw [e]
        exact List.mem_append_left _ List.mem_cons_self
      have hg : go1 (fs, left) c = (fs ++ [⟨sortS (fld 100 0 ([c], popC left c)).1⟩], (fld 100 0 ([c], popC left c)).2) := if_pos hc
      obtain ⟨more, h1, h2⟩ := go_more rest (fs ++ [⟨sortS (fld 100 0 ([c], popC left c)).1⟩]) (fld 100 0 ([c], popC left c)).2 q.nd (fun x hx => by
        have hl : x ∈ left := q.perm.mem_iff.mp (List.mem_append_right _ hx)
        rcases List.mem_cons.mp (h x hl) with e | e
        · subst e
          exact absurd hx (fi_out nd q hcm)
        · exact e)
      refine ⟨_, by rw [hg, h1, List.append_assoc], ?_⟩
      constructor
      · intro e
        rw [e] at hc
        exact nomatch hc
      · intro e
        simp at e
    · have hg : go1 (fs, left) c = (fs, left) := if_neg hc
      rw [hg]
      exact go_more rest fs left nd fun x hx => by
        rcases List.mem_cons.mp (h x hx) with e | e
        · subst e
          exact absurd hx hc
        · exact e
end T72

/-! Law72c: what is told is right. -/
namespace T72
open PySem PySem.Spec PyProof.Rows L2 G
open PySem.W (Datum Tup T3)
/-! ### sorted cells -/
theorem le_trans' (a b c : Cell) (h1 : cellLe a b = true) (h2 : cellLe b c = true) : cellLe a c = true := by
  unfold cellLe at *
  simp only [decide_eq_true_eq] at *
  omega
theorem le_total' (a b : Cell) : (cellLe a b || cellLe b a) = true := by
  unfold cellLe
  simp only [Bool.or_eq_true, decide_eq_true_eq]
  omega
theorem le_anti (a b : Cell) (h1 : cellLe a b = true) (h2 : cellLe b a = true) : a = b := by
  unfold cellLe at *
  simp only [decide_eq_true_eq] at *
  exact Prod.ext (by omega) (by omega)
theorem sortS_cell (l : List Cell) : sortS l = l.mergeSort cellLe := rfl
theorem sort_perm {l l' : List Cell} (h : l.Perm l') : sortS l = sortS l' := by
  rw [sortS_cell, sortS_cell]
  exact List.Perm.eq_of_pairwise (le := fun a b => cellLe a b = true) (fun a b _ _ => le_anti a b) (List.pairwise_mergeSort le_trans' le_total' l) (List.pairwise_mergeSort le_trans' le_total' l')
    ((List.mergeSort_perm l cellLe).trans (h.trans (List.mergeSort_perm l' cellLe).symm))
theorem sort_mem {l : List Cell} {x : Cell} : x ∈ sortS l ↔ x ∈ l := List.mem_mergeSort
theorem sort_len (l : List Cell) : (sortS l).length = l.length := List.length_mergeSort l
/-! ### comprehensions that are plain -/
theorem comp_pure {α β : Type} (p : α → Bool) (f : α → β) {xs : List α} (h : xs.length ≤ sizeLine) : comp (fun x => R.ok (p x)) (fun x => R.ok (f x)) xs = .ok ((xs.filter p).map f) := by
  unfold comp
  rw [chk_d h, compR_pure]
  rfl
theorem comp_all {α β : Type} (f : α → β) {xs : List α} (h : xs.length ≤ sizeLine) : comp (fun _ => R.ok true) (fun x => R.ok (f x)) xs = .ok (xs.map f) := by
  rw [comp_pure (fun _ => true) f h, List.filter_eq_self.mpr fun _ _ => rfl]
theorem comp_id {α : Type} (p : α → Bool) {xs : List α} (h : xs.length ≤ sizeLine) : comp (fun x => R.ok (p x)) (fun x => R.ok x) xs = .ok (xs.filter p) := by
  rw [comp_pure p (fun x => x) h]
  simp
/-! ### the cells beside -/
def Hs (sh : Tup Cell × Bool) (x : Cell) : Bool := neB (memb x sh.1.items) sh.2
def Nr (sh : Tup Cell × Bool) (c : Cell) : List Cell := (v_AROUND.items.map (nb c)).filter (Hs sh)
def Lk (sh : Tup Cell × Bool) (c : Cell) : List Cell := (v_SIDES.items.map (nb c)).filter fun x => !Hs sh x
def Bd (c : Cell) : Prop := -1000000000000 ≤ c.1 ∧ c.1 ≤ 1000000000000 ∧ -1000000000000 ≤ c.2 ∧ c.2 ≤ 1000000000000
theorem near_ok (c : Cell) (steps : Tup Cell) (h : steps.items.length ≤ sizeLine) : m_near_cells c steps = .ok (steps.items.map (nb c)) := comp_all (nb c) h
theorem nb_inj {c a b : Cell} (h : nb c a = nb c b) : a = b := by
  unfold nb at h
  injection h with h1 h2
  exact Prod.ext (by omega) (by omega)
theorem map_nodup {c : Cell} : ∀ {l : List Cell}, l.Nodup → (l.map (nb c)).Nodup
  | [], _ => List.nodup_nil
  | x :: l, h => by
    have h' := List.nodup_cons.mp h
    rw [List.map_cons, List.nodup_cons]
    refine ⟨fun hm => ?_, map_nodup h'.2⟩
    obtain ⟨y, hy, e⟩ := List.mem_map.mp hm
    rw [nb_inj e] at hy
    exact h'.1 hy
theorem nr_nodup {sh : Tup Cell × Bool} {c : Cell} : (Nr sh c).Nodup := (map_nodup (by decide)).filter _
theorem nr_len {sh : Tup Cell × Bool} {c : Cell} : (Nr sh c).length ≤ 8 := Nat.le_trans (List.length_filter_le _ _) (by rw [List.length_map]; decide)
theorem nr_sorted {sh : Tup Cell × Bool} {c : Cell} : sortS (Nr sh c) = Nr sh c := by
  rw [sortS_cell]
  refine List.mergeSort_of_pairwise (List.Pairwise.filter _ ?_)
  rw [List.pairwise_map]
  refine List.Pairwise.imp (R := fun a b => cellLe a b = true) (fun {a b} h => ?_) (by decide)
  unfold cellLe nb at *
  simp only [decide_eq_true_eq] at *
  omega
theorem foldl_filter {p : Cell → Bool} : ∀ (xs s : List Cell), xs.foldl (fun s x => if p x = true then s ++ [x] else s) s = s ++ xs.filter p
  | [], s => by simp
  | x :: xs, s => by
    rw [List.foldl_cons, foldl_filter xs]
    by_cases h : p x = true
    · rw [if_pos h, List.filter_cons_of_pos h, List.append_assoc]
      rfl
    · rw [if_neg h, List.filter_cons_of_neg h]
theorem range3 (a : Int) : rangeL (a - 1) (a + 2) = [a - 1, a, a + 1] := by
  unfold rangeL
  have h : (a + 2 - (a - 1)).toNat = 3 := by omega
  rw [h]
  show [a - 1 + ((0 : Nat) : Int), a - 1 + ((1 : Nat) : Int), a - 1 + ((2 : Nat) : Int)] = _
  have h0 : a - 1 + ((0 : Nat) : Int) = a - 1 := by omega
  have h1 : a - 1 + ((1 : Nat) : Int) = a := by omega
  have h2 : a - 1 + ((2 : Nat) : Int) = a + 1 := by omega
  rw [h0, h1, h2]
theorem forR_invK {S ρ α : Type} {K : Nat} {f : S → α → R (Fl S ρ)} {g : S → α → S} {I : Nat → S → Prop} (h : ∀ k s x, k < K → I k s → f s x = .ok (.nx (g s x)) ∧ I (k + 1) (g s x)) : ∀ (xs : List α) (k : Nat) (s : S), k + xs.length ≤ K → I k s → forR f xs s = .ok (.nx (xs.foldl g s)) ∧ I (k + xs.length) (xs.foldl g s)
  | [], k, s, _, hs => ⟨rfl, hs⟩
  | x :: xs, k, s, hK, hs => by
    rw [List.length_cons] at hK ⊢
    obtain ⟨h1, h2⟩ := h k s x (by omega) hs
    have ih := forR_invK h xs (k + 1) (g s x) (by omega) h2
    refine ⟨?_, ?_⟩
    · show (f s x).bind _ = _
      rw [h1]
      exact ih.1
    · have := ih.2
      rw [show k + (xs.length + 1) = k + 1 + xs.length by omega]
      exact this
def row (p : Cell → Bool) (b : List Int) (s : List Cell) (r : Int) : List Cell := b.foldl (fun s x => if p (r, x) = true then s ++ [(r, x)] else s) s
theorem rows9 {S : Type} (F : S → Cell → S) (t : S) (a1 a2 a3 b1 b2 b3 : Int) : [a1, a2, a3].foldl (fun s r => [b1, b2, b3].foldl (fun s x => F s (r, x)) s) t = [(a1, b1), (a1, b2), (a1, b3), (a2, b1), (a2, b2), (a2, b3), (a3, b1), (a3, b2), (a3, b3)].foldl F t := rfl
theorem filt9 {sh : Tup Cell × Bool} {c : Cell} {l1 l2 : List Cell} (h1 : ∀ x ∈ l1, x ≠ c) (h2 : ∀ x ∈ l2, x ≠ c) : (l1 ++ c :: l2).filter (fun x => neB x c && Hs sh x) = (l1 ++ l2).filter (Hs sh) := by
  have e : ∀ l : List Cell, (∀ x ∈ l, x ≠ c) → l.filter (fun x => neB x c && Hs sh x) = l.filter (Hs sh) := fun l h => List.filter_congr fun x hx => by
    rw [neB_iff.mpr (h x hx), Bool.true_and]
  have ec : (neB c c && Hs sh c) = false := by
    have : neB c c = false := by
      unfold neB
      simp
    rw [this, Bool.false_and]
  rw [List.filter_append, List.filter_append, List.filter_cons_of_neg (by rw [ec]; decide), e l1 h1, e l2 h2]
theorem around_ok {sh : Tup Cell × Bool} {c : Cell} (hb : Bd c) : m__law_around sh c = .ok (Nr sh c) := by
  have hz := sizeL
  obtain ⟨b1, b2, b3, b4⟩ := hb
  have r1 : rg2 (c.1 - 1) (c.1 + 2) = true := decide_eq_true (by omega)
  have r2 : rg2 (c.2 - 1) (c.2 + 2) = true := decide_eq_true (by omega)
  unfold m__law_around
  rw [chk_t r1, range3, range3]
  refine (fl_nx (forR_invK (K := 3) (I := fun k s => s.length ≤ 3 * k) (g := row (fun x => neB x c && Hs sh x) [c.2 - 1, c.2, c.2 + 1]) (fun k s r hk hs => ?_) [c.1 - 1, c.1, c.1 + 1] 0 [] (Nat.le_refl 3) (Nat.zero_le _)).1).trans ?_
  · rw [chk_t r2]
    have inner := forR_invK (K := 100) (ρ := Empty) (I := fun k s => s.length ≤ k) (f := fun (s3 : (List Cell)) (y4 : Int) => ((R.ok (neB (r, y4) c)).bind fun c5 => R.ite c5 (m__law_has sh (r, y4)) (R.ok false)).bind fun b6 => R.ite b6 (chk (decide ((s3).length < sizeLine)) (R.ok (.nx (s3 ++ [(r, y4)])))) (R.ok (.nx s3))) (g := fun s x => if (neB (r, x) c && Hs sh (r, x)) = true then s ++ [(r, x)] else s)
      (fun k s x hk hs => by
        have e : ((R.ok (neB (r, x) c)).bind fun c5 => R.ite c5 (m__law_has sh (r, x)) (R.ok false)) = R.ok (neB (r, x) c && Hs sh (r, x)) := by
          show R.ite (neB (r, x) c) (R.ok (Hs sh (r, x))) (R.ok false) = _
          cases neB (r, x) c <;> rfl
        show (((R.ok (neB (r, x) c)).bind fun c5 => R.ite c5 (m__law_has sh (r, x)) (R.ok false)).bind _ = _) ∧ _
        rw [e, R.ok_bind]
        by_cases hp : (neB (r, x) c && Hs sh (r, x)) = true
        · rw [if_pos hp, hp, R.ite_true, chk_d (by omega)]
          exact ⟨rfl, by rw [List.length_append, List.length_singleton]; omega⟩
        · rw [if_neg hp, Bool.eq_false_iff.mpr hp, R.ite_false]
          exact ⟨rfl, by omega⟩) [c.2 - 1, c.2, c.2 + 1] (3 * k) s (by show 3 * k + 3 ≤ 100; omega) hs
    exact ⟨fl_nx inner.1, inner.2⟩
  · refine congrArg R.ok ?_
    have e1 : [(c.1 - 1, c.2 - 1), (c.1 - 1, c.2), (c.1 - 1, c.2 + 1), (c.1, c.2 - 1)] = ([(-1, -1), (-1, 0), (-1, 1), (0, -1)] : List Cell).map (nb c) := by simp [nb, Int.sub_eq_add_neg]
    have e2 : [(c.1, c.2 + 1), (c.1 + 1, c.2 - 1), (c.1 + 1, c.2), (c.1 + 1, c.2 + 1)] = ([(0, 1), (1, -1), (1, 0), (1, 1)] : List Cell).map (nb c) := by simp [nb, Int.sub_eq_add_neg]
    refine (rows9 (fun s x => if (neB x c && Hs sh x) = true then s ++ [x] else s) [] _ _ _ _ _ _).trans ?_
    refine (foldl_filter (p := fun x => neB x c && Hs sh x) _ []).trans ?_
    rw [List.nil_append]
    show ([(c.1 - 1, c.2 - 1), (c.1 - 1, c.2), (c.1 - 1, c.2 + 1), (c.1, c.2 - 1)] ++ c :: [(c.1, c.2 + 1), (c.1 + 1, c.2 - 1), (c.1 + 1, c.2), (c.1 + 1, c.2 + 1)]).filter _ = _
    rw [e1, e2, filt9]
    · rfl
    · intro x hx e
      obtain ⟨y, hy, ey⟩ := List.mem_map.mp hx
      have : y = (0, 0) := nb_inj (c := c) (by rw [ey, e]; unfold nb; simp)
      subst this
      revert hy
      decide
    · intro x hx e
      obtain ⟨y, hy, ey⟩ := List.mem_map.mp hx
      have : y = (0, 0) := nb_inj (c := c) (by rw [ey, e]; unfold nb; simp)
      subst this
      revert hy
      decide
/-! ### what the program tells -/
def Wy (sh : Tup Cell × Bool) (c : Cell) : Why := match Nr sh c with
  | [] => .alone
  | x :: rest => match Lk sh c with
    | [] => .inner
    | l :: _ => if (fld ((x :: rest).length + 1) 0 ([x], popC (x :: rest) x)).1.length < (x :: rest).length then .bridge ⟨sortS (fld ((x :: rest).length + 1) 0 ([x], popC (x :: rest) x)).1⟩ else .loose (fld ((x :: rest).length + 1) 0 ([x], popC (x :: rest) x)).1 l
theorem why_ok {sh : Tup Cell × Bool} {c : Cell} (hl : sh.1.items.length ≤ sizeLine) (hH : Hs sh c = true) : m_why_loose sh c = .ok (Wy sh c) := by
  have hz := sizeL
  have em : ∀ x, memb x (notedP sh.1.items) = memb x sh.1.items := fun x => memb_congr notedP_mem
  unfold m_why_loose
  rw [noted_ok hl, R.ok_bind, R.ok_bind, em]
  have e0 : eqB (memb c sh.1.items) sh.2 = false := by
    have : memb c sh.1.items ≠ sh.2 := neB_iff.mp hH
    unfold eqB
    exact decide_eq_false this
  rw [e0, R.ite_false]
  unfold m_why_around
  rw [near_ok c v_AROUND (by rw [hz]; decide), near_ok c v_SIDES (by rw [hz]; decide)]
  simp only [em, R.ok_bind]
  have c1 : comp (fun y1 => R.ok (neB (memb y1 sh.1.items) sh.2)) (fun y1 => R.ok y1) (v_AROUND.items.map (nb c)) = .ok (Nr sh c) := comp_id (Hs sh) (by rw [List.length_map, hz]; decide)
  have c2 : comp (fun y1 => R.ok (eqB (memb y1 sh.1.items) sh.2)) (fun y1 => R.ok y1) (v_SIDES.items.map (nb c)) = .ok (Lk sh c) := by
    rw [comp_id (fun x => eqB (memb x sh.1.items) sh.2) (by rw [List.length_map, hz]; decide)]
    refine congrArg R.ok (List.filter_congr fun x _ => ?_)
    unfold Hs eqB neB
    by_cases q : memb x sh.1.items = sh.2 <;> simp [q]
  rw [c1, c2]
  simp only [R.ok_bind]
  unfold Wy
  have hnd := nr_nodup (sh := sh) (c := c)
  have hlen := nr_len (sh := sh) (c := c)
  cases hN : Nr sh c with
  | nil => rfl
  | cons x rest =>
    rw [hN] at hnd hlen
    have f1 : eqB (x :: rest) ([] : List Cell) = false := by
      unfold eqB
      exact decide_eq_false fun h => nomatch h
    rw [f1, R.ite_false]
    cases hL : Lk sh c with
    | nil => rfl
    | cons l ls =>
      have f2 : eqB (l :: ls) ([] : List Cell) = false := by
        unfold eqB
        exact decide_eq_false fun h => nomatch h
      rw [f2, R.ite_false, noted_ok (by omega), notedP_nodup hnd, R.ok_bind]
      have f3 : idx (x :: rest) 0 = R.ok x := idx_nat (xs := x :: rest) (i := 0) (Nat.zero_lt_succ _)
      have f4 : idx (l :: ls) 0 = R.ok l := idx_nat (xs := l :: ls) (i := 0) (Nat.zero_lt_succ _)
      rw [f3, f4, R.ok_bind, flood_ok (by omega) hnd List.mem_cons_self]
      simp only [nx_ok, R.ok_bind]
      by_cases q : (fld ((x :: rest).length + 1) 0 ([x], popC (x :: rest) x)).1.length < (x :: rest).length
      · rw [if_pos q, decide_eq_true (by omega)]
        rfl
      · rw [if_neg q, decide_eq_false (by omega)]
        rfl
end T72

/-! Law72d: the law finds it right. -/
namespace T72
open PySem PySem.Spec PyProof.Rows L2 G
open PySem.W (Datum Tup T3)
theorem cells_ok (l : List Cell) : m__law_cells l = .ok true := by
  unfold m__law_cells
  exact fl_nx (forR_inv (g := fun s _ => s) (I := fun _ => True) l () (fun s x _ _ => ⟨rfl, trivial⟩) trivial).1
theorem cut_take {l : List Cell} {i : Nat} (h : i ≤ l.length) : cut l none (some (i : Int)) = l.take i := by
  unfold cut
  rw [HT.sIx_none, HT.sIx_nat, List.drop_zero, Nat.sub_zero, Nat.min_eq_left h]
theorem chain_ok {ch N : List Cell} (hN : N.length ≤ 8) (hp : ch.Perm N) (hc : Chn ch) : m__law_chain ch N = .ok true := by
  have hz := sizeL
  have hl : ch.length ≤ 8 := by rw [hp.length_eq]; exact hN
  unfold m__law_chain
  rw [cells_ok, sort_perm hp]
  have e1 : neB (sortS N) (sortS N) = false := by
    unfold neB
    simp
  rw [e1]
  show (R.bind (R.ok false) _ : R Bool) = _
  rw [R.ok_bind, R.ite_false]
  have r1 : rg2 1 (ch.length : Int) = true := decide_eq_true (by omega)
  rw [chk_t r1]
  refine fl_nx (forR_inv (g := fun s _ => s) (I := fun _ => True) _ () (fun s y hy _ => ⟨?_, trivial⟩) trivial).1
  -- a turn
  unfold rangeL at hy
  obtain ⟨j, hj, e⟩ := List.mem_map.mp hy
  have hj' : j < ch.length - 1 := by
    have := List.mem_range.mp hj
    omega
  have ey : y = ((j + 1 : Nat) : Int) := by omega
  subst ey
  have hlt : j + 1 < ch.length := by omega
  rw [idx_nat hlt, R.ok_bind, cut_take (Nat.le_of_lt hlt)]
  rw [comp_id (fun y9 : Cell => eqB (max2 (abs1 (y9.1 - (ch[j + 1]).1)) (abs1 (y9.2 - (ch[j + 1]).2))) 1) (by rw [List.length_take]; omega)]
  obtain ⟨a, ha, ht⟩ := hc (j + 1) hlt (by omega)
  have hne : (ch.take (j + 1)).filter (fun y9 : Cell => eqB (max2 (abs1 (y9.1 - (ch[j + 1]).1)) (abs1 (y9.2 - (ch[j + 1]).2))) 1) ≠ [] := fun e => by
    have : a ∈ (ch.take (j + 1)).filter (fun y9 : Cell => eqB (max2 (abs1 (y9.1 - (ch[j + 1]).1)) (abs1 (y9.2 - (ch[j + 1]).2))) 1) := List.mem_filter.mpr ⟨ha, eqB_iff.mpr ht⟩
    rw [e] at this
    exact nomatch this
  have e2 : ∀ l : List Cell, l ≠ [] → eqB l ([] : List Cell) = false := fun l h => by
    unfold eqB
    exact decide_eq_false h
  rw [R.ok_bind, e2 _ hne]
  rfl
/-- the parts that hang together -/
theorem hang_ok {x : Cell} {rest : List Cell} (nd : (x :: rest).Nodup) (hs : sortS (x :: rest) = x :: rest) (hl : (x :: rest).length ≤ 8) : ∃ more, m__law_fallen (x :: rest) false = .ok (⟨sortS (fld ((x :: rest).length + 1) 0 ([x], popC (x :: rest) x)).1⟩ :: more) ∧
    ((fld ((x :: rest).length + 1) 0 ([x], popC (x :: rest) x)).1.length < (x :: rest).length ↔ more ≠ []) := by
  have hI := fi_start nd (List.mem_cons_self (a := x) (l := rest))
  have es : fld 100 0 ([x], popC (x :: rest) x) = fld ((x :: rest).length + 1) 0 ([x], popC (x :: rest) x) := fld_stable 100 _ 0 hI (by omega) (by omega)
  obtain ⟨q, r, e⟩ := fld_inv ((x :: rest).length + 1) 0 hI
  have hx : x ∈ (fld ((x :: rest).length + 1) 0 ([x], popC (x :: rest) x)).1 := by
    rw [e]
    exact List.mem_append_left _ List.mem_cons_self
  have hg : go1 ([], x :: rest) x = ([⟨sortS (fld ((x :: rest).length + 1) 0 ([x], popC (x :: rest) x)).1⟩], (fld ((x :: rest).length + 1) 0 ([x], popC (x :: rest) x)).2) := by
    unfold go1
    rw [if_pos List.mem_cons_self, es]
    rfl
  obtain ⟨more, h1, h2⟩ := go_more rest [⟨sortS (fld ((x :: rest).length + 1) 0 ([x], popC (x :: rest) x)).1⟩] (fld ((x :: rest).length + 1) 0 ([x], popC (x :: rest) x)).2 q.nd (fun y hy => by
    rcases List.mem_cons.mp (q.perm.mem_iff.mp (List.mem_append_right _ hy)) with e | e
    · subst e
      exact absurd hy (fi_out nd q hx)
    · exact e)
  refine ⟨more, ?_, ?_⟩
  · rw [fallen_ok (by omega), hs, notedP_nodup nd, List.foldl_cons, hg, h1]
    rfl
  · have hq := q.len
    constructor
    · intro h hm
      rw [h2.mpr hm, List.length_nil] at hq
      omega
    · intro h
      refine Classical.byContradiction fun hc => h (h2.mp (List.eq_nil_of_length_eq_zero (by omega)))
theorem lack_ok {sh : Tup Cell × Bool} {c : Cell} : comp (fun (y3 : Cell) => (m__law_has sh y3).bind fun c4 => R.ok (!c4)) (fun (y3 : Cell) => R.ok y3) ([((c.1 - 1), c.2), (c.1, (c.2 - 1)), (c.1, (c.2 + 1)), ((c.1 + 1), c.2)] : List Cell) = .ok (Lk sh c) := by
  have e : ([((c.1 - 1), c.2), (c.1, (c.2 - 1)), (c.1, (c.2 + 1)), ((c.1 + 1), c.2)] : List Cell) = v_SIDES.items.map (nb c) := by simp [nb, Int.sub_eq_add_neg]
  rw [e]
  exact comp_id (fun x => !Hs sh x) (by rw [List.length_map, sizeL]; decide)
theorem right_ok {sh : Tup Cell × Bool} {c : Cell} (hb : Bd c) : m_right (Wy sh c) sh c = .ok true := by
  have hnd := nr_nodup (sh := sh) (c := c)
  have hlen := nr_len (sh := sh) (c := c)
  have hso := nr_sorted (sh := sh) (c := c)
  have ha := around_ok (sh := sh) hb
  have hk := lack_ok (sh := sh) (c := c)
  unfold Wy
  cases hN : Nr sh c with
  | nil =>
    show m__law_right_word ⟨["alone"]⟩ sh c = _
    unfold m__law_right_word
    rw [ha, hN, R.ok_bind, R.ok_bind, hk, R.ok_bind, fallen_ok (by decide)]
    rfl
  | cons x rest =>
    rw [hN] at hnd hlen hso
    obtain ⟨more, h1, h2⟩ := hang_ok hnd hso hlen
    have f1 : eqB (x :: rest) ([] : List Cell) = false := by
      unfold eqB
      exact decide_eq_false fun h => nomatch h
    cases hL : Lk sh c with
    | nil =>
      show m__law_right_word ⟨["inner"]⟩ sh c = _
      unfold m__law_right_word
      rw [ha, hN, R.ok_bind, R.ok_bind, hk, hL, R.ok_bind, h1, R.ok_bind, f1]
      rfl
    | cons l ls =>
      have f2 : eqB (l :: ls) ([] : List Cell) = false := by
        unfold eqB
        exact decide_eq_false fun h => nomatch h
      by_cases q : (fld ((x :: rest).length + 1) 0 ([x], popC (x :: rest) x)).1.length < (x :: rest).length
      · show m_right (if _ then _ else _) sh c = _
        rw [if_pos q]
        show m__law_right_bridge ("bridge", _) sh c = _
        unfold m__law_right_bridge
        rw [ha, hN, R.ok_bind, R.ok_bind, hk, hL, R.ok_bind, h1, R.ok_bind, f1, f2]
        generalize sortS (fld ((x :: rest).length + 1) 0 ([x], popC (x :: rest) x)).1 = so
        have hm : 0 < more.length := List.length_pos_iff.mpr (h2.mp q)
        have e14 : decide (1 < (((⟨so⟩ : Tup Cell) :: more).length : Int)) = true := decide_eq_true (by rw [List.length_cons]; omega)
        have t1 : PyData.isTuple (Datum.toD (("bridge", ⟨so⟩) : Str × Tup Cell)) = true := rfl
        have t2 : PyData.eqv (Datum.toD (("bridge", ⟨so⟩) : Str × Tup Cell)) (Datum.toD (⟨[]⟩ : Tup Int)) = false := rfl
        have t3 : PyData.isStr (Datum.toD ("bridge" : Str)) = true := rfl
        have t4 : eqB (2 : Int) 2 = true := by decide
        have t5 : idx ((⟨so⟩ : Tup Cell) :: more) 0 = R.ok ⟨so⟩ := idx_nat (xs := (⟨so⟩ : Tup Cell) :: more) (i := 0) (Nat.zero_lt_succ _)
        have t6 : eqB (("bridge", ⟨so⟩) : Str × Tup Cell) ("bridge", ⟨so⟩) = true := eqB_iff.mpr rfl
        simp only [t1, t2, t3, t4, t5, t6, e14, R.ok_bind, R.ite_true, R.ite_false, Bool.not_true, cells_ok]
      · show m_right (if _ then _ else _) sh c = _
        rw [if_neg q]
        show m__law_right_loose ⟨"loose", _, l⟩ sh c = _
        unfold m__law_right_loose
        have hmn : more = [] := Classical.byContradiction fun h => q (h2.mpr h)
        rw [ha, hN, R.ok_bind, R.ok_bind, hk, hL, R.ok_bind, h1, R.ok_bind, f1, f2, hmn]
        obtain ⟨qi, _⟩ := fld_inv ((x :: rest).length + 1) 0 (fi_start hnd (List.mem_cons_self (a := x) (l := rest)))
        have hql := qi.len
        have h20 : (fld ((x :: rest).length + 1) 0 ([x], popC (x :: rest) x)).2 = [] := List.eq_nil_of_length_eq_zero (by omega)
        have hperm := qi.perm
        rw [h20, List.append_nil] at hperm
        have hch := chain_ok hlen hperm qi.chn
        generalize fld ((x :: rest).length + 1) 0 ([x], popC (x :: rest) x) = fd at hch ⊢
        have e14 : decide (1 < (([(⟨sortS fd.1⟩ : Tup Cell)]).length : Int)) = false := rfl
        have t1 : PyData.isTuple (Datum.toD (⟨"loose", fd.1, l⟩ : T3 Str (List Cell) Cell)) = true := rfl
        have t2 : PyData.eqv (Datum.toD (⟨"loose", fd.1, l⟩ : T3 Str (List Cell) Cell)) (Datum.toD (⟨[]⟩ : Tup Int)) = false := rfl
        have t3 : PyData.isStr (Datum.toD ("loose" : Str)) = true := rfl
        have t4 : neB (3 : Int) 3 = false := by decide
        have t5 : neB ("loose" : Str) "loose" = false := by decide
        have t6 : idx (l :: ls) 0 = R.ok l := idx_nat (xs := l :: ls) (i := 0) (Nat.zero_lt_succ _)
        have t7 : eqB l l = true := eqB_iff.mpr rfl
        simp only [t1, t2, t3, t4, t5, t6, t7, e14, hch, R.ok_bind, R.ite_true, R.ite_false, Bool.not_true, cells_ok]
end T72

/-! Law72e: the boards; the law. -/
namespace T72
open PySem PySem.Spec PyProof.Rows L2 G
open PySem.W (Datum Tup T3)
theorem kept_ok (r c : Int) : ∃ k, m__law_kept r c = .ok k ∧ Bd k := by
  refine ⟨_, rfl, ?_⟩
  unfold Bd max2 min2
  simp only
  refine ⟨?_, ?_, ?_, ?_⟩ <;> split <;> split <;> omega
/-- a dict that grows by at most one cell a turn -/
theorem putk {s : List Cell} {c : Cell} {k : Nat} (h : s.length ≤ k) : (putC s c).length ≤ k + 1 := Nat.le_trans putC_len (by omega)
theorem deal_ok (c : Int) : ∃ n, m__law_deal c 1 = .ok n := by
  unfold m__law_deal
  rw [R.ok_bind]
  cases decide (1000000000000000000 ≤ c) with
  | true => exact ⟨_, rfl⟩
  | false =>
    rw [R.ite_false, R.ok_bind, R.ok_bind, chk_t (by decide)]
    have h := forR_inv (S := Int × Int) (ρ := Empty) (I := fun s => True) (g := fun (s4 : Int × Int) (y5 : Int) => (s4.1 * 998244353 + (((s4.2 + 15 * y5 * y5 + 31 * 1 + 11) * 48271 % 2147483647) * ((s4.2 + 15 * y5 * y5 + 31 * 1 + 11) * 48271 % 2147483647) % 2147483629 * 69621 % 2147483587) / 7, ((s4.2 + 15 * y5 * y5 + 31 * 1 + 11) * 48271 % 2147483647) * ((s4.2 + 15 * y5 * y5 + 31 * 1 + 11) * 48271 % 2147483647) % 2147483629))
      (f := fun (s4 : Int × Int) (y5 : Int) => ((((((chk (decide (CMul (15 * y5) y5)) (R.ok ((15 * y5) * y5))).bind fun x6 => R.ok (s4.2 + x6)).bind fun x7 => R.ok (x7 + (31 * 1))).bind fun x8 => R.ok (x8 + 11)).bind fun x9 => R.ok (x9 * 48271)).bind fun x10 => R.ok (x10 % 2147483647) : R Int).bind fun one_11 => ((chk (decide (CMul one_11 one_11)) (R.ok (one_11 * one_11))).bind fun x12 => R.ok (x12 % 2147483629) : R Int).bind fun one_13 => (R.ok ((s4.1 * 998244353) + (((one_13 * 69621) % 2147483587) / 7)) : R Int).bind fun number_14 => R.ok (.nx (number_14, one_13))) (rangeL 0 24) (0, c % 2147483629) (fun s y hy _ => ⟨by
        have hy2 : 0 ≤ y ∧ y < 24 := by
          unfold rangeL at hy
          obtain ⟨j, hj, e⟩ := List.mem_map.mp hy
          have := List.mem_range.mp hj
          omega
        have c1 : CMul (15 * y) y := .inr (by omega)
        rw [chk_d c1]
        simp only [R.ok_bind]
        have hb : ∀ z : Int, CMul (z % 2147483647) (z % 2147483647) := fun z => .inr (by omega)
        rw [chk_d (hb _)]
        rfl, trivial⟩) trivial
    exact ⟨_, fl_nx h.1⟩
theorem base_ok (n : Int) : ∃ b, m__law_base n = .ok b := by
  unfold m__law_base
  simp only [R.ok_bind]
  have hm : 0 ≤ n % 5 ∧ n % 5 < 5 := by omega
  by_cases h : 1 < n % 5
  · rw [decide_eq_true h]
    exact ⟨_, rfl⟩
  · rw [decide_eq_false h, R.ite_false]
    have h01 : n % 5 = 0 ∨ n % 5 = 1 := by omega
    have key : ∀ w : Int, (w = 0 ∨ w = 1) → ∃ X Y : Int, idx ([((2 * 1000000000000) + 1), 2] : List Int) w = .ok X ∧ idx ([1, (2 * 1000000000000)] : List Int) w = .ok Y ∧ (∀ z, CDivW z X) ∧ (∀ z : Int, CMul (z % X) Y) := by
      rintro w (rfl | rfl)
      · exact ⟨2 * 1000000000000 + 1, 1, rfl, rfl, fun z => ⟨by decide, by decide +kernel⟩, fun z => .inr (by omega)⟩
      · exact ⟨2, 2 * 1000000000000, rfl, rfl, fun z => ⟨by decide, by decide +kernel⟩, fun z => .inr (by omega)⟩
    obtain ⟨X, Y, e1, e2, e3, e4⟩ := key _ h01
    simp only [e1, e2, R.ok_bind, chk_d (e3 _), chk_d (e4 _)]
    exact ⟨_, rfl⟩
end T72

/-! Law72f: the boards; the law, whole. -/
namespace T72
open PySem PySem.Spec PyProof.Rows L2 G
open PySem.W (Datum Tup T3)
abbrev Ok1 {α : Type} (r : R α) (P : α → Prop) : Prop := r.sat P fun _ => False
section
variable {α β S ρ : Type} {P : β → Prop}
theorem s_ok {x : β} (h : P x) : Ok1 (.ok x) P := h
theorem s_eq {r : R β} {x : β} (e : r = .ok x) (h : P x) : Ok1 r P := by
  rw [e]
  exact h
theorem s_bind {r : R α} {k : α → R β} {Q : α → Prop} (h : Ok1 r Q) (hk : ∀ a, Q a → Ok1 (k a) P) : Ok1 (r.bind k) P := R.bind_sat.mpr (h.imp (fun x _ hx => hk x hx) fun _ h => h)
theorem s_ite {c : Bool} {a b : R β} (h1 : c = true → Ok1 a P) (h2 : c = false → Ok1 b P) : Ok1 (R.ite c a b) P := by
  cases c with
  | true => exact h1 rfl
  | false => exact h2 rfl
theorem s_chk {c : Bool} {r : R β} (hc : c = true) (h : Ok1 r P) : Ok1 (chk c r) P := by
  rw [chk_t hc]
  exact h
theorem s_imp {r : R β} {Q : β → Prop} (h : Ok1 r Q) (f : ∀ x, Q x → P x) : Ok1 r P := h.imp (fun x _ hx => f x hx) fun _ h => h
theorem s_for {K : Nat} {I : Nat → S → Prop} {f : S → α → R (Fl S ρ)} : ∀ (xs : List α) (k0 : Nat) (s0 : S), k0 + xs.length ≤ K → I k0 s0 → (∀ k s x, x ∈ xs → k < K → I k s → Ok1 (f s x) fun fl => ∃ t, fl = .nx t ∧ I (k + 1) t) → Ok1 (forR f xs s0) fun fl => ∃ t, fl = .nx t ∧ I (k0 + xs.length) t
  | [], k0, s0, _, h0, _ => ⟨s0, rfl, h0⟩
  | x :: xs, k0, s0, hK, h0, h => by
    rw [List.length_cons] at hK ⊢
    refine s_bind (h k0 s0 x List.mem_cons_self (by omega) h0) (fun fl ⟨t, e, ht⟩ => ?_)
    subst e
    refine s_imp (s_for xs (k0 + 1) t (by omega) ht fun k s y hy => h k s y (List.mem_cons_of_mem _ hy)) fun fl ⟨t, e, ht⟩ => ⟨t, e, ?_⟩
    rw [show k0 + (xs.length + 1) = k0 + 1 + xs.length by omega]
    exact ht
theorem s_loop {K : Nat} {I : Nat → S → Prop} {f : S → α → R (Fl S ρ)} {xs : List α} {s0 : S} {k : S → R β} {q : ρ → R β} (k0 : Nat) (hK : k0 + xs.length ≤ K) (h0 : I k0 s0) (h : ∀ k s x, x ∈ xs → k < K → I k s → Ok1 (f s x) fun fl => ∃ t, fl = .nx t ∧ I (k + 1) t)
    (hf : ∀ s, I (k0 + xs.length) s → Ok1 (k s) P) : Ok1 (R.fl (forR f xs s0) k q) P :=
  s_bind (s_for xs k0 s0 hK h0 h) fun fl ⟨t, e, ht⟩ => by
    subst e
    exact hf t ht
end
theorem range_mem {a b x : Int} (h : x ∈ rangeL a b) : a ≤ x ∧ x < b := by
  unfold rangeL at h
  obtain ⟨j, hj, e⟩ := List.mem_map.mp h
  have := List.mem_range.mp hj
  omega
theorem rg1_t {j : Int} (h1 : -1000 ≤ j) (h2 : j ≤ 1000) : rg1 j = true := decide_eq_true (by omega)
/-- a dict of at most n cells -/
def Few (n : Nat) (l : List Cell) : Prop := l.Nodup ∧ l.length ≤ n
theorem few_put {n m : Nat} {l : List Cell} {c : Cell} (h : Few n l) (hm : n + 1 ≤ m) : Few m (putC l c) := ⟨putC_nodup h.1, by have := putC_len (ks := l) (c := c); have := h.2; omega⟩
theorem few_le {n m : Nat} {l : List Cell} (h : Few n l) (hm : n ≤ m) : Few m l := ⟨h.1, Nat.le_trans h.2 hm⟩
theorem few_lt {n : Nat} {l : List Cell} (h : Few n l) (hn : n ≤ 1000) : l.length < sizeLine := by
  have := h.2
  have := sizeL
  omega
theorem s_kept {β : Type} {P : β → Prop} {r c : Int} {k : Cell → R β} (h : ∀ x, Bd x → Ok1 (k x) P) : Ok1 ((m__law_kept r c).bind k) P := by
  obtain ⟨x, e, hx⟩ := kept_ok r c
  rw [e]
  exact h x hx
theorem log_small {n : Nat} (h : n ≤ 1000) (h0 : 0 < n) : CDivW 0 (n : Int) := ⟨by omega, by
  show (n : Int).natAbs.log2 < 9000
  rw [Int.natAbs_natCast]
  have : n.log2 < 10 := (Nat.log2_lt (by omega)).mpr (by omega)
  omega⟩
theorem board_ok (n : Int) : Ok1 (m__law_board n) fun p => p.1.items.length ≤ 200 := by
  have hz := sizeL
  unfold m__law_board
  simp only [R.ok_bind]
  obtain ⟨b, eb⟩ := base_ok (n / 5)
  rw [eb, R.ok_bind]
  have m6 : 0 ≤ b.2 % 6 ∧ b.2 % 6 < 6 := by omega
  have m3 : 0 ≤ b.2 % 6 % 3 ∧ b.2 % 6 % 3 < 3 := by omega
  refine s_bind (Q := fun s => Few 6 s.2) (s_ite (fun _ => ?_) (fun _ => s_ok ⟨List.nodup_nil, Nat.zero_le _⟩)) (fun s5 h5 => ?_)
  · refine s_chk (rg1_t (by omega) (by omega)) (s_loop (K := 6) (I := fun k s => Few k s.2) 0 (by rw [rangeL_length]; omega) ⟨List.nodup_nil, Nat.le_refl _⟩ (fun k s x hx hk hs => ?_) (fun s hs => s_ok (few_le hs (by rw [rangeL_length]; omega))))
    refine s_kept (fun c _ => s_chk (decide_eq_true (few_lt hs (by omega))) (s_ok ⟨_, rfl, few_put hs (Nat.le_refl _)⟩))
  refine s_bind (Q := fun s => Few 81 s.2) (s_ite (fun _ => ?_) (fun _ => s_ok (few_le h5 (by decide)))) (fun s12 h12 => ?_)
  · refine s_chk (rg1_t (by omega) (by omega)) (s_loop (K := 3) (I := fun k s => Few (6 + 25 * k) s.2) 0 (by rw [rangeL_length]; omega) h5 (fun k s x hx hk hs => ?_) (fun s hs => s_ok (few_le hs (by rw [rangeL_length]; omega))))
    have q1 : 0 ≤ s.1 / 4 % 5 ∧ s.1 / 4 % 5 < 5 := by omega
    have q2 : 0 ≤ s.1 / 4 / 5 % 5 ∧ s.1 / 4 / 5 % 5 < 5 := by omega
    refine s_chk (rg1_t (by omega) (by omega)) (s_loop (K := 5) (I := fun j t => Few (6 + 25 * k + 5 * j) t) 0 (by rw [rangeL_length]; omega) hs (fun j t y hy hj ht => ?_) (fun t ht => s_ok ⟨_, rfl, few_le ht (by rw [rangeL_length]; omega)⟩))
    refine s_chk (rg1_t (by omega) (by omega)) (s_loop (K := 5) (I := fun i u => Few (6 + 25 * k + 5 * j + i) u) 0 (by rw [rangeL_length]; omega) ht (fun i u v hv hi hu => ?_) (fun u hu => s_ok ⟨_, rfl, few_le hu (by rw [rangeL_length]; omega)⟩))
    refine s_bind (Q := fun _ => True) (s_ite (fun _ => s_ok trivial) (fun _ => s_ok trivial)) (fun b23 _ => s_ite (fun _ => ?_) (fun _ => s_ok ⟨_, rfl, few_le hu (by omega)⟩))
    exact s_kept (fun c _ => s_chk (decide_eq_true (few_lt hu (by omega))) (s_ok ⟨_, rfl, few_put hu (by omega)⟩))
  refine s_bind (Q := fun s => Few 117 s.2) (s_ite (fun _ => ?_) (fun _ => s_ok (few_le h12 (by decide)))) (fun s29 h29 => ?_)
  · refine s_chk (rg1_t (by omega) (by omega)) (s_loop (K := 6) (I := fun k s => Few (81 + 6 * k) s.2) 0 (by rw [rangeL_length]; omega) h12 (fun k s x hx hk hs => ?_) (fun s hs => s_ok (few_le hs (by rw [rangeL_length]; omega))))
    refine s_chk (by decide) (s_loop (K := 6) (I := fun i u => Few (81 + 6 * k + i) u) 0 (by decide) hs (fun i u v hv hi hu => ?_) (fun u hu => s_ok ⟨_, rfl, few_le hu (by rw [rangeL_length]; omega)⟩))
    have hv0 := (range_mem hv).1
    refine s_bind (Q := fun _ => True) (s_bind (Q := fun _ => True) (s_bind (Q := fun _ => True) (s_chk (decide_eq_true hv0) (s_ok trivial)) (fun _ _ => s_ok trivial)) (fun _ _ => s_ok trivial)) (fun b37 _ => s_ite (fun _ => ?_) (fun _ => s_ok ⟨_, rfl, few_le hu (by omega)⟩))
    exact s_kept (fun c _ => s_chk (decide_eq_true (few_lt hu (by omega))) (s_ok ⟨_, rfl, few_put hu (by omega)⟩))
  have hl := h29.2
  have hg : 0 ≤ s29.1 % 3 ∧ s29.1 % 3 < 3 := by omega
  have hmin : 0 ≤ min2 (s29.1 % 3) (s29.2.length : Int) ∧ min2 (s29.1 % 3) (s29.2.length : Int) ≤ s29.2.length ∧ min2 (s29.1 % 3) (s29.2.length : Int) ≤ 3 := by
    unfold min2
    split <;> omega
  refine s_chk (rg1_t (by omega) (by omega)) (s_loop (K := s29.2.length) (I := fun k s => s.2.Nodup ∧ s.2.length + k = s29.2.length) 0 (by rw [rangeL_length]; omega) ⟨h29.1, rfl⟩ (fun k s x hx hk ⟨nd, hs⟩ => ?_) (fun s hs => s_ok ?_))
  · have hpos : 0 < s.2.length := by omega
    have hd := log_small (n := s.2.length) (by omega) hpos
    refine s_bind (Q := fun p => p = (s.1 / (s.2.length : Int), s.1 % (s.2.length : Int))) (s_chk (decide_eq_true ⟨hd.1, hd.2⟩) (s_ok rfl)) (fun p hp => ?_)
    subst hp
    have h0 : 0 ≤ s.1 % (s.2.length : Int) := Int.emod_nonneg _ (by omega)
    have h1 : s.1 % (s.2.length : Int) < s.2.length := Int.emod_lt_of_pos _ (by omega)
    have hi : (s.1 % (s.2.length : Int)).toNat < (sortS s.2).length := by rw [sort_len]; omega
    have e : idx (sortS s.2) (s.1 % (s.2.length : Int)) = R.ok (sortS s.2)[(s.1 % (s.2.length : Int)).toNat] := by
      have := idx_nat hi
      rw [Int.toNat_of_nonneg h0] at this
      exact this
    show Ok1 ((idx (sortS s.2) (s.1 % (s.2.length : Int))).bind _) _
    rw [e, R.ok_bind]
    have hm : (sortS s.2)[(s.1 % (s.2.length : Int)).toNat] ∈ s.2 := sort_mem.mp (List.getElem_mem hi)
    refine s_chk (decide_eq_true hm) (s_ok ⟨_, rfl, ?_, ?_⟩)
    · unfold popC
      exact nd.filter _
    · have := (pop_perm nd hm).length_eq
      rw [List.length_cons] at this
      show (popC s.2 _).length + (k + 1) = _
      omega
  · show (sortS s.2).length ≤ 200
    rw [sort_len]
    omega
theorem law_ok (ns : List Int) (hn : ns.length ≤ 63) : Ok1 (m_law ns) fun b => b = true := by
  have hz := sizeL
  unfold m_law
  refine s_bind (Q := fun _ => True) (s_bind (Q := fun l => l.length = 1) (s_bind (Q := fun _ => True) ?_ (fun _ _ => s_ok rfl)) (fun l hl => s_chk (decide_eq_true ?_) (s_ok trivial))) (fun l _ => ?_)
  · unfold m__law_cell
    rw [R.ok_bind]
    refine s_ite (fun h => ?_) (fun _ => s_ok trivial)
    have h' : 0 < ns.length := by
      have := of_decide_eq_true h
      omega
    exact s_eq (idx_nat (i := 0) h') trivial
  · have : (cut ns (some 1) (some 11)).length ≤ ns.length := by
      unfold cut
      rw [List.length_take, List.length_drop]
      omega
    omega
  refine s_loop (K := l.length) (I := fun _ _ => True) 0 (by omega) trivial (fun k s y hy hk _ => ?_) (fun _ _ => s_ok rfl)
  refine s_bind (Q := fun p => p.1.items.length ≤ 200) ?_ (fun p4 h4 => ?_)
  · obtain ⟨d, e⟩ := deal_ok y
    rw [e]
    exact board_ok d
  refine s_bind (Q := fun c => c.items.length ≤ 200) ?_ (fun cs hcs => ?_)
  · rw [R.ok_bind]
    exact s_ite (fun _ => s_ok (Nat.zero_le _)) (fun _ => s_ok h4)
  rw [R.ok_bind]
  refine s_bind (Q := fun _ => True) (s_chk (decide_eq_true (by show cs.items.length + 1 ≤ sizeLine; omega)) (s_ok trivial)) (fun x18 _ => ?_)
  refine s_loop (K := x18.items.length) (I := fun _ _ => True) 0 (by omega) trivial (fun k2 s2 spot _ _ _ => ?_) (fun _ _ => s_ok ⟨_, rfl, trivial⟩)
  refine s_loop (K := 3) (I := fun _ _ => True) 0 (Nat.le_refl 3) trivial (fun k3 s3 th _ _ _ => ?_) (fun _ _ => s_ok ⟨_, rfl, trivial⟩)
  refine s_kept (fun t ht => ?_)
  show Ok1 (R.ite (Hs (cs, eqB (p4.2 % 3) 1) t) _ _) _
  refine s_ite (fun hH => ?_) (fun _ => s_ok ⟨_, rfl, trivial⟩)
  have hw := why_ok (sh := (cs, eqB (p4.2 % 3) 1)) (c := t) (by show cs.items.length ≤ sizeLine; omega) hH
  have hr := right_ok (sh := (cs, eqB (p4.2 % 3) 1)) (c := t) ht
  rw [hw, R.ok_bind, hr, R.ok_bind]
  simp only [nx_ok, R.ok_bind, hr, Bool.not_true, R.ite_false]
  exact s_ok ⟨_, rfl, trivial⟩
end T72

/-! the head of law_k72_why_a_cell_is_loose -/
namespace T72
open PySem PySem.Spec PyProof.Rows L2 G
def loose : List Str := ["MossError", "NoCell", "SIDES", "AROUND", "flooded", "noted", "near_cells", "why_around", "why_loose", "_law_cell", "_law_deal", "_law_kept", "_law_base", "_law_board", "_law_fallen", "_law_has", "_law_around", "_law_cells", "_law_chain", "_law_right"]
abbrev RwO : PySem.W.OpenRow := PySem.W.OpenLaw.row PySem.Challenge.rw_edgemoss_k72_why_a_cell_is_loose
abbrev hk : PySem.W.Hook := He.hookX 5 fa fn [] [] (consB cs)
def ob (s : PySem.W.SharedT) : He.AlX := He.obsX 5 fa fn [] [] (consB cs) (HandSHeadRun.getT s)
theorem ob_eq (s : PySem.W.SharedT) : ob s = hk.obs s.abs := He.obsX_eq (HandSHeadRun.getT_eq s)
theorem run (w : World) : HandSHeadRun.RunEq RwO (PySem.W.view RwO.prog [24]) hk ob 1500 loose w := by
  intro os
  kernel_rfl
end T72

namespace T72
open PySem PySem.Spec PyProof.Rows L2 G
theorem fin {P : Program} {w : World} {K : PySem.W.Frag} {h : Heap} {mg : Str → Option Value} {f : Addr} (X : K.In h) (N : h.Ns mainGlobals mg) (hfa : mg ("law" : Str) = some (.ref f)) (c : He.SaysX fa fn [] [] (consB cs) w h K) :
    ∃ fd : FuncData, (∀ (s : Shared) (v : Value), BindsTo s fd ⟨[v], []⟩ [("script", v)]) ∧ ∀ base : Heap, K.In base → base.Ns mainGlobals mg → FnOk P w K mg base CX0 6 f fd ["script"] fun vs H Q _ => spF K fs_law vs H Q fun _ _ _ => False := by
  have TX : Tx K mg := ⟨c.t.d, c.more, h, X, N⟩
  have e := hfa.symm.trans (g_law TX)
  cases e
  obtain ⟨fd, F⟩ := fd_law TX
  have b := FunD.bindsA (ps := ["script"]) F fun _ _ _ _ _ _ us hl => match us, hl with | [_], _ => rfl
  refine ⟨fd, fun s v => b s [v] rfl, fun base _ _ => ?_⟩
  obtain ⟨fd2, F2, o⟩ := all_ok (P := P) (w := w) (base := base) TX
  have e2 : fd2 = fd := by
    obtain ⟨_, _, _, _, _, _, _, _, _, _, _, l1, _⟩ := F.ex
    obtain ⟨_, _, _, _, _, _, _, _, _, _, _, l2, _⟩ := F2.ex
    rw [l1] at l2
    cases l2
    rfl
  subst e2
  exact fn_cx0 o
end T72
open PySem PySem.W PySem.Calls PyProof.Rows
theorem PySem.Challenge.cw_edgemoss_k72_why_a_cell_is_loose_holds : PySem.Challenge.rw_edgemoss_k72_why_a_cell_is_loose.Holds := by
  w_on; o_law
  refine HandSHeadRun.head_any (r := OpenLaw.row PySem.Challenge.rw_edgemoss_k72_why_a_cell_is_loose) (q := view (OpenLaw.row PySem.Challenge.rw_edgemoss_k72_why_a_cell_is_loose).prog [24]) (H := T72.hk) (ob := T72.ob) (M := 1500) (loose := T72.loose) (d := HandSHeadRun.topDef (OpenLaw.row PySem.Challenge.rw_edgemoss_k72_why_a_cell_is_loose).prog 24) (kwd := []) T72.ob_eq
    (by kernel_rfl) (fun s => by kernel_rfl) T72.run (by kernel_rfl) (by kernel_rfl) (by kernel_rfl) (by rfl) (by first | assumption | decide +kernel) (by decide +kernel) ⟨rfl, rfl, rfl, rfl, rfl, by decide +kernel⟩ ?hw ?hc
  case hw => w_witness2
  case hc =>
    refine L2.walk_ofE (l := PySem.Challenge.rw_edgemoss_k72_why_a_cell_is_loose) (n := 63) (k := 6) (x := "script") (CX := L2.CX0) rfl (by decide) (by kernel_rfl) ⟨rfl, by decide, by decide⟩ ?F (fun _ _ _ _ z => z)
    intro w mg fa h Y Gn hmg0
    obtain ⟨K, KX, c⟩ := Y
    have hmg : mg ("law" : PySem.Str) = some (.ref fa) := by
      have e : (HandSHeadRun.topDef (OpenLaw.row PySem.Challenge.rw_edgemoss_k72_why_a_cell_is_loose).prog 24).name = ("law" : PySem.Str) := by kernel_rfl
      rw [← e]
      exact hmg0
    obtain ⟨fd, hb, hF⟩ := T72.fin (P := (PySem.Challenge.rw_edgemoss_k72_why_a_cell_is_loose).prog) (w := w) KX Gn hmg c
    refine ⟨K, fd, fun vs H Q _ => G.spF K T72.fs_law vs H Q fun _ _ _ => False, KX, hb, fun H a ns hl _ hS => G.law_sp (fs := T72.fs_law) hS ⟨ns, rfl, rfl, (T72.law_ok ns hl).imp (fun b _ hb => ?_) fun _ h => h⟩, hF⟩
    rw [hb]
