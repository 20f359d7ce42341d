import PyProof.Rows.All
import Wide.All
import OpenK.AllK
import Wide.FinOn
import HandS.ForMost
import HandS.ForExc
import HandS.EndBits
import HandS.RevRange
import HandS.TupAny
import HandS.IsInst
import HandS.Style
import HandS.RaiseMore
import HandS.Dict
import HandS.Text
import HandS.Flt
import HandS.Comp
import HandS.ExcOwn
import HandS.WordsExc
import HandS.DictComp
import KE.KRevSl
import KE.SortData
import PySem.Challenge.RW_remoteviews_k12_few_moves
set_option Elab.async false
set_option linter.all false
set_option maxRecDepth 100000
set_option maxHeartbeats 2000000
/-! XsA: data, stores, results, and how they stand to the abstract heap. -/
namespace Xs
noncomputable section
open PySem PySem.Spec PyProof.Rows L2

/-- data: what is never changed -/
inductive D where
  | non | bl (b : Bool) | int (i : Int) | str (s : Str)
  | tup (xs : List D) | lst (xs : List D)
  deriving Inhabited
/-- a value: data, a place of the store, a dict that stays, a def, the exception that a suite holds -/
inductive W where
  | d (x : D) | l (n : Nat) | s (xs : List D) | f (kvs : List (Key × D)) | fn (s : Str) | x (c : Str) (fs : List (Str × D)) | t (z : Str) | ty (n : String)
  deriving Inhabited
/-- what stands at a place of the store -/
inductive O where
  | lst (xs : List W) | dct (kvs : List (Key × W)) | ins (c : Str) (fs : List (Str × W))
  deriving Inhabited
/-- a store; c: no place was stored anywhere since the def's entry -/
structure Sto where
  o : List O
  c : Bool
structure Ex where
  c : Str
  fs : List (Str × D)
abbrev Env := List (Option W)
inductive Re (α : Type) where
  | ok (a : α) (h : Sto) | exc (e : Ex) (h : Sto) | stuck
inductive Fl where
  | nx (r : Env) (h : Sto) | rt (w : W) (h : Sto) | bk (r : Env) (h : Sto) | ct (r : Env) (h : Sto) | exc (e : Ex) (r : Env) (h : Sto) | stuck
def W.lt (f : Nat) : W → Prop
  | .l k => k < f
  | _ => True
def O.lt (f : Nat) : O → Prop
  | .lst xs => ∀ x ∈ xs, x.lt f
  | .dct kvs => ∀ p ∈ kvs, p.2.lt f
  | .ins _ fs => ∀ p ∈ fs, p.2.lt f

/-- what the relation leans on: the written part, the classes, the defs as values, the exception that a suite holds -/
structure G where
  K : PySem.W.Frag
  cm : Str → Option Addr
  fm : Str → Option Addr
  xa : Option (Addr × Value × Option Addr)
/-- B: what may change; m: where the places of the store are -/
structure Mu where
  B : Addr → Prop
  m : List Addr

/-- a list that stays -/
def FzL (H : Hp) (B : Addr → Prop) (a : Addr) (xs : List V) : Prop := H a = some (.lst xs) ∧ ¬ B a
/-- a list that is only read: known to the object, or written -/
def FzS (K : PySem.W.Frag) (H : Hp) (a : Addr) (xs : List V) : Prop := (∃ o, H a = some (.frz o (.lst xs))) ∨ SqL K (fun _ => none) a xs
def FzD (H : Hp) (B : Addr → Prop) (a : Addr) (kvs : List (Key × V)) : Prop := H a = some (.dK kvs) ∧ ¬ B a
mutual
inductive RD (g : G) (H : Hp) (B : Addr → Prop) : V → D → Prop
  | non : RD g H B .non .non
  | bl (b : Bool) : RD g H B (.bl b) (.bl b)
  | int (i : Int) : RD g H B (.int i) (.int i)
  | str (s : Str) : PyData.strOk s = true → RD g H B (.str s) (.str s)
  | tup {a : Addr} {xs : List V} {ds : List D} : SqT g.K H a xs → RDs g H B xs ds → RD g H B (.ref a) (.tup ds)
  | lst {a : Addr} {xs : List V} {ds : List D} : FzL H B a xs → RDs g H B xs ds → RD g H B (.ref a) (.lst ds)
inductive RDs (g : G) (H : Hp) (B : Addr → Prop) : List V → List D → Prop
  | nil : RDs g H B [] []
  | cons {v : V} {vs : List V} {d : D} {ds : List D} : RD g H B v d → RDs g H B vs ds → RDs g H B (v :: vs) (d :: ds)
end
/-- pairs of one key each -/
inductive RDk {κ : Type} (g : G) (H : Hp) (B : Addr → Prop) : List (κ × V) → List (κ × D) → Prop
  | nil : RDk g H B [] []
  | cons {k : κ} {v : V} {vs : List (κ × V)} {d : D} {ds : List (κ × D)} : RD g H B v d → RDk g H B vs ds → RDk g H B ((k, v) :: vs) ((k, d) :: ds)

/-- from one moment to a later one -/
structure Ext (H : Hp) (M : Mu) (H' : Hp) (M' : Mu) : Prop where
  pre : ∀ (n : Nat) a, M.m[n]? = some a → M'.m[n]? = some a
  old : ∀ a o, H a = some o → a ∉ M.m → H' a = some o ∧ a ∉ M'.m
  bb : ∀ a o, H a = some o → (M.B a ↔ M'.B a)
  tup : ∀ a xs, H a = some (.tup xs) → H' a = some (.tup xs)
  frz : ∀ a o u, H a = some (.frz o u) → H' a = some (.frz o u)
  dom : ∀ a o, H a = some o → ∃ o', H' a = some o'
theorem Ext.refl (H : Hp) (M : Mu) : Ext H M H M := ⟨fun _ _ e => e, fun _ _ e n => ⟨e, n⟩, fun _ _ _ => Iff.rfl, fun _ _ e => e, fun _ _ _ e => e, fun _ o e => ⟨o, e⟩⟩
theorem Ext.trans {H H1 H2 : Hp} {M M1 M2 : Mu} (x : Ext H M H1 M1) (y : Ext H1 M1 H2 M2) : Ext H M H2 M2 :=
  ⟨fun n a e => y.pre n a (x.pre n a e), fun a o e n => let ⟨e1, n1⟩ := x.old a o e n; y.old a o e1 n1,
    fun a o e => let ⟨o1, e1⟩ := x.dom a o e; (x.bb a o e).trans (y.bb a o1 e1), fun a xs e => y.tup a xs (x.tup a xs e), fun a o u e => y.frz a o u (x.frz a o u e),
    fun a o e => let ⟨o1, e1⟩ := x.dom a o e; y.dom a o1 e1⟩

section mono
variable {g : G} {H H' : Hp} {M M' : Mu}
/-- B has what m has -/
def Sub (M : Mu) : Prop := ∀ a ∈ M.m, M.B a
/-- .. for data alone -/
structure Exd (H : Hp) (B : Addr → Prop) (H' : Hp) (B' : Addr → Prop) : Prop where
  old : ∀ a o, H a = some o → ¬ B a → H' a = some o ∧ ¬ B' a
  tup : ∀ a xs, H a = some (.tup xs) → H' a = some (.tup xs)
  frz : ∀ a o u, H a = some (.frz o u) → H' a = some (.frz o u)
/-- .. weaker: what may change may have changed -/
structure Exw (H : Hp) (M : Mu) (H' : Hp) (M' : Mu) : Prop where
  pre : ∀ (n : Nat) a, M.m[n]? = some a → M'.m[n]? = some a
  old : ∀ a o, H a = some o → ¬ M.B a → H' a = some o ∧ ¬ M'.B a
  tup : ∀ a xs, H a = some (.tup xs) → H' a = some (.tup xs)
  frz : ∀ a o u, H a = some (.frz o u) → H' a = some (.frz o u)
theorem Exw.d (x : Exw H M H' M') : Exd H M.B H' M'.B := ⟨x.old, x.tup, x.frz⟩
theorem Ext.w (x : Ext H M H' M') (sb : Sub M) : Exw H M H' M' := ⟨x.pre, fun a o e n => ⟨(x.old a o e fun q => n (sb a q)).1, fun q => n ((x.bb a o e).mpr q)⟩, x.tup, x.frz⟩
variable {B B' : Addr → Prop}
theorem FzL.mw {a : Addr} {xs : List V} (x : Exd H B H' B') (h : FzL H B a xs) : FzL H' B' a xs := x.old a _ h.1 h.2
theorem FzS.mw {K : PySem.W.Frag} {a : Addr} {xs : List V} (x : Exd H B H' B') (h : FzS K H a xs) : FzS K H' a xs := by
  rcases h with ⟨o, e⟩ | h
  · exact .inl ⟨o, x.frz a o _ e⟩
  · exact .inr h
theorem FzL.sq {K : PySem.W.Frag} {B : Addr → Prop} {a : Addr} {xs : List V} (h : FzL H B a xs) : SqL K H a xs := .inl (.inl h.1)
theorem FzS.sq {K : PySem.W.Frag} {a : Addr} {xs : List V} (h : FzS K H a xs) : SqL K H a xs := by
  rcases h with ⟨o, e⟩ | h
  · exact .inl (.inr ⟨o, e⟩)
  · rcases h with (h | ⟨_, h⟩) | h
    · exact nomatch h
    · exact nomatch h
    · exact .inr h
theorem FzD.mw {a : Addr} {xs : List (Key × V)} (x : Exd H B H' B') (h : FzD H B a xs) : FzD H' B' a xs := x.old a _ h.1 h.2
theorem FzD.rd {B : Addr → Prop} {a : Addr} {xs : List (Key × V)} (h : FzD H B a xs) : Rd H a (.dK xs) := .inl h.1
theorem sqT_mw {K : PySem.W.Frag} {a : Addr} {xs : List V} (x : Exd H B H' B') (h : SqT K H a xs) : SqT K H' a xs := by
  rcases h with (h | ⟨o, h⟩) | h
  · exact .inl (.inl (x.tup _ _ h))
  · exact .inl (.inr ⟨o, x.frz _ _ _ h⟩)
  · exact .inr h
mutual
theorem RD.mw {v : V} {d : D} (x : Exd H B H' B') : RD g H B v d → RD g H' B' v d
  | .non => .non
  | .bl b => .bl b
  | .int i => .int i
  | .str s h => .str s h
  | .tup h1 h2 => .tup (sqT_mw x h1) (RDs.mw x h2)
  | .lst h1 h2 => .lst (h1.mw x) (RDs.mw x h2)
theorem RDs.mw {v : List V} {d : List D} (x : Exd H B H' B') : RDs g H B v d → RDs g H' B' v d
  | .nil => .nil
  | .cons h1 h2 => .cons (RD.mw x h1) (RDs.mw x h2)
end
theorem RDk.mw {κ : Type} {v : List (κ × V)} {d : List (κ × D)} (x : Exd H B H' B') : RDk g H B v d → RDk g H' B' v d
  | .nil => .nil
  | .cons h1 h2 => .cons (RD.mw x h1) (RDk.mw x h2)
theorem RD.mono {v : V} {d : D} (x : Ext H M H' M') (sb : Sub M) (h : RD g H M.B v d) : RD g H' M'.B v d := h.mw (x.w sb).d
theorem RDs.mono {v : List V} {d : List D} (x : Ext H M H' M') (sb : Sub M) (h : RDs g H M.B v d) : RDs g H' M'.B v d := h.mw (x.w sb).d
theorem FzL.mono {a : Addr} {xs : List V} (x : Ext H M H' M') (sb : Sub M) (h : FzL H M.B a xs) : FzL H' M'.B a xs := h.mw (x.w sb).d
theorem FzS.mono {K : PySem.W.Frag} {a : Addr} {xs : List V} (x : Ext H M H' M') (h : FzS K H a xs) : FzS K H' a xs := by
  rcases h with ⟨o, e⟩ | h
  · exact .inl ⟨o, x.frz a o _ e⟩
  · exact .inr h
theorem sqT_mono {K : PySem.W.Frag} {a : Addr} {xs : List V} (x : Ext H M H' M') (h : SqT K H a xs) : SqT K H' a xs := by
  rcases h with (h | ⟨o, h⟩) | h
  · exact .inl (.inl (x.tup _ _ h))
  · exact .inl (.inr ⟨o, x.frz _ _ _ h⟩)
  · exact .inr h
end mono

/-- a value of the machine and one of ours -/
inductive RW (g : G) (H : Hp) (M : Mu) : V → W → Prop
  | d {v : V} {x : D} : RD g H M.B v x → RW g H M v (.d x)
  | l {a : Addr} {n : Nat} : M.m[n]? = some a → RW g H M (.ref a) (.l n)
  | s {a : Addr} {xs : List V} {ds : List D} : FzS g.K H a xs → RDs g H M.B xs ds → RW g H M (.ref a) (.s ds)
  | f {a : Addr} {xs : List (Key × V)} {ds : List (Key × D)} : FzD H M.B a xs → RDk g H M.B xs ds → RW g H M (.ref a) (.f ds)
  | t {z : Str} : RW g H M (.str z) (.t z)
  | ty {n : String} : RW g H M (.ty n) (.ty n)
  | fn {a : Addr} {s : Str} : g.fm s = some a → RW g H M (.ref a) (.fn s)
  | x {a C dd : Addr} {c : Str} {fs : List (Str × V)} {ds : List (Str × D)} : g.xa = some (a, .ref C, some dd) → g.cm c = some C → H dd = some (.xd fs) → ¬ M.B dd → RDk g H M.B fs ds → RW g H M (.ref a) (.x c ds)
abbrev RWs (g : G) (H : Hp) (M : Mu) : List V → List W → Prop := Paired (RW g H M)
abbrev RWk {κ : Type} (g : G) (H : Hp) (M : Mu) : List (κ × V) → List (κ × W) → Prop := Paired (fun (p : κ × V) (q : κ × W) => p.1 = q.1 ∧ RW g H M p.2 q.2)
def RO (g : G) (H : Hp) (M : Mu) : HO → O → Prop
  | .lst vs, .lst ws => RWs g H M vs ws
  | .dK kvs, .dct kws => RWk g H M kvs kws
  | .ins C _ fs, .ins c ws => g.cm c = some C ∧ RWk g H M fs ws
  | _, _ => False
/-- the store; fl: the numbers of places at the entries of the defs that want to drop what is behind -/
structure RH (g : G) (H : Hp) (M : Mu) (fl : List Nat) (h : Sto) : Prop where
  nd : M.m.Nodup
  sub : Sub M
  len : M.m.length = h.o.length
  ev : ∀ (n : Nat) (a : Addr) (o : O), M.m[n]? = some a → h.o[n]? = some o → ∃ u, H a = some u ∧ RO g H M u o
  cl : h.c = true → ∀ f ∈ fl, ∀ (j : Nat) (o : O), j < f → h.o[j]? = some o → o.lt f
  fle : ∀ f ∈ fl, f ≤ h.o.length
/-- the slots -/
structure RS (g : G) (H : Hp) (M : Mu) (σ : L2.St) (r : Env) : Prop where
  len : σ.length = r.length
  ev : ∀ (i : Nat) (w : W), r[i]? = some (some w) → ∃ v, σ[i]? = some (some v) ∧ RW g H M v w
/-- an exception: its class, its own dict -/
def REx (g : G) (H : Hp) (M : Mu) (c : Value) (d : Option Addr) (e : Ex) : Prop :=
  ∃ C, c = .ref C ∧ g.cm e.c = some C ∧ ((e.fs = [] ∧ d = none) ∨ ∃ dd fs, d = some dd ∧ H dd = some (.xd fs) ∧ ¬ M.B dd ∧ RDk g H M.B fs e.fs)

section
variable {g : G} {H H' : Hp} {M M' : Mu} {fl : List Nat} {h h' : Sto} {σ : L2.St} {r : Env} {v : V} {w : W}
theorem RW.mw (x : Exw H M H' M') (q : RW g H M v w) : RW g H' M' v w := by
  cases q with
  | d q => exact .d (q.mw x.d)
  | l q => exact .l (x.pre _ _ q)
  | s q1 q2 => exact .s (q1.mw x.d) (q2.mw x.d)
  | f q1 q2 => exact .f (q1.mw x.d) (q2.mw x.d)
  | t => exact .t
  | ty => exact .ty
  | fn q => exact .fn q
  | x h1 h2 h3 h4 h5 => exact .x h1 h2 (x.old _ _ h3 h4).1 (x.old _ _ h3 h4).2 (h5.mw x.d)
theorem RWs.mw {vs : List V} {ws : List W} (x : Exw H M H' M') (q : RWs g H M vs ws) : RWs g H' M' vs ws := L2.Paired.mapP q fun _ _ z => z.mw x
theorem RWk.mw {κ : Type} {vs : List (κ × V)} {ws : List (κ × W)} (x : Exw H M H' M') (q : RWk g H M vs ws) : RWk g H' M' vs ws := L2.Paired.mapP q fun _ _ z => ⟨z.1, z.2.mw x⟩
theorem RO.mw {u : HO} {o : O} (x : Exw H M H' M') (q : RO g H M u o) : RO g H' M' u o := by
  cases u <;> cases o <;> first | exact False.elim q | skip
  · exact RWs.mw x q
  · exact RWk.mw x q
  · exact ⟨q.1, RWk.mw x q.2⟩
theorem RS.mw (x : Exw H M H' M') (q : RS g H M σ r) : RS g H' M' σ r :=
  ⟨q.len, fun i w e => let ⟨v, e1, z⟩ := q.ev i w e; ⟨v, e1, z.mw x⟩⟩
theorem RW.mono (x : Ext H M H' M') (sb : Sub M) (q : RW g H M v w) : RW g H' M' v w := q.mw (x.w sb)
theorem RWs.mono {vs : List V} {ws : List W} (x : Ext H M H' M') (sb : Sub M) (q : RWs g H M vs ws) : RWs g H' M' vs ws := RWs.mw (x.w sb) q
theorem RWk.mono {κ : Type} {vs : List (κ × V)} {ws : List (κ × W)} (x : Ext H M H' M') (sb : Sub M) (q : RWk g H M vs ws) : RWk g H' M' vs ws := RWk.mw (x.w sb) q
theorem RO.mono {u : HO} {o : O} (x : Ext H M H' M') (sb : Sub M) (q : RO g H M u o) : RO g H' M' u o := RO.mw (x.w sb) q
theorem RS.mono (x : Ext H M H' M') (sb : Sub M) (q : RS g H M σ r) : RS g H' M' σ r := q.mw (x.w sb)
theorem RS.set {i : Nat} (q : RS g H M σ r) (z : RW g H M v w) : RS g H M (σ.set i (some v)) (r.set i (some w)) := by
  refine ⟨by rw [List.length_set, List.length_set]; exact q.len, fun j w' e => ?_⟩
  by_cases hj : i = j
  · subst hj
    rw [List.getElem?_set] at e ⊢
    rw [if_pos rfl] at e ⊢
    by_cases hl : i < r.length
    · rw [if_pos hl] at e
      rw [if_pos (by rw [q.len]; exact hl)]
      cases e
      exact ⟨v, rfl, z⟩
    · rw [if_neg hl] at e
      cases e
  · rw [List.getElem?_set_ne hj] at e ⊢
    exact q.ev j w' e
theorem RS.unset {i : Nat} (q : RS g H M σ r) : RS g H M (σ.set i none) (r.set i none) := by
  refine ⟨by rw [List.length_set, List.length_set]; exact q.len, fun j w' e => ?_⟩
  by_cases hj : i = j
  · subst hj
    rw [List.getElem?_set, if_pos rfl] at e
    split at e <;> cases e
  · rw [List.getElem?_set_ne hj] at e ⊢
    exact q.ev j w' e
theorem RH.get (q : RH g H M fl h) {n : Nat} {o : O} (e : h.o[n]? = some o) : ∃ a u, M.m[n]? = some a ∧ H a = some u ∧ RO g H M u o := by
  have hn : n < M.m.length := by rw [q.len]; exact (List.getElem?_eq_some_iff.mp e).1
  have e1 : M.m[n]? = some M.m[n] := List.getElem?_eq_getElem hn
  obtain ⟨u, h1, h2⟩ := q.ev n _ o e1 e
  exact ⟨_, u, e1, h1, h2⟩
theorem RH.of_m (q : RH g H M fl h) {n : Nat} {a : Addr} (e : M.m[n]? = some a) : ∃ o u, h.o[n]? = some o ∧ H a = some u ∧ RO g H M u o := by
  have hn : n < h.o.length := by rw [← q.len]; exact (List.getElem?_eq_some_iff.mp e).1
  have e1 : h.o[n]? = some h.o[n] := List.getElem?_eq_getElem hn
  obtain ⟨u, h1, h2⟩ := q.ev n a _ e e1
  exact ⟨_, u, e1, h1, h2⟩
theorem RH.mem (q : RH g H M fl h) {a : Addr} (e : a ∈ M.m) : ∃ o u, H a = some u ∧ RO g H M u o := by
  obtain ⟨n, hn, e1⟩ := List.mem_iff_getElem.mp e
  obtain ⟨o, u, _, h1, h2⟩ := q.of_m (n := n) (a := a) (by rw [List.getElem?_eq_getElem hn, e1])
  exact ⟨o, u, h1, h2⟩
theorem RO.notTup {xs : List V} {o : O} (q : RO g H M (.tup xs) o) : False := by cases o <;> exact q
theorem RO.notFrz {ob : Obj} {u : HO} {o : O} (q : RO g H M (.frz ob u) o) : False := by cases o <;> exact q
/-- a new object that stays, tracked at p -/
theorem Ext.fresh {p : Addr} {u : HO} (hp : H p = none) (q : RH g H M fl h) : Ext H M (upd H p u) M := by
  have ne : ∀ a o, H a = some o → a ≠ p := fun a o e => ne_of_none e hp
  exact ⟨fun _ _ e => e, fun a o e n => ⟨by rw [upd_ne (ne a o e)]; exact e, n⟩, fun _ _ _ => Iff.rfl, fun a xs e => by rw [upd_ne (ne a _ e)]; exact e, fun a o u e => by rw [upd_ne (ne a _ e)]; exact e, fun a o e => ⟨o, by rw [upd_ne (ne a o e)]; exact e⟩⟩
/-- what a step that keeps the places' objects leaves -/
theorem RH.ext (q : RH g H M fl h) (x : Ext H M H' M') (hm : M'.m = M.m) (hB : ∀ a ∈ M.m, M'.B a) (k : ∀ a ∈ M.m, H' a = H a) : RH g H' M' fl h := by
  refine ⟨by rw [hm]; exact q.nd, fun a ha => hB a (by rw [← hm]; exact ha), by rw [hm]; exact q.len, fun n a o e1 e2 => ?_, q.cl, q.fle⟩
  rw [hm] at e1
  obtain ⟨u, h1, h2⟩ := q.ev n a o e1 e2
  exact ⟨u, by rw [k a (List.mem_of_getElem? e1)]; exact h1, h2.mono x q.sub⟩
theorem RH.fresh {p : Addr} {u : HO} (q : RH g H M fl h) (hp : H p = none) : RH g (upd H p u) M fl h :=
  q.ext (Ext.fresh hp q) rfl q.sub fun a ha => by
    obtain ⟨o, u, e, _⟩ := q.mem ha
    rw [upd_ne (ne_of_none e hp)]
/-- p is not among what may change: B without p -/
def Mu.fz (M : Mu) (p : Addr) : Mu := ⟨fun a => M.B a ∧ a ≠ p, M.m⟩
theorem Ext.freshF {p : Addr} {u : HO} (hp : H p = none) (q : RH g H M fl h) : Ext H M (upd H p u) (M.fz p) := by
  have ne : ∀ a o, H a = some o → a ≠ p := fun a o e => ne_of_none e hp
  exact ⟨fun _ _ e => e, fun a o e n => ⟨by rw [upd_ne (ne a o e)]; exact e, n⟩, fun a o e => ⟨fun b => ⟨b, ne a o e⟩, fun b => b.1⟩, fun a xs e => by rw [upd_ne (ne a _ e)]; exact e, fun a o u e => by rw [upd_ne (ne a _ e)]; exact e, fun a o e => ⟨o, by rw [upd_ne (ne a o e)]; exact e⟩⟩
theorem RH.freshF {p : Addr} {u : HO} (q : RH g H M fl h) (hp : H p = none) : RH g (upd H p u) (M.fz p) fl h :=
  q.ext (Ext.freshF hp q) rfl (fun a ha => ⟨q.sub a ha, by
    obtain ⟨o, u, e, _⟩ := q.mem ha
    exact ne_of_none e hp⟩) fun a ha => by
    obtain ⟨o, u, e, _⟩ := q.mem ha
    rw [upd_ne (ne_of_none e hp)]
theorem RWs.length {vs : List V} {ws : List W} (q : RWs g H M vs ws) : vs.length = ws.length := Paired.length q
theorem RW.lt (z : RW g H M v w) (q : RH g H M fl h) : w.lt h.o.length := by
  cases z with
  | l e =>
    show _ < _
    rw [← q.len]
    exact (List.getElem?_eq_some_iff.mp e).1
  | _ => trivial
/-- a new object that may change -/
def Mu.add (M : Mu) (p : Addr) : Mu := ⟨fun a => M.B a ∨ a = p, M.m ++ [p]⟩
theorem Ext.add {p : Addr} {u : HO} (hp : H p = none) (q : RH g H M fl h) : Ext H M (upd H p u) (M.add p) := by
  have ne : ∀ a o, H a = some o → a ≠ p := fun a o e => ne_of_none e hp
  refine ⟨fun n a e => ?_, fun a o e n => ⟨by rw [upd_ne (ne a o e)]; exact e, fun z => ?_⟩, fun a o e => ⟨fun b => .inl b, fun b => b.elim id fun z => absurd z (ne a o e)⟩, fun a xs e => by rw [upd_ne (ne a _ e)]; exact e, fun a o u e => by rw [upd_ne (ne a _ e)]; exact e, fun a o e => ⟨o, by rw [upd_ne (ne a o e)]; exact e⟩⟩
  · show (M.m ++ [p])[n]? = _
    rw [List.getElem?_append_left (List.getElem?_eq_some_iff.mp e).1]
    exact e
  · rcases List.mem_append.mp z with z | z
    · exact n z
    · exact ne a o e (List.mem_singleton.mp z)
theorem RH.add {p : Addr} {u : HO} {o : O} (q : RH g H M fl h) (hp : H p = none) (ro : RO g (upd H p u) (M.add p) u o) : RH g (upd H p u) (M.add p) fl ⟨h.o ++ [o], h.c⟩ := by
  have x : Ext H M (upd H p u) (M.add p) := Ext.add hp q
  have np : p ∉ M.m := fun z => by
    obtain ⟨o', u', e, _⟩ := q.mem z
    rw [hp] at e
    cases e
  refine ⟨?_, fun a ha => ?_, ?_, fun n a o' e1 e2 => ?_, fun hc f hf j o' hj e => ?_, fun f hf => ?_⟩
  · show (M.m ++ [p]).Nodup
    rw [List.nodup_append]
    exact ⟨q.nd, List.nodup_cons.mpr ⟨by simp, List.nodup_nil⟩, fun a ha b hb z => np (by rw [← List.mem_singleton.mp hb, ← z]; exact ha)⟩
  · rcases List.mem_append.mp ha with z | z
    · exact .inl (q.sub a z)
    · exact .inr (List.mem_singleton.mp z)
  · show (M.m ++ [p]).length = (h.o ++ [o]).length
    rw [List.length_append, List.length_append, q.len]
    rfl
  · have e1' : (M.m ++ [p])[n]? = some a := e1
    have e2' : (h.o ++ [o])[n]? = some o' := e2
    by_cases hn : n < M.m.length
    · rw [List.getElem?_append_left hn] at e1'
      rw [List.getElem?_append_left (by rw [← q.len]; exact hn)] at e2'
      obtain ⟨u', h1, h2⟩ := q.ev n a o' e1' e2'
      exact ⟨u', by rw [upd_ne (ne_of_none h1 hp)]; exact h1, h2.mono x q.sub⟩
    · rw [List.getElem?_append_right (by omega)] at e1'
      rw [List.getElem?_append_right (by rw [← q.len]; omega)] at e2'
      have hz : n - M.m.length = 0 := by
        have := (List.getElem?_eq_some_iff.mp e1').1
        simp at this
        exact this
      rw [hz] at e1'
      rw [← q.len, hz] at e2'
      simp at e1' e2'
      subst e1' e2'
      exact ⟨u, upd_same, ro⟩
  · have e' : (h.o ++ [o])[j]? = some o' := e
    rw [List.getElem?_append_left (Nat.lt_of_lt_of_le hj (q.fle f hf))] at e'
    exact q.cl hc f hf j o' hj e'
  · show f ≤ (h.o ++ [o]).length
    rw [List.length_append]
    exact Nat.le_trans (q.fle f hf) (Nat.le_add_right _ _)
theorem RW.added {p : Addr} (q : RH g H M fl h) : RW g H' (M.add p) (.ref p) (.l h.o.length) := by
  refine .l ?_
  show (M.m ++ [p])[h.o.length]? = some p
  rw [List.getElem?_append_right (by rw [q.len]; exact Nat.le_refl _), q.len, Nat.sub_self]
  rfl
/-- the object at a place is written -/
theorem Ext.put {n : Nat} {a : Addr} {u : HO} (q : RH g H M fl h) (e : M.m[n]? = some a) : Ext H M (upd H a u) M := by
  have hm : a ∈ M.m := List.mem_of_getElem? e
  obtain ⟨o, u0, e0, r0⟩ := q.mem hm
  refine ⟨fun _ _ e => e, fun b o eb nb => ⟨by rw [upd_ne (fun z => nb (by rw [z]; exact hm))]; exact eb, nb⟩, fun _ _ _ => Iff.rfl, fun b xs eb => ?_, fun b o u eb => ?_, fun b o eb => ?_⟩
  · rw [upd_ne (fun z => by
      rw [z, e0] at eb
      cases eb
      exact r0.notTup)]
    exact eb
  · rw [upd_ne (fun z => by
      rw [z, e0] at eb
      cases eb
      exact r0.notFrz)]
    exact eb
  · by_cases z : b = a
    · exact ⟨u, by rw [z]; exact upd_same⟩
    · exact ⟨o, by rw [upd_ne z]; exact eb⟩
theorem RH.put {n : Nat} {a : Addr} {u : HO} {o o' : O} {c' : Bool} (q : RH g H M fl h) (e : M.m[n]? = some a) (eo : h.o[n]? = some o) (ro : RO g (upd H a u) M u o') (hc : c' = true → h.c = true ∧ ∀ f, o.lt f → o'.lt f) :
    RH g (upd H a u) M fl ⟨h.o.set n o', c'⟩ := by
  have x : Ext H M (upd H a u) M := Ext.put q e
  have hn : n < h.o.length := (List.getElem?_eq_some_iff.mp eo).1
  refine ⟨q.nd, q.sub, by show _ = (h.o.set n o').length; rw [List.length_set]; exact q.len, fun k b o2 e1 e2 => ?_, fun hc' f hf j o2 hj e2 => ?_, fun f hf => by show _ ≤ (h.o.set n o').length; rw [List.length_set]; exact q.fle f hf⟩
  · have e2' : (h.o.set n o')[k]? = some o2 := e2
    by_cases hk : n = k
    · subst hk
      rw [List.getElem?_set, if_pos rfl, if_pos hn] at e2'
      cases e2'
      rw [e] at e1
      cases e1
      exact ⟨u, upd_same, ro⟩
    · rw [List.getElem?_set_ne hk] at e2'
      obtain ⟨u2, h1, h2⟩ := q.ev k b o2 e1 e2'
      refine ⟨u2, ?_, h2.mono x q.sub⟩
      rw [upd_ne (fun z => hk ?_)]
      · exact h1
      · have h3 := List.getElem?_eq_some_iff.mp e1
        have h4 := List.getElem?_eq_some_iff.mp e
        exact (List.getElem_inj q.nd).mp (by rw [h4.2, h3.2, z])
  · have e2' : (h.o.set n o')[j]? = some o2 := e2
    obtain ⟨c1, c2⟩ := hc hc'
    by_cases hk : n = j
    · subst hk
      rw [List.getElem?_set, if_pos rfl, if_pos hn] at e2'
      cases e2'
      exact c2 f (q.cl c1 f hf n o hj eo)
    · rw [List.getElem?_set_ne hk] at e2'
      exact q.cl c1 f hf j o2 hj e2'
end
end
end Xs

/-! XsB: what a computation promises; the judgements. -/
namespace Xs
noncomputable section
open PySem PySem.Spec PyProof.Rows L2
@[simp] def Re.bind {α β : Type} (x : Re α) (k : α → Sto → Re β) : Re β :=
  match x with
  | .ok a h => k a h
  | .exc e h => .exc e h
  | .stuck => .stuck
abbrev XE := Env → Sto → Re W
abbrev XA := Env → Sto → Re (List W)
abbrev XT := Env → Sto → Re Bool
abbrev XS := Env → Sto → Fl

section
variable {α β γ : Type} {g : G} {Z : WX} {σ : L2.St} {H H' H1 : Hp} {M M' M1 : Mu} {fl : List Nat} {h h' h1 : Sto} {r : Env} {v : V} {w : W}
/-- what holds of a computation's result, from H, M on -/
def Po (g : G) (Z : WX) (σ : L2.St) (fl : List Nat) (R : Hp → Mu → β → α → Prop) (H : Hp) (M : Mu) (Q : β → Hp → Prop) : Re α → Prop
  | .ok x h' => ∀ v H' M', Ext H M H' M' → RH g H' M' fl h' → R H' M' v x → Q v H'
  | .exc e h' => ∀ c d H' M', Ext H M H' M' → RH g H' M' fl h' → REx g H' M' c d e → Z c d σ H'
  | .stuck => False
theorem Po.ext {R : Hp → Mu → β → α → Prop} {Q : β → Hp → Prop} {x : Re α} (e : Ext H M H' M') (p : Po g Z σ fl R H M Q x) : Po g Z σ fl R H' M' Q x := by
  cases x with
  | ok a h => exact fun v H2 M2 e2 => p v H2 M2 (e.trans e2)
  | exc a h => exact fun c d H2 M2 e2 => p c d H2 M2 (e.trans e2)
  | stuck => exact p
theorem Po.bind {δ : Type} {R1 : Hp → Mu → δ → α → Prop} {R2 : Hp → Mu → γ → β → Prop} {Q : γ → Hp → Prop} {Q1 : δ → Hp → Prop} {x : Re α} {k : α → Sto → Re β} (p : Po g Z σ fl R2 H M Q (x.bind k))
    (f : ∀ a h1 v H1 M1, Ext H M H1 M1 → RH g H1 M1 fl h1 → R1 H1 M1 v a → Po g Z σ fl R2 H1 M1 Q (k a h1) → Q1 v H1) : Po g Z σ fl R1 H M Q1 x := by
  cases x with
  | ok a h => exact fun v H1 M1 e rh rv => f a h v H1 M1 e rh rv (Po.ext e p)
  | exc a h => exact p
  | stuck => exact p
theorem Po.imp {R1 : Hp → Mu → β → α → Prop} {Q Q' : β → Hp → Prop} {x : Re α} (p : Po g Z σ fl R1 H M Q x) (f : ∀ v H', Q v H' → Q' v H') : Po g Z σ fl R1 H M Q' x := by
  cases x with
  | ok a h => exact fun v H1 M1 e rh rv => f v H1 (p v H1 M1 e rh rv)
  | exc a h => exact p
  | stuck => exact p
/-- a computation as a reading -/
def rd (g : G) (Z : WX) (R : Hp → Mu → β → α → Prop) (x : Env → Sto → Re α) : L2.St → Hp → (β → Hp → Prop) → Prop :=
  fun σ H Q => ∃ r h M fl, RS g H M σ r ∧ RH g H M fl h ∧ Po g Z σ fl R H M Q (x r h)
abbrev RB : Hp → Mu → Bool → Bool → Prop := fun _ _ a b => a = b
abbrev rdE (g : G) (Z : WX) (x : XE) : TE := rd g Z (RW g) x
abbrev rdA (g : G) (Z : WX) (x : XA) : TA := rd g Z (RWs g) x
abbrev rdT (g : G) (Z : WX) (x : XT) : TT := rd g Z RB x
/-- a statement's result -/
def PoS (g : G) (Z : WX) (fl : List Nat) (H : Hp) (M : Mu) (D : Ends) : Fl → Prop
  | .nx r h => ∀ σ' H' M', Ext H M H' M' → RS g H' M' σ' r → RH g H' M' fl h → D.nx σ' H'
  | .bk r h => ∀ σ' H' M', Ext H M H' M' → RS g H' M' σ' r → RH g H' M' fl h → D.bk σ' H'
  | .ct r h => ∀ σ' H' M', Ext H M H' M' → RS g H' M' σ' r → RH g H' M' fl h → D.ct σ' H'
  | .rt w h => ∀ v H' M', Ext H M H' M' → RH g H' M' fl h → RW g H' M' v w → D.rt v H'
  | .exc e r h => ∀ c d σ' H' M', Ext H M H' M' → RS g H' M' σ' r → RH g H' M' fl h → REx g H' M' c d e → Z c d σ' H'
  | .stuck => False
theorem PoS.ext {D : Ends} {x : Fl} (e : Ext H M H' M') (p : PoS g Z fl H M D x) : PoS g Z fl H' M' D x := by
  cases x with
  | nx r h => exact fun σ' H2 M2 e2 => p σ' H2 M2 (e.trans e2)
  | bk r h => exact fun σ' H2 M2 e2 => p σ' H2 M2 (e.trans e2)
  | ct r h => exact fun σ' H2 M2 e2 => p σ' H2 M2 (e.trans e2)
  | rt r h => exact fun σ' H2 M2 e2 => p σ' H2 M2 (e.trans e2)
  | exc a r h => exact fun c d σ' H2 M2 e2 => p c d σ' H2 M2 (e.trans e2)
  | stuck => exact p
def rdS (g : G) (Z : WX) (x : XS) : TS := fun D σ H => ∃ r h M fl, RS g H M σ r ∧ RH g H M fl h ∧ PoS g Z fl H M D (x r h)
end

/-! ### weaker readings -/
section
variable {X : Cx}
theorem PE.imp {e : Expr} {t t' : TE} (p : PE X e t) (f : ∀ σ H Q, t' σ H Q → t σ H Q) : PE X e t' := ⟨fun pins s σ H Q I h => p.run pins s σ H Q I (f σ H Q h)⟩
theorem PT.imp {e : Expr} {t t' : TT} (p : PT X e t) (f : ∀ σ H Q, t' σ H Q → t σ H Q) : PT X e t' := ⟨fun pins s σ H Q I h => p.run pins s σ H Q I (f σ H Q h)⟩
theorem PW.imp {e : Expr} {t t' : TT} (p : PW X e t) (f : ∀ σ H Q, t' σ H Q → t σ H Q) : PW X e t' := ⟨fun wh pins s σ H Q I h => p.run wh pins s σ H Q I (f σ H Q h)⟩
theorem PA.imp {e : List Expr} {t t' : TA} (p : PA X e t) (f : ∀ σ H Q, t' σ H Q → t σ H Q) : PA X e t' := ⟨fun pos pins s σ H Q I h => p.run pos pins s σ H Q I (f σ H Q h)⟩
theorem PS.imp {e : Stmt} {t t' : TS} (p : PS X e t) (f : ∀ D σ H, t' D σ H → t D σ H) : PS X e t' := ⟨fun pins s σ H D I h => p.run pins s σ H D I (f D σ H h)⟩
theorem PSs.imp {e : List Stmt} {t t' : TS} (p : PSs X e t) (f : ∀ D σ H, t' D σ H → t D σ H) : PSs X e t' := ⟨fun pins s σ H D I h => p.run pins s σ H D I (f D σ H h)⟩
end

/-! ### expressions -/
@[simp] def xVar (i : Nat) : XE := fun r h => match r[i]? with
  | some (some w) => .ok w h
  | _ => .stuck
@[simp] def xC (x : D) : XE := fun _ h => .ok (.d x) h
@[simp] def xBin (f : W → W → Sto → Re W) (a b : XE) : XE := fun r h => (a r h).bind fun x h1 => (b r h1).bind fun y h2 => f x y h2
@[simp] def xUn (f : W → Sto → Re W) (a : XE) : XE := fun r h => (a r h).bind fun x h1 => f x h1
@[simp] def xNil : XA := fun _ h => .ok [] h
@[simp] def xCons (a : XE) (b : XA) : XA := fun r h => (a r h).bind fun x h1 => (b r h1).bind fun y h2 => .ok (x :: y) h2
@[simp] def xApp (f : List W → Sto → Re W) (a : XA) : XE := fun r h => (a r h).bind fun x h1 => f x h1
@[simp] def xTest (a : XE) : XT := fun r h => (a r h).bind fun x h1 => match x with
  | .d (.bl b) => .ok b h1
  | _ => .stuck
@[simp] def xIf (c : XT) (a b : XE) : XE := fun r h => (c r h).bind fun t h1 => if t = true then a r h1 else b r h1
@[simp] def xAnd (c d : XT) : XT := fun r h => (c r h).bind fun t h1 => if t = true then d r h1 else .ok false h1
@[simp] def xOr (c d : XT) : XT := fun r h => (c r h).bind fun t h1 => if t = true then .ok true h1 else d r h1
@[simp] def xNot (c : XT) : XT := fun r h => (c r h).bind fun t h1 => .ok (!t) h1
section
variable {X : Cx} {g : G} {Z : WX} {a b c : Expr} {xa xb xc : XE} {pos : Pos}
/-- the values' rule of a two-place operation -/
def Op2 (X : Cx) (g : G) (Z : WX) (f : Value → Value → Sem Value) (F : W → W → Sto → Re W) : Prop :=
  ∃ r, OpR X f r ∧ ∀ {σ : L2.St} {H : Hp} {M : Mu} {fl : List Nat} {h : Sto} {v u : V} {x y : W} {Q : VK}, RH g H M fl h → RW g H M v x → RW g H M u y → Po g Z σ fl (RW g) H M Q (F x y h) → r v u H Q
theorem se_var {i : Nat} {x : Str} (hN : X.N[i]? = some x := by rfl) (hv : Vis X.env.scope x := by first | exact Or.inl rfl | exact Or.inr (Or.inl rfl) | exact Or.inr (Or.inr rfl))
    (hd : (x == ("__debug__" : Str)) = false := by decide) (hcd : (x == ("__classdict__" : Str)) = false := by decide) : PE X (.Name x pos) (rdE g Z (xVar i)) := by
  refine PE.imp (pe_var hN hv hd hcd) fun σ H Q ⟨r, h, M, fl, rs, rh, p⟩ => ?_
  simp only [xVar] at p
  cases e : r[i]? with
  | none => rw [e] at p; exact p.elim
  | some o =>
    rw [e] at p
    cases o with
    | none => exact p.elim
    | some w =>
      obtain ⟨v, e1, rw1⟩ := rs.ev i w e
      exact ⟨v, e1, p v H M (Ext.refl H M) rh rw1⟩
theorem se_of {v : V} {x : D} (p : PE X a (tC v)) (rx : ∀ H B, RD g H B v x) : PE X a (rdE g Z (xC x)) :=
  PE.imp p fun σ H Q ⟨r, h, M, fl, rs, rh, p⟩ => p v H M (Ext.refl H M) rh (.d (rx H M.B))
theorem se_int {i : Int} {j} : PE X (.Constant (.int i) j pos) (rdE g Z (xC (.int i))) := se_of pe_int fun _ _ => .int i
theorem se_bl {i : Bool} {j} : PE X (.Constant (.bool i) j pos) (rdE g Z (xC (.bl i))) := se_of pe_bl fun _ _ => .bl i
theorem se_str {i : Str} {j} (h : PyData.strOk i = true := by decide +kernel) : PE X (.Constant (.str i) j pos) (rdE g Z (xC (.str i))) := se_of pe_str fun _ _ => .str i h
theorem se_non {j} : PE X (.Constant .none j pos) (rdE g Z (xC .non)) := se_of pe_non fun _ _ => .non
/-- two in a row -/
theorem rd_bin {r2 : R2} {F : W → W → Sto → Re W} (k : ∀ {σ : L2.St} {H : Hp} {M : Mu} {fl : List Nat} {h : Sto} {v u : V} {x y : W} {Q : VK}, RH g H M fl h → RW g H M v x → RW g H M u y → Po g Z σ fl (RW g) H M Q (F x y h) → r2 v u H Q)
    (σ : L2.St) (H : Hp) (Q : VK) : rdE g Z (xBin F xa xb) σ H Q → tOp r2 (rdE g Z xa) (rdE g Z xb) σ H Q := fun ⟨r, h, M, fl, rs, rh, p⟩ =>
  ⟨r, h, M, fl, rs, rh, Po.bind p fun x h1 v H1 M1 e1 rh1 rx p1 => ⟨r, h1, M1, fl, rs.mono e1 rh.sub, rh1, Po.bind p1 fun y h2 u H2 M2 e2 rh2 ry p2 => k rh2 (rx.mono e2 rh1.sub) ry p2⟩⟩
theorem se_bin {op : Operator} {F : W → W → Sto → Re W} (o : Op2 X g Z (binaryOp op) F) (ha : PE X a (rdE g Z xa)) (hb : PE X b (rdE g Z xb)) : PE X (.BinOp a op b pos) (rdE g Z (xBin F xa xb)) := by
  obtain ⟨r, ho, k⟩ := o
  exact PE.imp (pe_op ho ha hb) (rd_bin k)
theorem se_cmp {op : CmpOp} {F : W → W → Sto → Re W} (o : Op2 X g Z (compareOp op) F) (ha : PE X a (rdE g Z xa)) (hb : PE X b (rdE g Z xb)) (hm : behindInMarks op b = false := by first | exact nomark _ | rfl) :
    PE X (.Compare a [op] [b] pos) (rdE g Z (xBin F xa xb)) := by
  obtain ⟨r, ho, k⟩ := o
  exact PE.imp (pe_cmpR ho ha hb hm) (rd_bin k)
theorem rd_test (σ : L2.St) (H : Hp) (Q : Bool → Hp → Prop) : rdT g Z (xTest xa) σ H Q → tTest (rdE g Z xa) σ H Q := fun ⟨r, h, M, fl, rs, rh, p⟩ =>
  ⟨r, h, M, fl, rs, rh, Po.bind p fun x h1 v H1 M1 e1 rh1 rx p1 => by
    cases rx with
    | l _ => exact p1.elim
    | f _ _ => exact p1.elim
    | s _ _ => exact p1.elim
    | t => exact p1.elim
    | ty => exact p1.elim
    | fn _ => exact p1.elim
    | x _ _ _ _ _ => exact p1.elim
    | d rx => cases rx <;> first | exact ⟨_, rfl, p1 _ H1 M1 (Ext.refl H1 M1) rh1 rfl⟩ | exact False.elim p1⟩
theorem st_cmp {op : CmpOp} {F : W → W → Sto → Re W} (o : Op2 X g Z (compareOp op) F) (ha : PE X a (rdE g Z xa)) (hb : PE X b (rdE g Z xb)) (hm : behindInMarks op b = false := by first | exact nomark _ | rfl) :
    PT X (.Compare a [op] [b] pos) (rdT g Z (xTest (xBin F xa xb))) := by
  obtain ⟨r, ho, k⟩ := o
  exact PT.imp (pt_cmpR ho ha hb hm) fun σ H Q q => by
    obtain ⟨r0, h, M, fl, rs, rh, p⟩ := rd_test σ H Q q
    exact rd_bin k σ H _ ⟨r0, h, M, fl, rs, rh, p⟩
/-- a value that is a bool, as a test -/
theorem st_val (h : PE X a (rdE g Z xa)) (he : ∀ whole, isTrue a X.env whole = (do let v ← whole; standAt a.pos; holding [v] (truthy v)) := by intro _; rfl) : PT X a (rdT g Z (xTest xa)) :=
  PT.imp (pt_val h he) fun σ H Q q => rd_test σ H Q q
theorem rd_and {t u : XT} (σ : L2.St) (H : Hp) (Q : Bool → Hp → Prop) : rdT g Z (xAnd t u) σ H Q → tAnd (rdT g Z t) (rdT g Z u) σ H Q := fun ⟨r, h, M, fl, rs, rh, p⟩ =>
  ⟨r, h, M, fl, rs, rh, Po.bind p fun x h1 v H1 M1 e1 rh1 rx p1 => by
    have rx : v = x := rx
    subst rx
    cases v with
    | true => exact ⟨r, h1, M1, fl, rs.mono e1 rh.sub, rh1, p1⟩
    | false => exact p1 _ H1 M1 (Ext.refl H1 M1) rh1 rfl⟩
theorem rd_or {t u : XT} (σ : L2.St) (H : Hp) (Q : Bool → Hp → Prop) : rdT g Z (xOr t u) σ H Q → tOr (rdT g Z t) (rdT g Z u) σ H Q := fun ⟨r, h, M, fl, rs, rh, p⟩ =>
  ⟨r, h, M, fl, rs, rh, Po.bind p fun x h1 v H1 M1 e1 rh1 rx p1 => by
    have rx : v = x := rx
    subst rx
    cases v with
    | false => exact ⟨r, h1, M1, fl, rs.mono e1 rh.sub, rh1, p1⟩
    | true => exact p1 _ H1 M1 (Ext.refl H1 M1) rh1 rfl⟩
theorem sw_and1 {t : XT} (ha : PT X a (rdT g Z t)) : PW X (.BoolOp .And [a] pos) (rdT g Z t) := pw_and1 ha
theorem sw_or1 {t : XT} (ha : PT X a (rdT g Z t)) : PW X (.BoolOp .Or [a] pos) (rdT g Z t) := pw_or1 ha
theorem sw_and {t u : XT} {rest : List Expr} (ha : PT X a (rdT g Z t)) (hb : PW X (.BoolOp .And (b :: rest) pos) (rdT g Z u)) : PW X (.BoolOp .And (a :: b :: rest) pos) (rdT g Z (xAnd t u)) := PW.imp (pw_and ha hb) rd_and
theorem sw_or {t u : XT} {rest : List Expr} (ha : PT X a (rdT g Z t)) (hb : PW X (.BoolOp .Or (b :: rest) pos) (rdT g Z u)) : PW X (.BoolOp .Or (a :: b :: rest) pos) (rdT g Z (xOr t u)) := PW.imp (pw_or ha hb) rd_or
theorem st_w {t : XT} (h : PW X a (rdT g Z t)) : PT X a (rdT g Z t) := h.pt
theorem st_not {t : XT} (ha : PT X a (rdT g Z t)) : PT X (.UnaryOp .Not a pos) (rdT g Z (xNot t)) :=
  PT.imp (pt_not ha) fun σ H Q ⟨r, h, M, fl, rs, rh, p⟩ => ⟨r, h, M, fl, rs, rh, Po.bind p fun x h1 v H1 M1 e1 rh1 rx p1 => by
    have rx : v = x := rx
    subst rx
    exact p1 _ H1 M1 (Ext.refl H1 M1) rh1 rfl⟩
theorem se_if {t : XT} (hc : PT X c (rdT g Z t)) (ha : PE X a (rdE g Z xa)) (hb : PE X b (rdE g Z xb)) : PE X (.IfExp c a b pos) (rdE g Z (xIf t xa xb)) :=
  PE.imp (pe_ifExp hc ha hb) fun σ H Q ⟨r, h, M, fl, rs, rh, p⟩ => ⟨r, h, M, fl, rs, rh, Po.bind p fun x h1 v H1 M1 e1 rh1 rx p1 => by
    have rx : v = x := rx
    subst rx
    cases v with
    | true => exact ⟨r, h1, M1, fl, rs.mono e1 rh.sub, rh1, p1⟩
    | false => exact ⟨r, h1, M1, fl, rs.mono e1 rh.sub, rh1, p1⟩⟩
/-- and, or, not as values -/
@[simp] def xAndV (a b : XE) : XE := fun r h => (a r h).bind fun x h1 => match x with
  | .d (.bl true) => b r h1
  | .d (.bl false) => .ok (.d (.bl false)) h1
  | _ => .stuck
@[simp] def xOrV (a b : XE) : XE := fun r h => (a r h).bind fun x h1 => match x with
  | .d (.bl true) => .ok (.d (.bl true)) h1
  | .d (.bl false) => b r h1
  | _ => .stuck
@[simp] def xNotV (a : XE) : XE := fun r h => (a r h).bind fun x h1 => match x with
  | .d (.bl b) => .ok (.d (.bl (!b))) h1
  | _ => .stuck
theorem se_one {op} (h : PE X a (rdE g Z xa)) : PE X (.BoolOp op [a] pos) (rdE g Z xa) := pe_one h
theorem se_and {rest : List Expr} (ha : PE X a (rdE g Z xa)) (hb : PE X (.BoolOp .And (b :: rest) pos) (rdE g Z xb)) : PE X (.BoolOp .And (a :: b :: rest) pos) (rdE g Z (xAndV xa xb)) :=
  PE.imp (pe_and ha hb) fun σ H Q ⟨r, h, M, fl, rs, rh, p⟩ => ⟨r, h, M, fl, rs, rh, Po.bind p fun x h1 v H1 M1 e1 rh1 rx p1 => by
    cases rx with
    | l _ => exact p1.elim
    | f _ _ => exact p1.elim
    | s _ _ => exact p1.elim
    | t => exact p1.elim
    | ty => exact p1.elim
    | fn _ => exact p1.elim
    | x _ _ _ _ _ => exact p1.elim
    | d rx =>
      cases rx <;> first | exact False.elim p1 | skip
      rename_i b
      refine ⟨b, rfl, ?_⟩
      cases b with
      | true => exact ⟨r, h1, M1, fl, rs.mono e1 rh.sub, rh1, p1⟩
      | false => exact p1 _ H1 M1 (Ext.refl H1 M1) rh1 (.d (.bl false))⟩
theorem se_or {rest : List Expr} (ha : PE X a (rdE g Z xa)) (hb : PE X (.BoolOp .Or (b :: rest) pos) (rdE g Z xb)) : PE X (.BoolOp .Or (a :: b :: rest) pos) (rdE g Z (xOrV xa xb)) :=
  PE.imp (pe_or ha hb) fun σ H Q ⟨r, h, M, fl, rs, rh, p⟩ => ⟨r, h, M, fl, rs, rh, Po.bind p fun x h1 v H1 M1 e1 rh1 rx p1 => by
    cases rx with
    | l _ => exact p1.elim
    | f _ _ => exact p1.elim
    | s _ _ => exact p1.elim
    | t => exact p1.elim
    | ty => exact p1.elim
    | fn _ => exact p1.elim
    | x _ _ _ _ _ => exact p1.elim
    | d rx =>
      cases rx <;> first | exact False.elim p1 | skip
      rename_i b
      refine ⟨b, rfl, ?_⟩
      cases b with
      | false => exact ⟨r, h1, M1, fl, rs.mono e1 rh.sub, rh1, p1⟩
      | true => exact p1 _ H1 M1 (Ext.refl H1 M1) rh1 (.d (.bl true))⟩
theorem se_not (ha : PE X a (rdE g Z xa)) : PE X (.UnaryOp .Not a pos) (rdE g Z (xNotV xa)) :=
  PE.imp (pe_not ha) fun σ H Q ⟨r, h, M, fl, rs, rh, p⟩ => ⟨r, h, M, fl, rs, rh, Po.bind p fun x h1 v H1 M1 e1 rh1 rx p1 => by
    cases rx with
    | l _ => exact p1.elim
    | f _ _ => exact p1.elim
    | s _ _ => exact p1.elim
    | t => exact p1.elim
    | ty => exact p1.elim
    | fn _ => exact p1.elim
    | x _ _ _ _ _ => exact p1.elim
    | d rx =>
      cases rx <;> first | exact False.elim p1 | skip
      exact ⟨_, rfl, p1 _ H1 M1 (Ext.refl H1 M1) rh1 (.d (.bl _))⟩⟩
theorem sa_nil : PA X [] (rdA g Z xNil) := PA.imp pa_nil fun σ H Q ⟨r, h, M, fl, rs, rh, p⟩ => p [] H M (Ext.refl H M) rh .nil
theorem sa_cons {e : Expr} {es : List Expr} {ta : XA} (ha : PE X e (rdE g Z xa)) (hr : PA X es (rdA g Z ta)) (hs : starEach (e :: es) X.env = (false, eval e X.env) :: starEach es X.env := by rfl) : PA X (e :: es) (rdA g Z (xCons xa ta)) :=
  PA.imp (pa_cons ha hr hs) fun σ H Q ⟨r, h, M, fl, rs, rh, p⟩ => ⟨r, h, M, fl, rs, rh, Po.bind p fun x h1 v H1 M1 e1 rh1 rx p1 => ⟨r, h1, M1, fl, rs.mono e1 rh.sub, rh1, Po.bind p1 fun y h2 u H2 M2 e2 rh2 ry p2 =>
    p2 (v :: u) H2 M2 (Ext.refl H2 M2) rh2 (.cons (rx.mono e2 rh1.sub) ry)⟩⟩
/-- the values' rule of a call -/
def Fn1 (X : Cx) (g : G) (Z : WX) (f : Value) (F : List W → Sto → Re W) : Prop :=
  ∃ r, CallR X f r ∧ ∀ {σ : L2.St} {H : Hp} {M : Mu} {fl : List Nat} {h : Sto} {vs : List V} {ws : List W} {Q : VK}, RH g H M fl h → RWs g H M vs ws → Po g Z σ fl (RW g) H M Q (F ws h) → r vs H Q
theorem rd_app {ta : XA} {t2 : List V → Hp → VK → Prop} {F : List W → Sto → Re W} (k : ∀ {σ : L2.St} {H : Hp} {M : Mu} {fl : List Nat} {h : Sto} {vs : List V} {ws : List W} {Q : VK}, RH g H M fl h → RWs g H M vs ws → Po g Z σ fl (RW g) H M Q (F ws h) → t2 vs H Q)
    (σ : L2.St) (H : Hp) (Q : VK) : rdE g Z (xApp F ta) σ H Q → tCB t2 (rdA g Z ta) σ H Q := fun ⟨r, h, M, fl, rs, rh, p⟩ =>
  ⟨r, h, M, fl, rs, rh, Po.bind p fun x h1 v H1 M1 e1 rh1 rx p1 => k rh1 rx p1⟩
theorem se_callB {id : String} {x : Str} {p : Pos} {e : Expr} {es : List Expr} {ta : XA} {F : List W → Sto → Re W} (o : Fn1 X g Z (.builtin id) F) (ha : PA X (e :: es) (rdA g Z ta)) (hm : X.mg x = none) (hv : bootBuiltins x = some (.builtin id))
    (hg : Gl X x := by rfl) (hn : x ≠ "__name__" := by decide) (hdb : (x == ("__debug__" : Str)) = false := by decide)
    (he : starEach (e :: es) X.env = (false, eval e X.env) :: starEach es X.env := by rfl) (hpl : (backTo pos (starEach es X.env)).any (·.1) = false := by rfl) : PE X (.Call (.Name x p) (e :: es) [] pos) (rdE g Z (xApp F ta)) := by
  obtain ⟨r, ho, k⟩ := o
  exact PE.imp (pe_callB ho hg hm hv ha hn hdb he hpl) (rd_app k)
theorem se_callTy {T : String} {x : Str} {p : Pos} {e : Expr} {es : List Expr} {ta : XA} {F : List W → Sto → Re W} (o : Fn1 X g Z (.type T) F) (ha : PA X (e :: es) (rdA g Z ta)) (hm : X.mg x = none) (hv : bootBuiltins x = some (.type T))
    (hg : Gl X x := by rfl) (hn : x ≠ "__name__" := by decide) (hdb : (x == ("__debug__" : Str)) = false := by decide)
    (he : starEach (e :: es) X.env = (false, eval e X.env) :: starEach es X.env := by rfl) (hpl : (backTo pos (starEach es X.env)).any (·.1) = false := by rfl) : PE X (.Call (.Name x p) (e :: es) [] pos) (rdE g Z (xApp F ta)) := by
  obtain ⟨r, ho, k⟩ := o
  exact PE.imp (pe_callTy ho hg hm hv ha hn hdb he hpl) (rd_app k)
end

/-! ### statements -/
@[simp] def Fl.seq (x : Fl) (k : Env → Sto → Fl) : Fl := match x with
  | .nx r h => k r h
  | .rt w h => .rt w h
  | .bk r h => .bk r h
  | .ct r h => .ct r h
  | .exc e r h => .exc e r h
  | .stuck => .stuck
@[simp] def Re.then {α : Type} (x : Re α) (r : Env) (k : α → Sto → Fl) : Fl := match x with
  | .ok a h => k a h
  | .exc e h => .exc e r h
  | .stuck => .stuck
@[simp] def sSkip : XS := fun r h => .nx r h
@[simp] def sSeq (a b : XS) : XS := fun r h => (a r h).seq b
@[simp] def sDrop (a : XE) : XS := fun r h => (a r h).then r fun _ h1 => .nx r h1
@[simp] def sRet (a : XE) : XS := fun r h => (a r h).then r fun w h1 => .rt w h1
@[simp] def sRetN : XS := fun r h => .rt (.d .non) h
@[simp] def sIf (c : XT) (a b : XS) : XS := fun r h => (c r h).then r fun t h1 => if t = true then a r h1 else b r h1
@[simp] def sSet (i : Nat) (a : XE) : XS := fun r h => (a r h).then r fun w h1 => .nx (r.set i (some w)) h1
@[simp] def sBrk : XS := fun r h => .bk r h
@[simp] def sCont : XS := fun r h => .ct r h
section
variable {X : Cx} {g : G} {Z : WX} {a b c : Expr} {xa xb xc : XE} {pos : Pos} {st : Stmt} {rest : List Stmt} {u u' : XS}
theorem Po.then {α β : Type} {R : Hp → Mu → β → α → Prop} {σ : L2.St} {fl : List Nat} {H : Hp} {M : Mu} {D : Ends} {r : Env} {Q1 : β → Hp → Prop} {x : Re α} {k : α → Sto → Fl} (rs : RS g H M σ r) (sb : Sub M) (p : PoS g Z fl H M D (x.then r k))
    (f : ∀ a h1 v H1 M1, Ext H M H1 M1 → RS g H1 M1 σ r → RH g H1 M1 fl h1 → R H1 M1 v a → PoS g Z fl H1 M1 D (k a h1) → Q1 v H1) : Po g Z σ fl R H M Q1 x := by
  cases x with
  | ok a h => exact fun v H1 M1 e rh rv => f a h v H1 M1 e (rs.mono e sb) rh rv (PoS.ext e p)
  | exc a h => exact fun c d H1 M1 e rh rx => p c d σ H1 M1 e (rs.mono e sb) rh rx
  | stuck => exact p
theorem sss_nil : PSs X [] (rdS g Z sSkip) := PSs.imp pss_nil fun D σ H ⟨r, h, M, fl, rs, rh, p⟩ => p σ H M (Ext.refl H M) rs rh
theorem sss_one (h1 : PS X st (rdS g Z u)) : PSs X [st] (rdS g Z u) := pss_one h1
theorem sss_cons (h1 : PS X st (rdS g Z u)) (h2 : PSs X rest (rdS g Z u')) : PSs X (st :: rest) (rdS g Z (sSeq u u')) :=
  PSs.imp (pss_cons h1 h2) fun D σ H ⟨r, h, M, fl, rs, rh, p⟩ => ⟨r, h, M, fl, rs, rh, by
    have p : PoS g Z fl H M D ((u r h).seq u') := p
    cases e : u r h with
    | nx r1 h1 =>
      rw [e] at p
      exact fun σ1 H1 M1 e1 rs1 rh1 => ⟨r1, h1, M1, fl, rs1, rh1, PoS.ext e1 p⟩
    | rt w h1 => rw [e] at p; exact p
    | bk w h1 => rw [e] at p; exact p
    | ct w h1 => rw [e] at p; exact p
    | exc w r1 h1 => rw [e] at p; exact p
    | stuck => rw [e] at p; exact p⟩
theorem ss_expr (he : PE X a (rdE g Z xa)) (hs : swapsWith a none pos.line X.env = pure false := by rfl) : PS X (.Expr a pos) (rdS g Z (sDrop xa)) :=
  PS.imp (ps_expr he hs) fun D σ H ⟨r, h, M, fl, rs, rh, p⟩ => ⟨r, h, M, fl, rs, rh, Po.then rs rh.sub p fun x h1 v H1 M1 e1 rs1 rh1 rx p1 => p1 σ H1 M1 (Ext.refl H1 M1) rs1 rh1⟩
theorem ss_ret (he : PE X a (rdE g Z xa)) : PS X (.Return (some a) pos) (rdS g Z (sRet xa)) :=
  PS.imp (ps_ret he) fun D σ H ⟨r, h, M, fl, rs, rh, p⟩ => ⟨r, h, M, fl, rs, rh, Po.then rs rh.sub p fun x h1 v H1 M1 e1 rs1 rh1 rx p1 => p1 v H1 M1 (Ext.refl H1 M1) rh1 rx⟩
theorem ss_retN : PS X (.Return none pos) (rdS g Z sRetN) :=
  PS.imp ps_retN fun D σ H ⟨r, h, M, fl, rs, rh, p⟩ => p .non H M (Ext.refl H M) rh (.d .non)
theorem ss_if {t : XT} {A B : List Stmt} (hc : PT X c (rdT g Z t)) (ha : PSs X A (rdS g Z u)) (hb : PSs X B (rdS g Z u')) : PS X (.If c A B pos) (rdS g Z (sIf t u u')) :=
  PS.imp (ps_if hc ha hb) fun D σ H ⟨r, h, M, fl, rs, rh, p⟩ => ⟨r, h, M, fl, rs, rh, Po.then rs rh.sub p fun x h1 v H1 M1 e1 rs1 rh1 rx p1 => by
    have rx : v = x := rx
    subst rx
    cases v with
    | true => exact ⟨r, h1, M1, fl, rs1, rh1, p1⟩
    | false => exact ⟨r, h1, M1, fl, rs1, rh1, p1⟩⟩
theorem ss_set {i : Nat} {x : Str} {pos' : Pos} (hN : X.N.Nodup) (he : PE X a (rdE g Z xa)) (hi : X.N[i]? = some x := by rfl) (hx : Loc X.env.scope x := by first | exact Or.inl rfl | exact Or.inr rfl) (hs : swapsWith a (some (.Name x pos')) pos.line X.env = pure false := by rfl)
    (hf : X.fn x = true ∨ X.env.scope.names.lookup x = some .local := by first | exact .inl rfl | exact .inr rfl) : PS X (.Assign [.Name x pos'] a pos) (rdS g Z (sSet i xa)) :=
  PS.imp (ps_set hN hi hx he hs hf) fun D σ H ⟨r, h, M, fl, rs, rh, p⟩ => ⟨r, h, M, fl, rs, rh, Po.then rs rh.sub p fun x h1 v H1 M1 e1 rs1 rh1 rx p1 => p1 _ H1 M1 (Ext.refl H1 M1) (rs1.set rx) rh1⟩
theorem ss_doc {x : Str} {j pos'} : PS X (.Expr (.Constant (.str x) j pos) pos') (rdS g Z sSkip) := PS.imp ps_doc fun D σ H ⟨r, h, M, fl, rs, rh, p⟩ => p σ H M (Ext.refl H M) rs rh
theorem ss_pass : PS X (.Pass pos) (rdS g Z sSkip) := PS.imp ps_pass fun D σ H ⟨r, h, M, fl, rs, rh, p⟩ => p σ H M (Ext.refl H M) rs rh
theorem ss_break : PS X (.Break pos) (rdS g Z sBrk) := PS.imp ps_break fun D σ H ⟨r, h, M, fl, rs, rh, p⟩ => p σ H M (Ext.refl H M) rs rh
theorem ss_continue : PS X (.Continue pos) (rdS g Z sCont) := PS.imp ps_continue fun D σ H ⟨r, h, M, fl, rs, rh, p⟩ => p σ H M (Ext.refl H M) rs rh
end
end
end Xs

/-! XsC: loops. -/
namespace Xs
noncomputable section
open PySem PySem.Spec PyProof.Rows L2
/-- what is walked: from the turn and the store, an item, the end, or nothing -/
abbrev Nxt := Nat → Sto → Option (Option W)
abbrev XI := Env → Sto → Re (Nat × Nxt)
abbrev XG := W → Env → Option Env
/-- a walk of the machine that goes as nxt says -/
def ItOk (g : G) (J : It) (n : Nxt) (H0 : Hp) (M0 : Mu) : Prop := ∀ fl i H M h, Ext H0 M0 H M → RH g H M fl h → (n i h = some none → J.stop i H) ∧
  (∀ w, n i h = some (some w) → J.go i H ∧ ∀ x H', J.yld i H x H' → ∃ M', Ext H M H' M' ∧ RH g H' M' fl h ∧ RW g H' M' x w)
abbrev RI (g : G) : Hp → Mu → It → Nat × Nxt → Prop := fun H M J p => ItOk g J p.2 H M
abbrev rdI (g : G) (Z : WX) (x : XI) : TI := rd g Z (RI g) x
def forLoop (nxt : Nxt) (tg : XG) (body : XS) : Nat → Nat → XS
  | 0, _, _, _ => .stuck
  | n + 1, i, r, h => match nxt i h with
    | none => .stuck
    | some none => .nx r h
    | some (some w) => match tg w r with
      | none => .stuck
      | some r1 => match body r1 h with
        | .nx r2 h2 => forLoop nxt tg body n (i + 1) r2 h2
        | .ct r2 h2 => forLoop nxt tg body n (i + 1) r2 h2
        | .bk r2 h2 => .nx r2 h2
        | .rt w h2 => .rt w h2
        | .exc e r2 h2 => .exc e r2 h2
        | .stuck => .stuck
def sFor (src : XI) (tg : XG) (body : XS) : XS := fun r h => (src r h).then r fun p h1 => forLoop p.2 tg body p.1 0 r h1
/-- a target of names alone, those at the places own -/
def rdG (g : G) (own : List Nat) (x : XG) : TG := fun v σ H Q => ∃ r h M fl w, RS g H M σ r ∧ RH g H M fl h ∧ RW g H M v w ∧ ∃ r', x w r = some r' ∧ ∀ σ', RS g H M σ' r' → wipe σ' own = wipe σ own → Q σ' H
def rdGs (g : G) (own : List Nat) (x : List W → Env → Option Env) : TGs := fun vs σ H Q => ∃ r h M fl ws, RS g H M σ r ∧ RH g H M fl h ∧ RWs g H M vs ws ∧ ∃ r', x ws r = some r' ∧ ∀ σ', RS g H M σ' r' → wipe σ' own = wipe σ own → Q σ' H
theorem wipe_comm {σ : L2.St} {o : Option V} {i : Nat} : ∀ {own : List Nat}, (∀ j ∈ own, j ≠ i) → wipe (σ.set i o) own = (wipe σ own).set i o
  | [], _ => rfl
  | j :: own, h => by
    show (wipe (σ.set i o) own).set j none = ((wipe σ own).set j none).set i o
    rw [wipe_comm fun k hk => h k (List.mem_cons_of_mem _ hk)]
    exact List.set_comm _ _ (Ne.symm (h j List.mem_cons_self))
theorem wipe_set {σ : L2.St} {o : Option V} {i : Nat} : ∀ {own : List Nat}, i ∈ own → wipe (σ.set i o) own = wipe σ own
  | j :: own, h => by
    show (wipe (σ.set i o) own).set j none = (wipe σ own).set j none
    by_cases hi : i ∈ own
    · rw [wipe_set hi]
    · have e : i = j := (List.mem_cons.mp h).elim id fun z => absurd z hi
      subst e
      rw [wipe_comm fun k hk z => hi (by rw [← z]; exact hk), List.set_set]
@[simp] def gN (i : Nat) : XG := fun w r => some (r.set i (some w))
@[simp] def gsNil : List W → Env → Option Env := fun ws r => match ws with
  | [] => some r
  | _ => none
@[simp] def gsCons (a : XG) (b : List W → Env → Option Env) : List W → Env → Option Env := fun ws r => match ws with
  | w :: rest => match a w r with
    | some r1 => b rest r1
    | none => none
  | [] => none
@[simp] def gT (n : Nat) (b : List W → Env → Option Env) : XG := fun w r => match w with
  | .d (.tup ds) => if ds.length = n then b (ds.map .d) r else none
  | _ => none
section
variable {X : Cx} {g : G} {Z : WX} {tg it : Expr} {pos : Pos} {H : Hp} {M : Mu}
theorem PG.imp {t t' : TG} (p : PG X tg t) (f : ∀ v σ H Q, t' v σ H Q → t v σ H Q) : PG X tg t' := ⟨fun pins s σ H v u Q I r h => p.run pins s σ H v u Q I r (f v σ H Q h)⟩
theorem PGs.imp {es : List Expr} {t t' : TGs} (p : PGs X es t) (f : ∀ v σ H Q, t' v σ H Q → t v σ H Q) : PGs X es t' := ⟨fun pins s σ H v u Q I r h => p.run pins s σ H v u Q I r (f v σ H Q h)⟩
theorem PI.imp {t t' : TI} (p : PI X tg it t) (f : ∀ σ H Q, t' σ H Q → t σ H Q) : PI X tg it t' := ⟨fun pins s σ H Q I h => p.run pins s σ H Q I (f σ H Q h)⟩
theorem RDs.toW {vs : List V} {ds : List D} : RDs g H M.B vs ds → RWs g H M vs (ds.map .d)
  | .nil => .nil
  | .cons a b => .cons (.d a) (RDs.toW b)
theorem RDs.len {B : Addr → Prop} {vs : List V} {ds : List D} : RDs g H B vs ds → vs.length = ds.length
  | .nil => rfl
  | .cons a b => congrArg (· + 1) (RDs.len b)
theorem RDs.get {B : Addr → Prop} : ∀ {vs : List V} {ds : List D} {i : Nat} {d : D}, RDs g H B vs ds → ds[i]? = some d → ∃ v, vs[i]? = some v ∧ RD g H B v d
  | _, _, 0, d, .cons a b, e => by simp at e; subst e; exact ⟨_, rfl, a⟩
  | _, _, i + 1, d, .cons a b, e => by simpa using RDs.get b (i := i) (by simpa using e)
theorem RWs.get {vs : List V} {ws : List W} {i : Nat} {w : W} : RWs g H M vs ws → ws[i]? = some w → ∃ v, vs[i]? = some v ∧ RW g H M v w := fun q e => by
  induction q generalizing i with
  | nil => simp at e
  | cons a b ih =>
    cases i with
    | zero => simp at e; subst e; exact ⟨_, rfl, a⟩
    | succ i => simpa using ih (by simpa using e)
theorem _root_.Xs.RW.tup_inv {v : V} {ds : List D} (q : RW g H M v (.d (.tup ds))) : ∃ a xs, v = .ref a ∧ SqT g.K H a xs ∧ RDs g H M.B xs ds := by
  cases q with
  | d q => cases q with
    | tup h1 h2 => exact ⟨_, _, rfl, h1, h2⟩
theorem _root_.Xs.RW.lst_inv {v : V} {ds : List D} (q : RW g H M v (.d (.lst ds))) : ∃ a xs, v = .ref a ∧ FzL H M.B a xs ∧ RDs g H M.B xs ds := by
  cases q with
  | d q => cases q with
    | lst h1 h2 => exact ⟨_, _, rfl, h1, h2⟩
theorem _root_.Xs.RW.s_inv {v : V} {ds : List D} (q : RW g H M v (.s ds)) : ∃ a xs, v = .ref a ∧ FzS g.K H a xs ∧ RDs g H M.B xs ds := by
  cases q with
  | s h1 h2 => exact ⟨_, _, rfl, h1, h2⟩
theorem _root_.Xs.RW.f_inv {v : V} {ds : List (Key × D)} (q : RW g H M v (.f ds)) : ∃ a xs, v = .ref a ∧ FzD H M.B a xs ∧ RDk g H M.B xs ds := by
  cases q with
  | f h1 h2 => exact ⟨_, _, rfl, h1, h2⟩
theorem _root_.Xs.RW.int_inv {v : V} {i : Int} (q : RW g H M v (.d (.int i))) : v = .int i := by
  cases q with
  | d q => cases q; rfl
theorem _root_.Xs.RW.bl_inv {v : V} {i : Bool} (q : RW g H M v (.d (.bl i))) : v = .bl i := by
  cases q with
  | d q => cases q; rfl
theorem _root_.Xs.RW.str_inv {v : V} {i : Str} (q : RW g H M v (.d (.str i))) : v = .str i ∧ PyData.strOk i = true := by
  cases q with
  | d q => cases q with
    | str _ h => exact ⟨rfl, h⟩
theorem _root_.Xs.RW.non_inv {v : V} (q : RW g H M v (.d .non)) : v = .non := by
  cases q with
  | d q => cases q; rfl
theorem _root_.Xs.RW.l_inv {v : V} {n : Nat} (q : RW g H M v (.l n)) : ∃ a, v = .ref a ∧ M.m[n]? = some a := by
  cases q with
  | l q => exact ⟨_, rfl, q⟩
/-- a list at a place -/
theorem _root_.Xs.RH.lst {fl : List Nat} {h : Sto} {n : Nat} {a : Addr} {ws : List W} (q : RH g H M fl h) (e : M.m[n]? = some a) (eo : h.o[n]? = some (.lst ws)) : ∃ vs, H a = some (.lst vs) ∧ RWs g H M vs ws := by
  obtain ⟨u, h1, h2⟩ := q.ev n a _ e eo
  cases u <;> first | exact False.elim h2 | exact ⟨_, h1, h2⟩
theorem _root_.Xs.RH.dct {fl : List Nat} {h : Sto} {n : Nat} {a : Addr} {ws : List (Key × W)} (q : RH g H M fl h) (e : M.m[n]? = some a) (eo : h.o[n]? = some (.dct ws)) : ∃ vs, H a = some (.dK vs) ∧ RWk g H M vs ws := by
  obtain ⟨u, h1, h2⟩ := q.ev n a _ e eo
  cases u <;> first | exact False.elim h2 | exact ⟨_, h1, h2⟩
theorem _root_.Xs.RH.ins {fl : List Nat} {h : Sto} {n : Nat} {a : Addr} {c : Str} {ws : List (Str × W)} (q : RH g H M fl h) (e : M.m[n]? = some a) (eo : h.o[n]? = some (.ins c ws)) : ∃ C dx vs, H a = some (.ins C dx vs) ∧ g.cm c = some C ∧ RWk g H M vs ws := by
  obtain ⟨u, h1, h2⟩ := q.ev n a _ e eo
  cases u <;> first | exact False.elim h2 | exact ⟨_, _, _, h1, h2⟩
theorem _root_.Xs.RWs.one {vs : List V} {w : W} (q : RWs g H M vs [w]) : ∃ v, vs = [v] ∧ RW g H M v w := by
  cases q with
  | cons a b =>
    cases b
    exact ⟨_, rfl, a⟩
theorem _root_.Xs.RWs.two {vs : List V} {w u : W} (q : RWs g H M vs [w, u]) : ∃ v z, vs = [v, z] ∧ RW g H M v w ∧ RW g H M z u := by
  cases q with
  | cons a b =>
    obtain ⟨z, rfl, c⟩ := RWs.one b
    exact ⟨_, _, rfl, a, c⟩
theorem _root_.Xs.RWs.three {vs : List V} {w u x : W} (q : RWs g H M vs [w, u, x]) : ∃ v z y, vs = [v, z, y] ∧ RW g H M v w ∧ RW g H M z u ∧ RW g H M y x := by
  cases q with
  | cons a b =>
    obtain ⟨z, y, rfl, c⟩ := RWs.two b
    exact ⟨_, _, _, rfl, a, c⟩
theorem sg_name {i : Nat} {own : List Nat} {x : Str} (hN : X.N.Nodup) (ho : i ∈ own := by decide) (hi : X.N[i]? = some x := by rfl) (hx : Loc X.env.scope x := by first | exact Or.inl rfl | exact Or.inr rfl) (hf : X.fn x = true ∨ X.env.scope.names.lookup x = some .local := by first | exact .inl rfl | exact .inr rfl) :
    PG X (.Name x pos) (rdG g own (gN i)) := PG.imp (pg_name hN hi hx hf) fun v σ H Q ⟨r, h, M, fl, w, rs, rh, rw1, r', e, q⟩ => q _ (by cases e; exact rs.set rw1) (wipe_set ho)
theorem sgs_nil {own : List Nat} : PGs X [] (rdGs g own gsNil) := PGs.imp pgs_nil fun vs σ H Q ⟨r, h, M, fl, ws, rs, rh, rw1, r', e, q⟩ => by
  cases ws with
  | nil =>
    cases rw1
    cases e
    exact ⟨rfl, q σ rs rfl⟩
  | cons _ _ => cases e
theorem sgs_cons {own : List Nat} {e : Expr} {es : List Expr} {a : XG} {b : List W → Env → Option Env} (h1 : PG X e (rdG g own a)) (h2 : PGs X es (rdGs g own b))
    (hs : (assignEach (e :: es) X.env).map (·.2) = assign e X.env :: (assignEach es X.env).map (·.2) := by rfl) : PGs X (e :: es) (rdGs g own (gsCons a b)) :=
  PGs.imp (pgs_cons h1 h2 hs) fun vs σ H Q ⟨r, h, M, fl, ws, rs, rh, rw1, r', e, q⟩ => by
    cases rw1 with
    | nil => cases e
    | @cons v w vs ws ra rb =>
      simp only [gsCons] at e
      cases e1 : a w r with
      | none => rw [e1] at e; cases e
      | some r1 =>
        rw [e1] at e
        exact ⟨v, vs, rfl, r, h, M, fl, w, rs, rh, ra, r1, e1, fun σ' rs' hw => ⟨r1, h, M, fl, ws, rs', rh, rb, r', e, fun σ2 rs2 hw2 => q σ2 rs2 (hw2.trans hw)⟩⟩
theorem sg_tup {own : List Nat} {es : List Expr} {k : Nat} {n : Nat} {b : List W → Env → Option Env} (hc : X.calm = true) (h : PGs X es (rdGs g own b))
    (hn : (assignEach es X.env).length = n := by rfl) (hst : (assignEach es X.env).findIdx? (·.1) = none := by rfl) (hK : X.K = g.K := by rfl) : PG X (.Tuple es k pos) (rdG g own (gT n b)) :=
  PG.imp (pg_tup hc h hn hst) fun v σ H Q ⟨r, h, M, fl, w, rs, rh, rw1, r', e, q⟩ => by
    cases w with
    | d x =>
      cases x with
      | tup ds =>
        obtain ⟨a, xs, rfl, ht, hd⟩ := rw1.tup_inv
        simp only [gT] at e
        by_cases hl : ds.length = n
        · rw [if_pos hl] at e
          exact ⟨a, xs, rfl, by rw [hK]; exact ht, hd.len.trans hl, r, h, M, fl, _, rs, rh, hd.toW, r', e, q⟩
        · rw [if_neg hl] at e
          cases e
      | _ => cases e
    | _ => cases e
/-- for -/
theorem ss_for {own : List Nat} {body : List Stmt} {src : XI} {xg : XG} {xb : XS} (hp : PassesOwn (model X.prog X.w) X.A X.env X.xe) (hc : X.calm = true) (hi : PI X tg it (rdI g Z src)) (hg : PG X tg (rdG g own xg)) (hb : PSs X body (rdS g Z xb))
    (hs : ∀ x, foldedSetIterable it X.env x = pure x := by intro _; rfl) : PS X (.For tg it body [] pos) (rdS g Z (sFor src xg xb)) :=
  PS.imp (ps_for hp hc hi hg hb hs) fun D σ H ⟨r, h, M, fl, rs, rh, p⟩ => ⟨r, h, M, fl, rs, rh, Po.then rs rh.sub p fun a h1 J H1 M1 e1 rs1 rh1 ok p1 => by
    refine ⟨fun i m σ' H' => ∃ r' h' M', Ext H1 M1 H' M' ∧ RS g H' M' σ' r' ∧ RH g H' M' fl h' ∧ PoS g Z fl H' M' D (forLoop a.2 xg xb m i r' h'), ⟨a.1, r, h1, M1, Ext.refl H1 M1, rs1, rh1, p1⟩, ?_⟩
    rintro i m σ' H' ⟨r', h', M', x', rs', rh', p'⟩
    obtain ⟨k1, k2⟩ := ok fl i H' M' h' x' rh'
    cases m with
    | zero => exact p'.elim
    | succ m =>
      simp only [forLoop] at p'
      cases e : a.2 i h' with
      | none => rw [e] at p'; exact p'.elim
      | some o =>
        rw [e] at p'
        cases o with
        | none => exact .inl ⟨k1 e, p' σ' H' M' (Ext.refl H' M') rs' rh'⟩
        | some w =>
          obtain ⟨go, k3⟩ := k2 w e
          simp only at p'
          cases e2 : xg w r' with
          | none => rw [e2] at p'; exact p'.elim
          | some r1 =>
            rw [e2] at p'
            simp only at p'
            refine .inr ⟨go, fun σ2 H2 => ∃ r2 h2 M2, Ext H1 M1 H2 M2 ∧ RS g H2 M2 σ2 r2 ∧ RH g H2 M2 fl h2 ∧ PoS g Z fl H2 M2 D (forLoop a.2 xg xb m (i + 1) r2 h2), fun σ2 H2 z => ⟨m, Nat.lt_succ_self m, z⟩, fun y H2 yd => ?_⟩
            obtain ⟨M2, x2, rh2, rw2⟩ := k3 y H2 yd
            refine ⟨r', h', M2, fl, w, rs'.mono x2 rh'.sub, rh2, rw2, r1, e2, fun σ3 rs3 _ => ⟨r1, h', M2, fl, rs3, rh2, ?_⟩⟩
            have p2 := PoS.ext x2 p'
            cases e3 : xb r1 h' with
            | nx r4 h4 =>
              rw [e3] at p2
              exact fun σ4 H4 M4 x4 rs4 rh4 => ⟨r4, h4, M4, (x'.trans x2).trans x4, rs4, rh4, PoS.ext x4 p2⟩
            | ct r4 h4 =>
              rw [e3] at p2
              exact fun σ4 H4 M4 x4 rs4 rh4 => ⟨r4, h4, M4, (x'.trans x2).trans x4, rs4, rh4, PoS.ext x4 p2⟩
            | bk r4 h4 => rw [e3] at p2; exact p2
            | rt w4 h4 => rw [e3] at p2; exact p2
            | exc e4 r4 h4 => rw [e3] at p2; exact p2
            | stuck => rw [e3] at p2; exact p2⟩

/-! ### sources -/
/-- items that are known ahead -/
@[simp] def nL (ws : List W) : Nxt := fun i _ => some ws[i]?
/-- the list at a place, as it stands -/
@[simp] def nP (k : Nat) : Nxt := fun i h => match h.o[k]? with
  | some (.lst ws) => some ws[i]?
  | _ => none
/-- how a list or tuple is walked -/
@[simp] def iterOf (w : W) (h : Sto) : Re (Nat × Nxt) := match w with
  | .d (.tup ds) => .ok (ds.length + 1, nL (ds.map .d)) h
  | .d (.lst ds) => .ok (ds.length + 1, nL (ds.map .d)) h
  | .s ds => .ok (ds.length + 1, nL (ds.map .d)) h
  | .l k => match h.o[k]? with
    | some (.lst ws) => .ok (ws.length + 1, nP k) h
    | _ => .stuck
  | _ => .stuck
@[simp] def iSeq (a : XE) : XI := fun r h => (a r h).bind fun w h1 => iterOf w h1
theorem PI_seq {l : Expr} {tl : TE} (hl : PE X l tl) : PI X tg l (fun σ H R => tl σ H fun x H1 => ∃ a, x = .ref a ∧ (((∃ xs, SqL X.K H1 a xs) ∧ R (Itl X.K a) H1) ∨ ((∃ xs, SqT X.K H1 a xs) ∧ R (Itt X.K a) H1))) := by
  refine ⟨fun pins s σ H R I h => ?_⟩
  refine thn (hl.run pins s σ H _ I h) fun v s1 ⟨x, H1, I1, r1, q1⟩ => ?_
  obtain ⟨a, e, q⟩ := q1
  subst e
  cases r1
  rcases q with ⟨⟨xs, hq⟩, q⟩ | ⟨⟨xs, hq⟩, q⟩
  · obtain ⟨its, rv, p, hz⟩ := I1.list hq
    refine wpAny_pyIter_list p.isList ?_
    exact pi_one (tk := s1.toks) I1 _ (turn_list a _) ⟨_, Heap.get?_push_size _ rfl, rfl, rfl⟩ q
  · obtain ⟨its, rv, p, hz⟩ := I1.tuple hq
    refine wpAny_pyIter_tuple (show s1.heap.IsTuple a its.toArray from p) ?_
    exact pi_one (tk := s1.toks) I1 _ (turn_tuple a _) ⟨_, Heap.get?_push_size _ rfl, rfl, rfl⟩ q
/-- a walk over a list that stays -/
theorem ItOk.lst {a : Addr} {xs : List V} {ds : List D} (sb : Sub M) (fz : ∀ {H' M'}, Ext H M H' M' → SqL g.K H' a xs) (hd : RDs g H M.B xs ds) : ItOk g (Itl g.K a) (nL (ds.map .d)) H M := fun fl i H1 M1 h1 x rh => by
  have sq : SqL g.K H1 a xs := fz x
  have hd1 : RWs g H1 M1 xs (ds.map .d) := (hd.toW).mono x sb
  refine ⟨fun e => ⟨xs, sq, ?_⟩, fun w e => ?_⟩
  · simp only [nL, Option.some.injEq] at e
    have := List.getElem?_eq_none_iff.mp e
    rw [← hd1.length] at this
    exact this
  · simp only [nL, Option.some.injEq] at e
    obtain ⟨v, e1, rv⟩ := RWs.get hd1 e
    refine ⟨⟨xs, v, sq, e1⟩, fun y H2 yd => ?_⟩
    obtain ⟨rfl, k⟩ := yd
    have := k xs sq
    rw [e1] at this
    cases this
    exact ⟨M1, Ext.refl _ _, rh, rv⟩
theorem ItOk.tup {a : Addr} {xs : List V} {ds : List D} (sb : Sub M) (fz : SqT g.K H a xs) (hd : RDs g H M.B xs ds) : ItOk g (Itt g.K a) (nL (ds.map .d)) H M := fun fl i H1 M1 h1 x rh => by
  have sq : SqT g.K H1 a xs := sqT_mono x fz
  have hd1 : RWs g H1 M1 xs (ds.map .d) := (hd.toW).mono x sb
  refine ⟨fun e => ⟨xs, sq, ?_⟩, fun w e => ?_⟩
  · simp only [nL, Option.some.injEq] at e
    have := List.getElem?_eq_none_iff.mp e
    rw [← hd1.length] at this
    exact this
  · simp only [nL, Option.some.injEq] at e
    obtain ⟨v, e1, rv⟩ := RWs.get hd1 e
    refine ⟨⟨xs, v, sq, e1⟩, fun y H2 yd => ?_⟩
    obtain ⟨rfl, k⟩ := yd
    have := k xs sq
    rw [e1] at this
    cases this
    exact ⟨M1, Ext.refl _ _, rh, rv⟩
/-- .. over the list at a place -/
theorem ItOk.pl {a : Addr} {k : Nat} (e0 : M.m[k]? = some a) : ItOk g (Itl g.K a) (nP k) H M := fun fl i H1 M1 h1 x rh => by
  have e1 := x.pre _ _ e0
  refine ⟨fun e => ?_, fun w e => ?_⟩
  all_goals
    simp only [nP] at e
    split at e <;> first | (cases e; done) | skip
    rename_i ws ew
    obtain ⟨vs, hv, rv⟩ := rh.lst e1 ew
    simp only [Option.some.injEq] at e
  · refine ⟨vs, SqL.of hv, ?_⟩
    have := List.getElem?_eq_none_iff.mp e
    rw [← rv.length] at this
    exact this
  · obtain ⟨v, e2, rv⟩ := RWs.get rv e
    refine ⟨⟨vs, v, SqL.of hv, e2⟩, fun y H2 yd => ?_⟩
    obtain ⟨rfl, k⟩ := yd
    have := k vs (SqL.of hv)
    rw [e2] at this
    cases this
    exact ⟨M1, Ext.refl _ _, rh, rv⟩
theorem ItOk.rng {lo : Int} {n : Nat} : ItOk g (Itr lo n) (nL ((List.range n).map fun i => .d (.int (lo + (i : Nat))))) H M := fun fl i H1 M1 h1 x rh => by
  refine ⟨fun e => ?_, fun w e => ?_⟩
  · simp only [nL, Option.some.injEq] at e
    have := List.getElem?_eq_none_iff.mp e
    exact (by simpa using this : n ≤ i)
  · simp only [nL, Option.some.injEq, List.getElem?_map] at e
    have hi : i < n := by
      rcases Nat.lt_or_ge i n with h | h
      · exact h
      · rw [List.getElem?_eq_none (by simpa using h)] at e
        cases e
    rw [List.getElem?_range hi] at e
    cases e
    refine ⟨hi, fun y H2 yd => ?_⟩
    obtain ⟨rfl, rfl⟩ := yd
    exact ⟨M1, Ext.refl _ _, rh, .d (.int _)⟩
theorem ItOk.rngC {lo c : Int} {n : Nat} : ItOk g (Itc lo c n) (nL ((List.range n).map fun i => .d (.int (lo + (i : Nat) * c)))) H M := fun fl i H1 M1 h1 x rh => by
  refine ⟨fun e => ?_, fun w e => ?_⟩
  · simp only [nL, Option.some.injEq] at e
    have := List.getElem?_eq_none_iff.mp e
    exact (by simpa using this : n ≤ i)
  · simp only [nL, Option.some.injEq, List.getElem?_map] at e
    have hi : i < n := by
      rcases Nat.lt_or_ge i n with h | h
      · exact h
      · rw [List.getElem?_eq_none (by simpa using h)] at e
        cases e
    rw [List.getElem?_range hi] at e
    cases e
    refine ⟨hi, fun y H2 yd => ?_⟩
    obtain ⟨rfl, rfl⟩ := yd
    exact ⟨M1, Ext.refl _ _, rh, .d (.int _)⟩
theorem si_seq {l : Expr} {xa : XE} (hl : PE X l (rdE g Z xa)) (hK : X.K = g.K := by rfl) : PI X tg l (rdI g Z (iSeq xa)) :=
  PI.imp (PI_seq hl) fun σ H R ⟨r, h, M, fl, rs, rh, p⟩ => ⟨r, h, M, fl, rs, rh, Po.bind p fun w h1 v H1 M1 e1 rh1 rw1 p1 => by
    rw [hK]
    cases w with
    | d x =>
      cases x with
      | tup ds =>
        obtain ⟨a, xs, rfl, ht, hd⟩ := rw1.tup_inv
        exact ⟨a, rfl, .inr ⟨⟨xs, ht⟩, p1 _ H1 M1 (Ext.refl _ _) rh1 (ItOk.tup rh1.sub ht hd)⟩⟩
      | lst ds =>
        obtain ⟨a, xs, rfl, ht, hd⟩ := rw1.lst_inv
        exact ⟨a, rfl, .inl ⟨⟨xs, ht.sq⟩, p1 _ H1 M1 (Ext.refl _ _) rh1 (ItOk.lst rh1.sub (fun x => (ht.mono x rh1.sub).sq) hd)⟩⟩
      | _ => exact p1.elim
    | s ds =>
      obtain ⟨a, xs, rfl, ht, hd⟩ := rw1.s_inv
      exact ⟨a, rfl, .inl ⟨⟨xs, ht.sq⟩, p1 _ H1 M1 (Ext.refl _ _) rh1 (ItOk.lst rh1.sub (fun x => (ht.mono x).sq) hd)⟩⟩
    | f _ => exact p1.elim
    | fn _ => exact p1.elim
    | t _ => exact p1.elim
    | ty _ => exact p1.elim
    | x _ _ => exact p1.elim
    | l k =>
      obtain ⟨a, rfl, e⟩ := rw1.l_inv
      simp only [iterOf] at p1
      split at p1
      · rename_i ws ew
        obtain ⟨vs, hv, rv⟩ := rh1.lst e ew
        exact ⟨a, rfl, .inl ⟨⟨vs, SqL.of hv⟩, p1 _ H1 M1 (Ext.refl _ _) rh1 (ItOk.pl e)⟩⟩
      · exact p1.elim⟩
/-- range(..) -/
theorem small_ex : ∃ f : Int → Bool, f = fun i => decide (-(2 ^ 62) ≤ i) && decide (i < 2 ^ 62) := ⟨_, rfl⟩
/-- between the lines of an index; sealed, so that nothing computes with its numbers -/
def small : Int → Bool := Classical.choose small_ex
theorem small_eq (i : Int) : small i = (decide (-(2 ^ 62) ≤ i) && decide (i < 2 ^ 62)) := congrFun (Classical.choose_spec small_ex) i
theorem small_iff {i : Int} : small i = true ↔ -(2 ^ 62) ≤ i ∧ i < 2 ^ 62 := by
  rw [small_eq]
  rw [Bool.and_eq_true, decide_eq_true_eq, decide_eq_true_eq]
def upInts (lo : Int) (n : Nat) : List W := (List.range n).map fun k => .d (.int (lo + (k : Nat)))
def intsDown (hi : Int) (n : Nat) : List W := (List.range n).map fun k => .d (.int (hi - 1 - (k : Nat)))
/-- an int; a text; a bool -/
@[simp] def W.int? : W → Option Int
  | .d (.int i) => some i
  | _ => none
@[simp] def W.str? : W → Option Str
  | .d (.str i) => some i
  | _ => none
theorem W.int?_some {w : W} {i : Int} (h : w.int? = some i) : w = .d (.int i) := by
  unfold W.int? at h
  split at h <;> simp_all
theorem W.str?_some {w : W} {i : Str} (h : w.str? = some i) : w = .d (.str i) := by
  unfold W.str? at h
  split at h <;> simp_all
@[simp] def rng2 (i j : Option Int) (h : Sto) : Re (Nat × Nxt) := match i, j with
  | some i, some j => if (small i && small j) = true then .ok ((j - i).toNat + 1, nL (upInts i (j - i).toNat)) h else .stuck
  | _, _ => .stuck
@[simp] def rng1 (j : Option Int) (h : Sto) : Re (Nat × Nxt) := match j with
  | some j => if small j = true then .ok (j.toNat + 1, nL (upInts 0 j.toNat)) h else .stuck
  | _ => .stuck
@[simp] def rngD (j : Option Int) (h : Sto) : Re (Nat × Nxt) := match j with
  | some j => if small j = true then .ok (j.toNat + 1, nL (intsDown j j.toNat)) h else .stuck
  | _ => .stuck
@[simp] def rngs1 (ws : List W) (h1 : Sto) : Re (Nat × Nxt) := match ws with
  | [x] => rng1 x.int? h1
  | _ => .stuck
@[simp] def rngs2 (ws : List W) (h1 : Sto) : Re (Nat × Nxt) := match ws with
  | [x, y] => rng2 x.int? y.int? h1
  | _ => .stuck
@[simp] def iRange1 (a : XA) : XI := fun r h => (a r h).bind rngs1
@[simp] def iRange2 (a : XA) : XI := fun r h => (a r h).bind rngs2
theorem rng1_inv {σ : L2.St} {fl : List Nat} {R : It → Hp → Prop} {h : Sto} {ws : List W} (p : Po g Z σ fl (RI g) H M R (rngs1 ws h)) : ∃ x j, ws = [x] ∧ x.int? = some j ∧ (-(2 ^ 62) ≤ j ∧ j < 2 ^ 62) ∧ Po g Z σ fl (RI g) H M R (.ok (j.toNat + 1, nL (upInts 0 j.toNat)) h) := by
  cases ws with
  | nil => exact p.elim
  | cons x t =>
    cases t with
    | cons y t => exact p.elim
    | nil =>
      have p : Po g Z σ fl (RI g) H M R (rng1 x.int? h) := p
      cases ex : x.int? with
      | none => rw [ex] at p; exact p.elim
      | some j =>
        rw [ex] at p
        have p : Po g Z σ fl (RI g) H M R (if small j = true then .ok (j.toNat + 1, nL (upInts 0 j.toNat)) h else .stuck) := p
        by_cases hj : small j = true
        · rw [if_pos hj] at p
          exact ⟨x, j, rfl, ex, small_iff.mp hj, p⟩
        · rw [if_neg hj] at p
          exact p.elim
theorem rng2_inv {σ : L2.St} {fl : List Nat} {R : It → Hp → Prop} {h : Sto} {ws : List W} (p : Po g Z σ fl (RI g) H M R (rngs2 ws h)) : ∃ x y i j, ws = [x, y] ∧ x.int? = some i ∧ y.int? = some j ∧ (-(2 ^ 62) ≤ i ∧ i < 2 ^ 62) ∧ (-(2 ^ 62) ≤ j ∧ j < 2 ^ 62) ∧ Po g Z σ fl (RI g) H M R (.ok ((j - i).toNat + 1, nL (upInts i (j - i).toNat)) h) := by
  cases ws with
  | nil => exact p.elim
  | cons x t =>
    cases t with
    | nil => exact p.elim
    | cons y t =>
      cases t with
      | cons _ _ => exact p.elim
      | nil =>
        have p : Po g Z σ fl (RI g) H M R (rng2 x.int? y.int? h) := p
        cases ex : x.int? with
        | none => rw [ex] at p; exact p.elim
        | some i =>
          cases ey : y.int? with
          | none => rw [ex, ey] at p; exact p.elim
          | some j =>
            rw [ex, ey] at p
            have p : Po g Z σ fl (RI g) H M R (if (small i && small j) = true then .ok ((j - i).toNat + 1, nL (upInts i (j - i).toNat)) h else .stuck) := p
            by_cases hj : (small i && small j) = true
            · rw [if_pos hj] at p
              rw [Bool.and_eq_true] at hj
              exact ⟨x, y, i, j, rfl, ex, ey, small_iff.mp hj.1, small_iff.mp hj.2, p⟩
            · rw [if_neg hj] at p
              exact p.elim
/-- reversed(range(n)) -/
@[simp] def iRevRange1 (a : XE) : XI := fun r h => (a r h).bind fun w h1 => rngD w.int? h1
theorem si_range1 {a : Expr} {ta : XA} {p : Pos} (hm : X.mg "range" = none) (ha : PA X [a] (rdA g Z ta)) (hg : Gl X "range" := by rfl) (hs : starEach [a] X.env = [(false, eval a X.env)] := by rfl) : PI X tg (.Call (.Name "range" p) [a] [] pos) (rdI g Z (iRange1 ta)) :=
  PI.imp (pi_range1 hg hm ha hs) fun σ H R ⟨r, h, M, fl, rs, rh, p⟩ => ⟨r, h, M, fl, rs, rh, Po.bind p fun ws h1 vs H1 M1 e1 rh1 rw1 p1 => by
    obtain ⟨x, j, rfl, ex, hj, p1⟩ := rng1_inv p1
    obtain ⟨v, rfl, ra⟩ := RWs.one rw1
    rw [W.int?_some ex] at ra
    obtain rfl := ra.int_inv
    exact ⟨j, rfl, hj.1, hj.2, p1 _ H1 M1 (Ext.refl _ _) rh1 ItOk.rng⟩⟩
theorem si_range2 {a b : Expr} {ta : XA} {p : Pos} (hm : X.mg "range" = none) (ha : PA X [a, b] (rdA g Z ta)) (hg : Gl X "range" := by rfl) (hs : starEach [a, b] X.env = [(false, eval a X.env), (false, eval b X.env)] := by rfl)
    (hs2 : starEach [b] X.env = [(false, eval b X.env)] := by rfl) : PI X tg (.Call (.Name "range" p) [a, b] [] pos) (rdI g Z (iRange2 ta)) :=
  PI.imp (pi_range2 hg hm ha hs hs2) fun σ H R ⟨r, h, M, fl, rs, rh, p⟩ => ⟨r, h, M, fl, rs, rh, Po.bind p fun ws h1 vs H1 M1 e1 rh1 rw1 p1 => by
    obtain ⟨x, y, i, j, rfl, ex, ey, hi, hj, p1⟩ := rng2_inv p1
    obtain ⟨v, u, rfl, ra, rb⟩ := RWs.two rw1
    rw [W.int?_some ex] at ra
    rw [W.int?_some ey] at rb
    obtain rfl := ra.int_inv
    obtain rfl := rb.int_inv
    exact ⟨i, j, rfl, ⟨hi.1, hi.2, hj.1, hj.2⟩, p1 _ H1 M1 (Ext.refl _ _) rh1 ItOk.rng⟩⟩
theorem intsDown_eq (j : Int) : intsDown j j.toNat = (List.range j.toNat).map fun i : Nat => W.d (.int ((0 + (((j - 0).toNat : Nat) : Int) - 1) + (i : Nat) * (-1))) := by
  unfold intsDown
  refine List.map_congr_left fun a ha => ?_
  have := List.mem_range.mp ha
  have e : j - 1 - (a : Int) = 0 + (((j - 0).toNat : Nat) : Int) - 1 + (a : Int) * (-1) := by omega
  rw [e]
theorem si_revRange1 {a : Expr} {xa : XE} {p q pos2 : Pos} (hm : X.mg "range" = none) (hr : X.mg "reversed" = none) (ha : PE X a (rdE g Z xa)) (hg : Gl X "range" := by rfl) (hg2 : Gl X "reversed" := by rfl)
    (hs : starEach [a] X.env = (false, eval a X.env) :: starEach [] X.env := by rfl) (hs2 : starEach [.Call (.Name "range" p) [a] [] pos] X.env = (false, eval (.Call (.Name "range" p) [a] [] pos) X.env) :: starEach [] X.env := by rfl) :
    PI X tg (.Call (.Name "reversed" q) [.Call (.Name "range" p) [a] [] pos] [] pos2) (rdI g Z (iRevRange1 xa)) :=
  PI.imp (pi_revR hg2 hr (prg_1 hg hm ha hs) hs2) fun σ H R ⟨r, h, M, fl, rs, rh, p⟩ => ⟨r, h, M, fl, rs, rh, Po.bind p fun w h1 v H1 M1 e1 rh1 rw1 p1 => by
    simp only [rngD] at p1
    cases ex : w.int? with
    | none => rw [ex] at p1; exact p1.elim
    | some j =>
      rw [ex] at p1
      rw [W.int?_some ex] at rw1
      obtain rfl := rw1.int_inv
      simp only at p1
      by_cases hj : small j = true
      · rw [if_pos hj] at p1
        have hj := small_iff.mp hj
        rw [intsDown_eq] at p1
        refine ⟨j, rfl, by decide, by decide, hj.1, hj.2, p1 _ H1 M1 (Ext.refl _ _) rh1 ?_⟩
        have e : (j - 0).toNat = j.toNat := by rw [Int.sub_zero]
        rw [e]
        exact ItOk.rngC
      · rw [if_neg hj] at p1
        exact p1.elim⟩
end
/-! ### while -/
def whileLoop (c : XT) (b : XS) : Nat → XS
  | 0, _, _ => .stuck
  | n + 1, r, h => (c r h).then r fun t h1 => if t = true then
      (match b r h1 with
      | .nx r2 h2 => whileLoop c b n r2 h2
      | .ct r2 h2 => whileLoop c b n r2 h2
      | .bk r2 h2 => .nx r2 h2
      | .rt w h2 => .rt w h2
      | .exc e r2 h2 => .exc e r2 h2
      | .stuck => .stuck)
    else .nx r h1
def sWhile (n : Nat) (c : XT) (b : XS) : XS := fun r h => whileLoop c b n r h
section
variable {X : Cx} {g : G} {Z : WX} {pos : Pos}
theorem ss_while {n : Nat} {c : Expr} {body : List Stmt} {xc : XT} {xb : XS} (hp : PassesOwn (model X.prog X.w) X.A X.env X.xe) (hc : PT X c (rdT g Z xc)) (hb : PSs X body (rdS g Z xb)) : PS X (.While c body [] pos) (rdS g Z (sWhile n xc xb)) :=
  PS.imp (ps_while hp hc hb) fun D σ H ⟨r, h, M, fl, rs, rh, p⟩ => by
    refine ⟨fun m σ' H' => ∃ r' h' M', RS g H' M' σ' r' ∧ RH g H' M' fl h' ∧ PoS g Z fl H' M' D (whileLoop xc xb m r' h'), ⟨n, r, h, M, rs, rh, p⟩, ?_⟩
    rintro m σ' H' ⟨r', h', M', rs', rh', p'⟩
    cases m with
    | zero => exact p'.elim
    | succ m =>
      simp only [whileLoop] at p'
      refine ⟨r', h', M', fl, rs', rh', Po.then rs' rh'.sub p' fun t h1 b H1 M1 e1 rs1 rh1 rb p1 => ?_⟩
      have rb : b = t := rb
      subst rb
      cases b with
      | false => exact p1 _ H1 M1 (Ext.refl _ _) rs1 rh1
      | true =>
        simp only [if_true] at p1 ⊢
        refine ⟨fun σ2 H2 => ∃ r2 h2 M2, RS g H2 M2 σ2 r2 ∧ RH g H2 M2 fl h2 ∧ PoS g Z fl H2 M2 D (whileLoop xc xb m r2 h2), fun σ2 H2 z => ⟨m, Nat.lt_succ_self m, z⟩, r', h1, M1, fl, rs1, rh1, ?_⟩
        cases e3 : xb r' h1 with
        | nx r4 h4 =>
          rw [e3] at p1
          exact fun σ4 H4 M4 x4 rs4 rh4 => ⟨r4, h4, M4, rs4, rh4, PoS.ext x4 p1⟩
        | ct r4 h4 =>
          rw [e3] at p1
          exact fun σ4 H4 M4 x4 rs4 rh4 => ⟨r4, h4, M4, rs4, rh4, PoS.ext x4 p1⟩
        | bk r4 h4 => rw [e3] at p1; exact p1
        | rt w4 h4 => rw [e3] at p1; exact p1
        | exc e4 r4 h4 => rw [e3] at p1; exact p1
        | stuck => rw [e3] at p1; exact p1
end
end
end Xs

/-! XsD: operators, displays, items, slices, built-ins. -/
namespace Xs
noncomputable section
open PySem PySem.Spec PyProof.Rows L2
theorem lim_ex : ∃ n : Nat, n = 16777216 := ⟨_, rfl⟩
/-- the longest list; sealed -/
def lim : Nat := Classical.choose lim_ex
theorem lim_eq : lim = 16777216 := Classical.choose_spec lim_ex
theorem lim_line : lim = sizeLine := lim_eq.trans (by decide)
theorem w64_ex : ∃ f : Int → Bool, f = fun i => decide (-(2 ^ 64) < i) && decide (i < 2 ^ 64) := ⟨_, rfl⟩
/-- a factor that is not too long; sealed -/
def w64 : Int → Bool := Classical.choose w64_ex
theorem w64_eq (i : Int) : w64 i = (decide (-(2 ^ 64) < i) && decide (i < 2 ^ 64)) := congrFun (Classical.choose_spec w64_ex) i
@[simp] theorem w64_of {i : Int} (h1 : -18446744073709551616 < i) (h2 : i < 18446744073709551616) : w64 i = true := by
  rw [w64_eq, Bool.and_eq_true, decide_eq_true_eq, decide_eq_true_eq]
  exact ⟨by omega, by omega⟩
/-- a list of values that are data -/
@[simp] def pureL : List W → Option (List D)
  | [] => some []
  | .d x :: r => (pureL r).map (x :: ·)
  | _ :: _ => none
@[simp] theorem pureL_map (ds : List D) : pureL (ds.map .d) = some ds := by
  induction ds with
  | nil => rfl
  | cons d ds ih => simp [ih]
theorem pureL_some : ∀ {ws : List W} {ds : List D}, pureL ws = some ds → ws = ds.map .d
  | [], _, h => by cases h; rfl
  | .d x :: r, ds, h => by
    simp only [pureL, Option.map_eq_some_iff] at h
    obtain ⟨rs, h1, rfl⟩ := h
    rw [pureL_some h1]
    rfl
  | .l _ :: _, _, h => nomatch h
  | .s _ :: _, _, h => nomatch h
  | .f _ :: _, _, h => nomatch h
  | .fn _ :: _, _, h => nomatch h
  | .x _ _ :: _, _, h => nomatch h
  | .t _ :: _, _, h => nomatch h
  | .ty _ :: _, _, h => nomatch h
/-- what a list holds -/
@[simp] def lstOf (h : Sto) : W → Option (List W)
  | .d (.lst ds) => some (ds.map .d)
  | .s ds => some (ds.map .d)
  | .l k => match h.o[k]? with
    | some (.lst ws) => some ws
    | _ => none
  | _ => none
/-- .. a list or a tuple -/
@[simp] def seqOf (h : Sto) : W → Option (List W)
  | .d (.tup ds) => some (ds.map .d)
  | w => lstOf h w
section
variable {X : Cx} {g : G} {Z : WX} {a b c : Expr} {xa xb xc : XE} {pos : Pos} {H : Hp} {M : Mu} {fl : List Nat} {h : Sto} {v u : V} {w y : W} {σ : L2.St} {Q : VK}
theorem RWs.toD {vs : List V} : ∀ {ds : List D}, RWs g H M vs (ds.map .d) → RDs g H M.B vs ds := fun {ds} q => by
  induction ds generalizing vs with
  | nil => cases q; exact .nil
  | cons d ds ih =>
    cases q with
    | cons a b =>
      cases a with
      | d a => exact .cons a (ih b)
theorem lstOf_sq {ws : List W} (rh : RH g H M fl h) (r : RW g H M v w) (e : lstOf h w = some ws) : ∃ a xs, v = .ref a ∧ SqL g.K H a xs ∧ RWs g H M xs ws := by
  cases w with
  | d x =>
    cases x with
    | lst ds =>
      cases e
      obtain ⟨a, xs, rfl, ht, hd⟩ := r.lst_inv
      exact ⟨a, xs, rfl, ht.sq, hd.toW⟩
    | _ => cases e
  | s ds =>
    cases e
    obtain ⟨a, xs, rfl, ht, hd⟩ := r.s_inv
    exact ⟨a, xs, rfl, ht.sq, hd.toW⟩
  | l k =>
    obtain ⟨a, rfl, e1⟩ := r.l_inv
    simp only [lstOf] at e
    split at e
    · rename_i ws' ew
      cases e
      obtain ⟨vs, hv, rv⟩ := rh.lst e1 ew
      exact ⟨a, vs, rfl, SqL.of hv, rv⟩
    · cases e
  | _ => cases e
/-- .. that stands in the heap -/
theorem lstOf_h {ws : List W} (rh : RH g H M fl h) (r : RW g H M v w) (hs : ∀ ds, w ≠ .s ds) (e : lstOf h w = some ws) : ∃ a xs, v = .ref a ∧ H a = some (.lst xs) ∧ RWs g H M xs ws := by
  cases w with
  | d x =>
    cases x with
    | lst ds =>
      cases e
      obtain ⟨a, xs, rfl, ht, hd⟩ := r.lst_inv
      exact ⟨a, xs, rfl, ht.1, hd.toW⟩
    | _ => cases e
  | s ds => exact absurd rfl (hs ds)
  | l k =>
    obtain ⟨a, rfl, e1⟩ := r.l_inv
    simp only [lstOf] at e
    split at e
    · rename_i ws' ew
      cases e
      obtain ⟨vs, hv, rv⟩ := rh.lst e1 ew
      exact ⟨a, vs, rfl, hv, rv⟩
    · cases e
  | _ => cases e
theorem seqOf_sq {ws : List W} (rh : RH g H M fl h) (r : RW g H M v w) (e : seqOf h w = some ws) : ∃ a xs, v = .ref a ∧ (SqL g.K H a xs ∨ SqT g.K H a xs) ∧ RWs g H M xs ws := by
  by_cases ht : ∃ ds, w = .d (.tup ds)
  · obtain ⟨ds, rfl⟩ := ht
    cases e
    obtain ⟨a, xs, rfl, ht, hd⟩ := r.tup_inv
    exact ⟨a, xs, rfl, .inr ht, hd.toW⟩
  · have e' : lstOf h w = some ws := by
      cases w with
      | d x => cases x <;> first | exact e | exact absurd ⟨_, rfl⟩ ht
      | _ => exact e
    obtain ⟨a, xs, h1, h2, h3⟩ := lstOf_sq rh r e'
    exact ⟨a, xs, h1, .inl h2, h3⟩
/-- the end where a new object comes that stays -/
theorem po_tup {ds : List D} {xs : List V} {p : Addr} (rh : RH g H M fl h) (q : Po g Z σ fl (RW g) H M Q (.ok (.d (.tup ds)) h)) (r : RDs g H M.B xs ds) (hp : H p = none) : Q (.ref p) (upd H p (.tup xs)) := by
  have x : Ext H M (upd H p (.tup xs)) M := Ext.fresh hp rh
  exact q _ _ M x (rh.fresh hp) (.d (.tup (SqT.of upd_same) (RDs.mono x rh.sub r)))
theorem po_lst {ds : List D} {xs : List V} {p : Addr} (rh : RH g H M fl h) (q : Po g Z σ fl (RW g) H M Q (.ok (.d (.lst ds)) h)) (r : RDs g H M.B xs ds) (hp : H p = none) : Q (.ref p) (upd H p (.lst xs)) := by
  have x : Ext H M (upd H p (.lst xs)) (M.fz p) := Ext.freshF hp rh
  exact q _ _ (M.fz p) x (rh.freshF hp) (.d (.lst ⟨upd_same, fun z => z.2 rfl⟩ (RDs.mono x rh.sub r)))
/-- .. that may change -/
theorem po_new {ws : List W} {xs : List V} {p : Addr} (rh : RH g H M fl h) (q : Po g Z σ fl (RW g) H M Q (.ok (.l h.o.length) ⟨h.o ++ [.lst ws], h.c⟩)) (r : RWs g H M xs ws) (hp : H p = none) : Q (.ref p) (upd H p (.lst xs)) := by
  have x : Ext H M (upd H p (.lst xs)) (M.add p) := Ext.add hp rh
  exact q _ _ (M.add p) x (rh.add hp (show RWs g _ _ xs ws from RWs.mono x rh.sub r)) (RW.added rh)

/-! ### displays -/
@[simp] def mkTup (ws : List W) (h : Sto) : Re W := match pureL ws with
  | some ds => if ds.length ≤ lim then .ok (.d (.tup ds)) h else .stuck
  | none => .stuck
@[simp] def mkLst (ws : List W) (h : Sto) : Re W := match pureL ws with
  | some ds => if ds.length ≤ lim then .ok (.d (.lst ds)) h else .stuck
  | none => .stuck
@[simp] def mkNew (ws : List W) (h : Sto) : Re W := if ws.length ≤ lim then .ok (.l h.o.length) ⟨h.o ++ [.lst ws], h.c⟩ else .stuck
theorem se_tup {es : List Expr} {ta : XA} {x1} (ha : PA X es (rdA g Z ta)) : PE X (.Tuple es x1 pos) (rdE g Z (xApp mkTup ta)) :=
  PE.imp (pe_tup ha) fun σ H Q ⟨r, h, M, fl, rs, rh, p⟩ => ⟨r, h, M, fl, rs, rh, Po.bind p fun ws h1 vs H1 M1 e1 rh1 rw1 p1 => by
    simp only [mkTup] at p1
    cases e : pureL ws with
    | none => rw [e] at p1; exact p1.elim
    | some ds =>
      rw [e] at p1
      rw [pureL_some e] at rw1
      have hd := RWs.toD rw1
      simp only at p1
      by_cases hl : ds.length ≤ lim
      · rw [if_pos hl] at p1
        exact ⟨by rw [hd.len, ← lim_line]; exact hl, fun a ha => po_tup rh1 p1 hd ha⟩
      · rw [if_neg hl] at p1
        exact p1.elim⟩
theorem se_lst {es : List Expr} {ta : XA} (ha : PA X es (rdA g Z ta)) : PE X (.List es pos) (rdE g Z (xApp mkLst ta)) :=
  PE.imp (pe_lst ha) fun σ H Q ⟨r, h, M, fl, rs, rh, p⟩ => ⟨r, h, M, fl, rs, rh, Po.bind p fun ws h1 vs H1 M1 e1 rh1 rw1 p1 => by
    simp only [mkLst] at p1
    cases e : pureL ws with
    | none => rw [e] at p1; exact p1.elim
    | some ds =>
      rw [e] at p1
      rw [pureL_some e] at rw1
      have hd := RWs.toD rw1
      simp only at p1
      by_cases hl : ds.length ≤ lim
      · rw [if_pos hl] at p1
        exact ⟨by rw [hd.len, ← lim_line]; exact hl, fun a ha => po_lst rh1 p1 hd ha⟩
      · rw [if_neg hl] at p1
        exact p1.elim⟩
theorem se_new {es : List Expr} {ta : XA} (ha : PA X es (rdA g Z ta)) : PE X (.List es pos) (rdE g Z (xApp mkNew ta)) :=
  PE.imp (pe_lst ha) fun σ H Q ⟨r, h, M, fl, rs, rh, p⟩ => ⟨r, h, M, fl, rs, rh, Po.bind p fun ws h1 vs H1 M1 e1 rh1 rw1 p1 => by
    have p1 : Po g Z σ fl (RW g) H1 M1 Q (if ws.length ≤ lim then .ok (.l h1.o.length) ⟨h1.o ++ [.lst ws], h1.c⟩ else .stuck) := p1
    by_cases hl : ws.length ≤ lim
    · rw [if_pos hl] at p1
      exact ⟨by rw [RWs.length rw1, ← lim_line]; exact hl, fun a ha => po_new rh1 p1 rw1 ha⟩
    · rw [if_neg hl] at p1
      exact p1.elim⟩

/-! ### operators on ints -/
@[simp] def i2 (f : Int → Int → Re W) (w y : W) : Re W := match w.int?, y.int? with
  | some i, some j => f i j
  | _, _ => .stuck
theorem i2_inv {F : Int → Int → Re W} (p : Po g Z σ fl (RW g) H M Q (i2 F w y)) (rw : RW g H M v w) (ry : RW g H M u y) : ∃ i j, v = .int i ∧ u = .int j ∧ Po g Z σ fl (RW g) H M Q (F i j) := by
  simp only [i2] at p
  cases ex : w.int? with
  | none => rw [ex] at p; exact p.elim
  | some i =>
    cases ey : y.int? with
    | none => rw [ex, ey] at p; exact p.elim
    | some j =>
      rw [ex, ey] at p
      rw [W.int?_some ex] at rw
      rw [W.int?_some ey] at ry
      exact ⟨i, j, rw.int_inv, ry.int_inv, p⟩
@[simp] def fSub (w y : W) (h : Sto) : Re W := i2 (fun i j => .ok (.d (.int (i - j))) h) w y
@[simp] def fMul (w y : W) (h : Sto) : Re W := i2 (fun i j => if (w64 i || w64 j) = true then .ok (.d (.int (i * j))) h else .stuck) w y
@[simp] def fDiv (w y : W) (h : Sto) : Re W := i2 (fun i j => if decide (0 < j) && decide (j < 1073741824) then .ok (.d (.int (i / j))) h else .stuck) w y
@[simp] def fMod (w y : W) (h : Sto) : Re W := i2 (fun i j => if decide (0 < j) then .ok (.d (.int (i % j))) h else .stuck) w y
@[simp] def fPow (w y : W) (h : Sto) : Re W := i2 (fun i j => if decide (0 ≤ j) && decide (j ≤ 1000000) && decide (i.natAbs < 2 ^ 64) then .ok (.d (.int (i ^ j.toNat))) h else .stuck) w y
@[simp] def fLt (w y : W) (h : Sto) : Re W := i2 (fun i j => .ok (.d (.bl (decide (i < j)))) h) w y
@[simp] def fLe (w y : W) (h : Sto) : Re W := i2 (fun i j => .ok (.d (.bl (decide (i ≤ j)))) h) w y
@[simp] def fGt (w y : W) (h : Sto) : Re W := i2 (fun i j => .ok (.d (.bl (decide (j < i)))) h) w y
@[simp] def fGe (w y : W) (h : Sto) : Re W := i2 (fun i j => .ok (.d (.bl (decide (j ≤ i)))) h) w y
theorem po_int {i : Int} (rh : RH g H M fl h) (p : Po g Z σ fl (RW g) H M Q (.ok (.d (.int i)) h)) : Q (.int i) H := p _ H M (Ext.refl H M) rh (.d (.int i))
theorem po_bl {i : Bool} (rh : RH g H M fl h) (p : Po g Z σ fl (RW g) H M Q (.ok (.d (.bl i)) h)) : Q (.bl i) H := p _ H M (Ext.refl H M) rh (.d (.bl i))
theorem po_if {c : Bool} {x : Re W} (p : Po g Z σ fl (RW g) H M Q (if c = true then x else .stuck)) : c = true ∧ Po g Z σ fl (RW g) H M Q x := by
  cases c with
  | true => exact ⟨rfl, p⟩
  | false => exact p.elim
theorem po_ifP {c : Prop} [Decidable c] {x : Re W} (p : Po g Z σ fl (RW g) H M Q (if c then x else .stuck)) : c ∧ Po g Z σ fl (RW g) H M Q x := by
  by_cases hc : c
  · rw [if_pos hc] at p
    exact ⟨hc, p⟩
  · rw [if_neg hc] at p
    exact p.elim
theorem o_sub : Op2 X g Z (binaryOp .Sub) fSub := ⟨_, op_sub, fun rh rx ry p => by
  obtain ⟨i, j, rfl, rfl, p⟩ := i2_inv p rx ry
  exact ⟨i, j, rfl, rfl, po_int rh p⟩⟩
theorem mul_ok {i j : Int} (q : (w64 i || w64 j) = true) : CMul i j := by
  rw [w64_eq, w64_eq, Bool.or_eq_true, Bool.and_eq_true, Bool.and_eq_true, decide_eq_true_eq, decide_eq_true_eq, decide_eq_true_eq, decide_eq_true_eq] at q
  exact q
theorem o_div : Op2 X g Z (binaryOp .FloorDiv) fDiv := ⟨_, op_fdiv, fun rh rx ry p => by
  obtain ⟨i, j, rfl, rfl, p⟩ := i2_inv p rx ry
  obtain ⟨q, p⟩ := po_if p
  rw [Bool.and_eq_true, decide_eq_true_eq, decide_eq_true_eq] at q
  exact ⟨i, j, rfl, rfl, q, po_int rh p⟩⟩
theorem o_mod : Op2 X g Z (binaryOp .Mod) fMod := ⟨_, op_mod, fun rh rx ry p => by
  obtain ⟨i, j, rfl, rfl, p⟩ := i2_inv p rx ry
  obtain ⟨q, p⟩ := po_if p
  rw [decide_eq_true_eq] at q
  exact ⟨i, j, rfl, rfl, q, po_int rh p⟩⟩
theorem o_pow : Op2 X g Z (binaryOp .Pow) fPow := ⟨_, op_pow, fun rh rx ry p => by
  obtain ⟨i, j, rfl, rfl, p⟩ := i2_inv p rx ry
  obtain ⟨q, p⟩ := po_if p
  rw [Bool.and_eq_true, Bool.and_eq_true, decide_eq_true_eq, decide_eq_true_eq, decide_eq_true_eq] at q
  exact ⟨i, j, rfl, rfl, ⟨q.1.1, q.1.2, q.2⟩, po_int rh p⟩⟩
theorem o_lt : Op2 X g Z (compareOp .Lt) fLt := ⟨_, op_lt, fun rh rx ry p => by
  obtain ⟨i, j, rfl, rfl, p⟩ := i2_inv p rx ry
  exact ⟨i, j, rfl, rfl, po_bl rh p⟩⟩
theorem o_le : Op2 X g Z (compareOp .LtE) fLe := ⟨_, op_le, fun rh rx ry p => by
  obtain ⟨i, j, rfl, rfl, p⟩ := i2_inv p rx ry
  exact ⟨i, j, rfl, rfl, po_bl rh p⟩⟩
theorem o_gt : Op2 X g Z (compareOp .Gt) fGt := ⟨_, op_gt, fun rh rx ry p => by
  obtain ⟨i, j, rfl, rfl, p⟩ := i2_inv p rx ry
  exact ⟨i, j, rfl, rfl, po_bl rh p⟩⟩
theorem o_ge : Op2 X g Z (compareOp .GtE) fGe := ⟨_, op_ge, fun rh rx ry p => by
  obtain ⟨i, j, rfl, rfl, p⟩ := i2_inv p rx ry
  exact ⟨i, j, rfl, rfl, po_bl rh p⟩⟩
/-- unary minus -/
@[simp] def fNeg (w : W) (h : Sto) : Re W := match w.int? with
  | some i => .ok (.d (.int (-i))) h
  | none => .stuck
theorem se_neg (ha : PE X a (rdE g Z xa)) : PE X (.UnaryOp .USub a pos) (rdE g Z (xUn fNeg xa)) :=
  PE.imp (pe_un un_neg ha) fun σ H Q ⟨r, h, M, fl, rs, rh, p⟩ => ⟨r, h, M, fl, rs, rh, Po.bind p fun w h1 v H1 M1 e1 rh1 rw1 p1 => by
    simp only [fNeg] at p1
    cases e : w.int? with
    | none => rw [e] at p1; exact p1.elim
    | some i =>
      rw [e] at p1
      rw [W.int?_some e] at rw1
      obtain rfl := rw1.int_inv
      exact ⟨i, rfl, po_int rh1 p1⟩⟩
end
end
end Xs

/-! XsE: data compared, shown; items, slices, built-ins. -/
namespace Xs
noncomputable section
open PySem PySem.Spec PyProof.Rows L2
mutual
def D.py : D → PyData
  | .non => .none
  | .bl b => .bool b
  | .int i => .int i
  | .str s => .str s
  | .tup xs => .tuple (D.pys xs)
  | .lst xs => .list (D.pys xs)
def D.pys : List D → List PyData
  | [] => []
  | x :: r => x.py :: D.pys r
end
mutual
/-- == -/
@[simp] def D.eq : D → D → Bool
  | .non, .non => true
  | .bl a, .bl b => a == b
  | .bl a, .int j => (if a then 1 else 0) == j
  | .int i, .bl b => i == (if b then 1 else 0)
  | .int i, .int j => i == j
  | .str x, .str y => x == y
  | .lst xs, .lst ys => D.eqs xs ys
  | .tup xs, .tup ys => D.eqs xs ys
  | .non, .bl _ | .non, .int _ | .non, .str _ | .non, .lst _ | .non, .tup _ => false
  | .bl _, .non | .bl _, .str _ | .bl _, .lst _ | .bl _, .tup _ => false
  | .int _, .non | .int _, .str _ | .int _, .lst _ | .int _, .tup _ => false
  | .str _, .non | .str _, .bl _ | .str _, .int _ | .str _, .lst _ | .str _, .tup _ => false
  | .lst _, .non | .lst _, .bl _ | .lst _, .int _ | .lst _, .str _ | .lst _, .tup _ => false
  | .tup _, .non | .tup _, .bl _ | .tup _, .int _ | .tup _, .str _ | .tup _, .lst _ => false
@[simp] def D.eqs : List D → List D → Bool
  | [], [] => true
  | x :: xs, y :: ys => x.eq y && D.eqs xs ys
  | [], _ :: _ => false
  | _ :: _, [] => false
end
mutual
@[simp] def D.depth : D → Nat
  | .lst xs => D.depths xs + 1
  | .tup xs => D.depths xs + 1
  | .non | .bl _ | .int _ | .str _ => 0
@[simp] def D.depths : List D → Nat
  | [] => 0
  | x :: r => max x.depth (D.depths r)
end
mutual
theorem D.eq_py : ∀ x y : D, x.eq y = PyData.eqv x.py y.py
  | .non, y => by cases y <;> simp [D.py, PyData.eqv]
  | .bl _, y => by cases y <;> simp [D.py, PyData.eqv]
  | .int _, y => by cases y <;> simp [D.py, PyData.eqv]
  | .str _, y => by cases y <;> simp [D.py, PyData.eqv]
  | .lst xs, y => by
    cases y with
    | lst ys => simp only [D.eq, D.py, PyData.eqv]; exact D.eqs_py xs ys
    | _ => simp [D.py, PyData.eqv]
  | .tup xs, y => by
    cases y with
    | tup ys => simp only [D.eq, D.py, PyData.eqv]; exact D.eqs_py xs ys
    | _ => simp [D.py, PyData.eqv]
theorem D.eqs_py : ∀ xs ys : List D, D.eqs xs ys = PyData.eqvAll (D.pys xs) (D.pys ys)
  | [], [] => by simp [D.pys, PyData.eqvAll]
  | [], _ :: _ => by simp [D.pys, PyData.eqvAll]
  | _ :: _, [] => by simp [D.pys, PyData.eqvAll]
  | x :: xs, y :: ys => by simp only [D.eqs, D.pys, PyData.eqvAll]; rw [D.eq_py x y, D.eqs_py xs ys]
end
mutual
theorem D.depth_py : ∀ x : D, x.py.depth = x.depth
  | .non => by simp [D.py, PyData.depth]
  | .bl _ => by simp [D.py, PyData.depth]
  | .int _ => by simp [D.py, PyData.depth]
  | .str _ => by simp [D.py, PyData.depth]
  | .lst xs => by simp [D.py, PyData.depth, D.depths_py xs]
  | .tup xs => by simp [D.py, PyData.depth, D.depths_py xs]
theorem D.depths_py : ∀ x : List D, PyData.depthAll (D.pys x) = D.depths x
  | [] => by simp [D.pys, PyData.depthAll]
  | x :: r => by simp [D.pys, PyData.depthAll, D.depth_py x, D.depths_py r]
end
section
variable {g : G} {H : Hp} {B : Addr → Prop}
mutual
theorem RD.dp {v : V} {x : D} : RD g H B v x → Dp g.K H v x.py
  | .non => .non
  | .bl b => .bl b
  | .int i => .int i
  | .str s _ => .str s
  | .tup h1 h2 => by rw [D.py]; exact .tup h1 (RDs.dp h2)
  | .lst h1 h2 => by rw [D.py]; exact .lst h1.sq (RDs.dp h2)
theorem RDs.dp {v : List V} {x : List D} : RDs g H B v x → DpAll g.K H v (D.pys x)
  | .nil => .nil
  | .cons a b => .cons (RD.dp a) (RDs.dp b)
end
mutual
theorem RD.lay {v : V} {x : D} : RD g H B v x → x.py.canLay0 = true
  | .non => by simp [D.py, PyData.canLay0]
  | .bl b => by simp [D.py, PyData.canLay0]
  | .int i => by simp [D.py, PyData.canLay0]
  | .str s h => by simpa [D.py, PyData.canLay0] using h
  | .tup h1 h2 => by simpa [D.py, PyData.canLay0] using RDs.lay h2
  | .lst h1 h2 => by simpa [D.py, PyData.canLay0] using RDs.lay h2
theorem RDs.lay {v : List V} {x : List D} : RDs g H B v x → PyData.canLayAll0 (D.pys x) = true
  | .nil => by simp [D.pys, PyData.canLayAll0]
  | .cons a b => by simp [D.pys, PyData.canLayAll0, RD.lay a, RDs.lay b]
end
end
/-- a value as data -/
@[simp] def dataOf (h : Sto) : W → Option D
  | .d x => some x
  | .s ds => some (.lst ds)
  | .l k => match h.o[k]? with
    | some (.lst ws) => (pureL ws).map .lst
    | _ => none
  | _ => none
section
variable {X : Cx} {g : G} {Z : WX} {a b c : Expr} {xa xb xc : XE} {pos : Pos} {H : Hp} {M : Mu} {fl : List Nat} {h : Sto} {v u : V} {w y : W} {σ : L2.St} {Q : VK}
theorem dataOf_dp {x : D} (rh : RH g H M fl h) (r : RW g H M v w) (e : dataOf h w = some x) : Dp g.K H v x.py ∧ x.py.canLay0 = true := by
  cases w with
  | d x' =>
    cases e
    cases r with
    | d r => exact ⟨r.dp, r.lay⟩
  | s ds =>
    cases e
    obtain ⟨a, xs, rfl, ht, hd⟩ := r.s_inv
    exact ⟨by rw [D.py]; exact .lst ht.sq hd.dp, by simpa [D.py, PyData.canLay0] using hd.lay⟩
  | l k =>
    obtain ⟨a, rfl, e1⟩ := r.l_inv
    simp only [dataOf] at e
    split at e
    · rename_i ws ew
      obtain ⟨vs, hv, rv⟩ := rh.lst e1 ew
      simp only [Option.map_eq_some_iff] at e
      obtain ⟨ds, e2, rfl⟩ := e
      rw [pureL_some e2] at rv
      have hd := RWs.toD rv
      exact ⟨by rw [D.py]; exact .lst (SqL.of hv) hd.dp, by simpa [D.py, PyData.canLay0] using hd.lay⟩
    · cases e
  | _ => cases e
/-- == of data, one of which is not deep -/
def rEqM (K : PySem.W.Frag) (neg : Bool) : R2 := fun x y H Q => ∃ d e, Dp K H x d ∧ Dp K H y e ∧ d.canLay0 = true ∧ e.canLay0 = true ∧ min d.depth e.depth ≤ 64 ∧ Q (.bl (if neg then !PyData.eqv d e else PyData.eqv d e)) H
theorem op_eqM (hu : X.A.units + 64 < cLine) : OpR X (compareOp .Eq) (rEqM X.K false) := by
  intro pins s σ H x y v u Q I rx ry h
  obtain ⟨d, e, hd, he, sd, se, hm, q⟩ := h
  obtain ⟨as, r1⟩ := Dp.reads I d x v hd rx
  obtain ⟨bs, r2⟩ := Dp.reads I e y u he ry
  exact SeqAt.compareEq_reads r1 r2 sd se (by omega) ⟨.bl _, H, I, rfl, q⟩
theorem op_neM (hu : X.A.units + 64 < cLine) : OpR X (compareOp .NotEq) (rEqM X.K true) := by
  intro pins s σ H x y v u Q I rx ry h
  obtain ⟨d, e, hd, he, sd, se, hm, q⟩ := h
  obtain ⟨as, r1⟩ := Dp.reads I d x v hd rx
  obtain ⟨bs, r2⟩ := Dp.reads I e y u he ry
  exact SeqAt.compareNe_reads r1 r2 sd se (by omega) ⟨.bl _, H, I, rfl, q⟩
@[simp] def d2 (f : D → D → Re W) (a b : Option D) : Re W := match a, b with
  | some x, some y => f x y
  | _, _ => .stuck
@[simp] def shal (x y : D) : Bool := decide (x.depth ≤ 64) || decide (y.depth ≤ 64)
@[simp] def W.t? : W → Option Str
  | .t z => some z
  | _ => none
@[simp] def fEqT (neg : Bool) (w y : W) (h : Sto) : Re W := match w.t?, y.t? with
  | some a, some b => .ok (.d (.bl (if neg then !decide (a = b) else decide (a = b)))) h
  | _, _ => .stuck
theorem W.t?_some {w : W} {z : Str} (e : w.t? = some z) : w = .t z := by
  unfold W.t? at e
  split at e <;> simp_all
@[simp] def fEq (w y : W) (h : Sto) : Re W := d2 (fun x y => if shal x y = true then .ok (.d (.bl (x.eq y))) h else .stuck) (dataOf h w) (dataOf h y)
@[simp] def fNe (w y : W) (h : Sto) : Re W := d2 (fun x y => if shal x y = true then .ok (.d (.bl (!x.eq y))) h else .stuck) (dataOf h w) (dataOf h y)
theorem d2_inv {F : D → D → Re W} {a b : Option D} (p : Po g Z σ fl (RW g) H M Q (d2 F a b)) : ∃ x y, a = some x ∧ b = some y ∧ Po g Z σ fl (RW g) H M Q (F x y) := by
  cases a with
  | none => exact p.elim
  | some x =>
    cases b with
    | none => exact p.elim
    | some y => exact ⟨x, y, rfl, rfl, p⟩
theorem shal_min {x y : D} (h : shal x y = true) : min x.py.depth y.py.depth ≤ 64 := by
  rw [D.depth_py, D.depth_py]
  simp only [shal, Bool.or_eq_true, decide_eq_true_eq] at h
  omega
theorem o_eq (hu : X.A.units + 64 < cLine) (hK : X.K = g.K := by rfl) : Op2 X g Z (compareOp .Eq) fEq := ⟨_, op_eqM hu, fun rh rx ry p => by
  obtain ⟨x, y, e1, e2, p⟩ := d2_inv p
  obtain ⟨q, p⟩ := po_if p
  obtain ⟨d1, l1⟩ := dataOf_dp rh rx e1
  obtain ⟨d2, l2⟩ := dataOf_dp rh ry e2
  rw [hK]
  exact ⟨_, _, d1, d2, l1, l2, shal_min q, by rw [← D.eq_py]; exact po_bl rh p⟩⟩
theorem o_ne (hu : X.A.units + 64 < cLine) (hK : X.K = g.K := by rfl) : Op2 X g Z (compareOp .NotEq) fNe := ⟨_, op_neM hu, fun rh rx ry p => by
  obtain ⟨x, y, e1, e2, p⟩ := d2_inv p
  obtain ⟨q, p⟩ := po_if p
  obtain ⟨d1, l1⟩ := dataOf_dp rh rx e1
  obtain ⟨d2, l2⟩ := dataOf_dp rh ry e2
  rw [hK]
  exact ⟨_, _, d1, d2, l1, l2, shal_min q, by rw [← D.eq_py]; exact po_bl rh p⟩⟩
theorem fEqT_ok {neg : Bool} (rh : RH g H M fl h) (rx : RW g H M v w) (ry : RW g H M u y) (p : Po g Z σ fl (RW g) H M Q (fEqT neg w y h)) : ∃ a b, v = .str a ∧ u = .str b ∧ Q (.bl (if neg then !decide (a = b) else decide (a = b))) H := by
  simp only [fEqT] at p
  cases e1 : w.t? with
  | none => rw [e1] at p; exact p.elim
  | some a =>
    cases e2 : y.t? with
    | none => rw [e1, e2] at p; exact p.elim
    | some b =>
      rw [e1, e2] at p
      rw [W.t?_some e1] at rx
      rw [W.t?_some e2] at ry
      cases rx
      cases ry
      exact ⟨a, b, rfl, rfl, po_bl rh p⟩
theorem dec_strV {a b : Str} : decide (V.str a = V.str b) = decide (a = b) := by
  by_cases e : a = b
  · subst e; simp
  · rw [decide_eq_false e, decide_eq_false (fun q => e (V.str.inj q))]
theorem o_eqT : Op2 X g Z (compareOp .Eq) (fEqT false) := ⟨_, op_eq, fun rh rx ry p => by
  obtain ⟨a, b, rfl, rfl, q⟩ := fEqT_ok rh rx ry p
  exact ⟨rfl, by rw [dec_strV]; exact q⟩⟩
theorem o_neT : Op2 X g Z (compareOp .NotEq) (fEqT true) := ⟨_, op_ne, fun rh rx ry p => by
  obtain ⟨a, b, rfl, rfl, q⟩ := fEqT_ok rh rx ry p
  exact ⟨rfl, by rw [dec_strV]; exact q⟩⟩
end
end
end Xs

/-! XsF: items, slices, stores, methods of lists. -/
namespace Xs
noncomputable section
open PySem PySem.Spec PyProof.Rows L2
@[simp] def W.key? : W → Option Key
  | .d (.int i) => some (.inl i)
  | .d (.str z) => some (.inr z)
  | _ => none
@[simp] def W.isD : W → Bool
  | .l _ => false
  | _ => true
/-- a table's entry -/
def look {α : Type} (kvs : List (Key × α)) (k : Key) : Option α := (kvs.find? fun kv => decide (kv.1 = k)).map (·.2)
/-- what a dict holds -/
@[simp] def dctOf (h : Sto) : W → Option (List (Key × W))
  | .f kvs => some (kvs.map fun p => (p.1, .d p.2))
  | .l k => match h.o[k]? with
    | some (.dct kvs) => some kvs
    | _ => none
  | _ => none
section
variable {X : Cx} {g : G} {Z : WX} {a b c : Expr} {xa xb xc : XE} {pos : Pos} {H : Hp} {M : Mu} {fl : List Nat} {h : Sto} {v u : V} {w y : W} {σ : L2.St} {Q : VK}
theorem W.key?_some {k : Key} (e : y.key? = some k) (r : RW g H M u y) : u = kV k := by
  cases y with
  | d x =>
    cases x with
    | int i => cases e; exact r.int_inv
    | str s => cases e; exact r.str_inv.1
    | _ => cases e
  | _ => cases e
theorem RDk.toW {κ : Type} {vs : List (κ × V)} {ds : List (κ × D)} : RDk g H M.B vs ds → RWk g H M vs (ds.map fun p => (p.1, .d p.2))
  | .nil => .nil
  | .cons a b => .cons ⟨rfl, .d a⟩ (RDk.toW b)
theorem RWk.look {vs : List (Key × V)} {ws : List (Key × W)} (q : RWk g H M vs ws) (k : Key) : (look ws k = none ∧ valV vs k = none) ∨ ∃ v w, look ws k = some w ∧ valV vs k = some v ∧ RW g H M v w := by
  induction q with
  | nil => exact .inl ⟨rfl, rfl⟩
  | @cons p q vs ws h1 h2 ih =>
    unfold Xs.look valV at ih ⊢
    rw [List.find?_cons, List.find?_cons, h1.1]
    by_cases e : q.1 = k
    · rw [decide_eq_true e]
      exact .inr ⟨_, _, rfl, rfl, h1.2⟩
    · rw [decide_eq_false e]
      exact ih
theorem dctOf_h {ws : List (Key × W)} (rh : RH g H M fl h) (r : RW g H M v w) (e : dctOf h w = some ws) : ∃ a xs, v = .ref a ∧ H a = some (.dK xs) ∧ RWk g H M xs ws := by
  cases w with
  | f kvs =>
    cases e
    obtain ⟨a, xs, rfl, ht, hd⟩ := r.f_inv
    exact ⟨a, xs, rfl, ht.1, hd.toW⟩
  | l k =>
    obtain ⟨a, rfl, e1⟩ := r.l_inv
    simp only [dctOf] at e
    split at e
    · rename_i ws' ew
      cases e
      obtain ⟨vs, hv, rv⟩ := rh.dct e1 ew
      exact ⟨a, vs, rfl, hv, rv⟩
    · cases e
  | _ => cases e
/-! ### items -/
theorem ix_dict (hu : X.A.units + 1 < cLine) : IxR X (fun x y H Q => ∃ a v, x = .ref a ∧ DGet H a y (some v) ∧ Q v H) := by
  intro value slice pins s σ H x y v u Q I rx ry h hs
  obtain ⟨a, z, rfl, hg, q⟩ := h
  cases rx
  exact tail_any (dict_typeIs I hg) PySem.F.slot_dict_getitem.lookup (d_getItem hu I hg ry fun w' s3 I3 rw' => ⟨z, H, I3, rw', q⟩) hs
/-- an item of a list, a tuple, a text, a dict -/
@[simp] def fIx (w y : W) (h : Sto) : Re W := match seqOf h w with
  | some ws => match y.int? with
    | some i => match atI ws i with
      | some x => .ok x h
      | none => .stuck
    | none => .stuck
  | none => match dctOf h w with
    | some kvs => match y.key? with
      | some k => match look kvs k with
        | some x => .ok x h
        | none => .stuck
      | none => .stuck
    | none => match w.str?, y.int? with
      | some s, some i => match atI s.cps.toList i with
        | some c => if decide (s.length ≤ lim) then .ok (.d (.str ⟨#[c]⟩)) h else .stuck
        | none => .stuck
      | _, _ => .stuck
theorem atI_map {α β : Type} (f : α → β) (xs : List α) (i : Int) : atI (xs.map f) i = (atI xs i).map f := by
  unfold atI
  rw [List.length_map]
  cases ixN xs.length i with
  | none => rfl
  | some j => simp
theorem RWs.atI {vs : List V} {ws : List W} (q : RWs g H M vs ws) {i : Int} {x : W} (e : L2.atI ws i = some x) : ∃ v, L2.atI vs i = some v ∧ RW g H M v x := by
  unfold L2.atI at e ⊢
  rw [q.length]
  cases hj : ixN ws.length i with
  | none => rw [hj] at e; cases e
  | some j =>
    rw [hj] at e
    exact RWs.get q e
theorem strOk_one {s : Str} {i : Int} {c : Nat} (hs : PyData.strOk s = true) (e : L2.atI s.cps.toList i = some c) : PyData.strOk ⟨#[c]⟩ = true := by
  unfold L2.atI at e
  cases hj : ixN s.cps.toList.length i with
  | none => rw [hj] at e; cases e
  | some j =>
    rw [hj] at e
    have hm : c ∈ s.cps.toList := List.mem_of_getElem? e
    unfold PyData.strOk at hs ⊢
    rw [Array.all_eq_true'] at hs ⊢
    intro x hx
    have hx : x = c := by simpa using hx
    subst hx
    exact hs x (by simpa using hm)
theorem po_str {s : Str} (rh : RH g H M fl h) (hs : PyData.strOk s = true) (p : Po g Z σ fl (RW g) H M Q (.ok (.d (.str s)) h)) : Q (.str s) H := p _ H M (Ext.refl H M) rh (.d (.str s hs))
theorem se_ix (hu : X.A.units + 1 < cLine) (ha : PE X a (rdE g Z xa)) (hb : PE X b (rdE g Z xb)) (hs : PlainIx b := by exact fun _ _ => rfl) (hK : X.K = g.K := by rfl) : PE X (.Subscript a b pos) (rdE g Z (xBin fIx xa xb)) :=
  PE.imp (pe_ix (ix_seq.or (ix_dict hu)) ha hb hs) fun σ H Q => rd_bin (fun {σ H M fl h v u x y Q} rh rx ry p => by
    rw [hK]
    simp only [fIx] at p
    cases e : seqOf h x with
    | some ws =>
      rw [e] at p
      simp only at p
      cases e2 : y.int? with
      | none => rw [e2] at p; exact p.elim
      | some i =>
        rw [e2] at p
        simp only at p
        cases e3 : L2.atI ws i with
        | none => rw [e3] at p; exact p.elim
        | some z =>
          rw [e3] at p
          rw [W.int?_some e2] at ry
          obtain rfl := ry.int_inv
          obtain ⟨p1, xs, rfl, sq, rv⟩ := seqOf_sq rh rx e
          obtain ⟨z', e4, rz⟩ := RWs.atI rv e3
          rcases sq with sq | sq
          · exact .inl (.inl ⟨p1, xs, i, z', rfl, rfl, sq, e4, p _ H M (Ext.refl H M) rh rz⟩)
          · exact .inl (.inr (.inl ⟨p1, xs, i, z', rfl, rfl, sq, e4, p _ H M (Ext.refl H M) rh rz⟩))
    | none =>
      rw [e] at p
      simp only at p
      cases e1 : dctOf h x with
      | some kvs =>
        rw [e1] at p
        simp only at p
        cases e2 : y.key? with
        | none => rw [e2] at p; exact p.elim
        | some k =>
          rw [e2] at p
          simp only at p
          obtain rfl := W.key?_some e2 ry
          obtain ⟨p1, xs, rfl, hv, rv⟩ := dctOf_h rh rx e1
          rcases RWk.look rv k with ⟨l1, l2⟩ | ⟨v', w', l1, l2, rw'⟩
          · rw [l1] at p; exact p.elim
          · rw [l1] at p
            exact .inr ⟨p1, v', rfl, by rw [← l2]; exact DGet.k hv, p _ H M (Ext.refl H M) rh rw'⟩
      | none =>
        rw [e1] at p
        simp only at p
        cases e2 : x.str? with
        | none => rw [e2] at p; exact p.elim
        | some s =>
          cases e3 : y.int? with
          | none => rw [e2, e3] at p; exact p.elim
          | some i =>
            rw [e2, e3] at p
            simp only at p
            cases e4 : L2.atI s.cps.toList i with
            | none => rw [e4] at p; exact p.elim
            | some cc =>
              rw [e4] at p
              obtain ⟨q, p⟩ := po_if p
              rw [decide_eq_true_eq, lim_line] at q
              rw [W.str?_some e2] at rx
              rw [W.int?_some e3] at ry
              obtain ⟨rfl, hok⟩ := rx.str_inv
              obtain rfl := ry.int_inv
              exact .inl (.inr (.inr ⟨s, i, cc, rfl, rfl, q, e4, po_str rh (strOk_one hok e4) p⟩))) σ H Q

/-! ### stores -/
theorem PSet.or {t t' : TSet} (h : PSet X t) (h' : PSet X t') : PSet X (fun o i v H Q => t o i v H Q ∨ t' o i v H Q) := fun pins s σ H o i v ov iv u Q I r1 r2 r3 q => q.elim (fun q => h pins s σ H o i v ov iv u Q I r1 r2 r3 q) (fun q => h' pins s σ H o i v ov iv u Q I r1 r2 r3 q)
theorem set_dict (hu : X.A.units + 1 < cLine) : PSet X (fun o i v H Q => ∃ a H', o = .ref a ∧ DPut H a i v H' ∧ Q H') := by
  intro pins s σ H o i v ov iv u Q I ro ri rv h
  obtain ⟨a, H', rfl, hp, q⟩ := h
  cases ro
  exact d_setItem hu I hp ri rv fun s' I' => ⟨H', I', q⟩
/-- in its place, or at the end -/
def put {α : Type} (kvs : List (Key × α)) (k : Key) (v : α) : List (Key × α) :=
  if (kvs.any fun kv => decide (kv.1 = k)) = true then kvs.map (fun kv => if kv.1 = k then (kv.1, v) else kv) else kvs ++ [(k, v)]
/-- o[i] = v -/
@[simp] def fPut (o i v : W) (h : Sto) : Re Unit := match o with
  | .l k => match h.o[k]? with
    | some (.lst ws) => match i.int? with
      | some n => match ixN ws.length n with
        | some j => .ok () ⟨h.o.set k (.lst (ws.set j v)), h.c && v.isD⟩
        | none => .stuck
      | none => .stuck
    | some (.dct kvs) => match i.key? with
      | some n => if kvs.length < lim then .ok () ⟨h.o.set k (.dct (put kvs n v)), h.c && v.isD⟩ else .stuck
      | none => .stuck
    | _ => .stuck
  | _ => .stuck
theorem W.isD_lt {f : Nat} (e : w.isD = true) : w.lt f := by cases w <;> first | trivial | cases e
theorem RWs.set {vs : List V} {ws : List W} (q : RWs g H M vs ws) (r : RW g H M v w) (j : Nat) : RWs g H M (vs.set j v) (ws.set j w) := by
  induction q generalizing j with
  | nil => exact .nil
  | cons a b ih =>
    cases j with
    | zero => exact .cons r b
    | succ j => exact .cons a (ih j)
theorem RWk.any {vs : List (Key × V)} {ws : List (Key × W)} (q : RWk g H M vs ws) (k : Key) : (vs.any fun kv => decide (kv.1 = k)) = ws.any fun kv => decide (kv.1 = k) := by
  induction q with
  | nil => rfl
  | cons a b ih => rw [List.any_cons, List.any_cons, ih, a.1]
theorem RWk.map {vs : List (Key × V)} {ws : List (Key × W)} (q : RWk g H M vs ws) (k : Key) (r : RW g H M v w) : RWk g H M (vs.map fun kv => if kv.1 = k then (kv.1, v) else kv) (ws.map fun kv => if kv.1 = k then (kv.1, w) else kv) := by
  induction q with
  | nil => exact .nil
  | @cons p q vs ws a b ih =>
    refine .cons ?_ ih
    show (if p.1 = k then (p.1, v) else p).1 = (if q.1 = k then (q.1, w) else q).1 ∧ RW g H M (if p.1 = k then (p.1, v) else p).2 (if q.1 = k then (q.1, w) else q).2
    rw [a.1]
    by_cases e : q.1 = k
    · rw [if_pos e, if_pos e]
      exact ⟨rfl, r⟩
    · rw [if_neg e, if_neg e]
      exact a
theorem Paired.app {α β : Type} {F : α → β → Prop} : ∀ {xs ys : List α} {us ws : List β}, Paired F xs us → Paired F ys ws → Paired F (xs ++ ys) (us ++ ws)
  | _, _, _, _, .nil, s => s
  | _, _, _, _, .cons r t, s => .cons r (Paired.app t s)
theorem RWk.put {vs : List (Key × V)} {ws : List (Key × W)} (q : RWk g H M vs ws) (k : Key) (r : RW g H M v w) : RWk g H M (putK vs k v) (Xs.put ws k w) := by
  unfold putK Xs.put
  rw [RWk.any q k]
  by_cases e : (ws.any fun kv => decide (kv.1 = k)) = true
  · rw [if_pos e, if_pos e]
    exact RWk.map q k r
  · rw [if_neg e, if_neg e]
    exact Paired.app q (.cons ⟨rfl, r⟩ .nil)
theorem put_lt {kvs : List (Key × W)} {k : Key} {f : Nat} (h : ∀ p ∈ kvs, p.2.lt f) (hw : w.lt f) : ∀ p ∈ Xs.put kvs k w, p.2.lt f := by
  unfold Xs.put
  split
  · intro p hp
    obtain ⟨q, hq, rfl⟩ := List.mem_map.mp hp
    by_cases e : q.1 = k
    · simp only [if_pos e]; exact hw
    · simp only [if_neg e]; exact h q hq
  · intro p hp
    rcases List.mem_append.mp hp with hp | hp
    · exact h p hp
    · rw [List.mem_singleton.mp hp]; exact hw
/-- behind a store -/
def PoU (g : G) (fl : List Nat) (H : Hp) (M : Mu) (Q : Hp → Prop) (x : Re Unit) : Prop := ∃ h', x = .ok () h' ∧ ∀ H', Ext H M H' M → RH g H' M fl h' → Q H'
theorem fPut_ok {o i : W} {ov iv : V} {Q : Hp → Prop} {K : PySem.W.Frag} (rh : RH g H M fl h) (ro : RW g H M ov o) (ri : RW g H M iv i) (rv : RW g H M v w) (p : PoU g fl H M Q (fPut o i w h)) :
    rSetL ov iv v H Q ∨ ∃ a H', ov = .ref a ∧ DPut H a iv v H' ∧ Q H' := by
  obtain ⟨h', e, q⟩ := p
  cases o with
  | l k =>
    obtain ⟨a, rfl, e1⟩ := ro.l_inv
    simp only [fPut] at e
    cases e2 : h.o[k]? with
    | none => rw [e2] at e; cases e
    | some ob =>
      rw [e2] at e
      cases ob with
      | ins _ _ => cases e
      | lst ws =>
        simp only at e
        cases e3 : i.int? with
        | none => rw [e3] at e; cases e
        | some n =>
          rw [e3] at e
          simp only at e
          cases e4 : ixN ws.length n with
          | none => rw [e4] at e; cases e
          | some j =>
            rw [e4] at e
            cases e
            obtain ⟨vs, hv, rvs⟩ := rh.lst e1 e2
            rw [W.int?_some e3] at ri
            obtain rfl := ri.int_inv
            have x : Ext H M (upd H a (.lst (vs.set j v))) M := Ext.put rh e1
            refine .inl ⟨a, vs, n, j, rfl, rfl, hv, by rw [RWs.length rvs]; exact e4, q _ x (rh.put e1 e2 (RWs.mono x rh.sub (RWs.set rvs rv j)) fun hc => ?_)⟩
            rw [Bool.and_eq_true] at hc
            exact ⟨hc.1, fun f hf z hz => (List.mem_or_eq_of_mem_set hz).elim (fun z1 => hf z z1) fun z1 => by rw [z1]; exact W.isD_lt hc.2⟩
      | dct kvs =>
        simp only at e
        cases e3 : i.key? with
        | none => rw [e3] at e; cases e
        | some n =>
          rw [e3] at e
          simp only at e
          by_cases hl : kvs.length < lim
          · rw [if_pos hl] at e
            cases e
            obtain ⟨vs, hv, rvs⟩ := rh.dct e1 e2
            obtain rfl := W.key?_some e3 ri
            have x : Ext H M (upd H a (.dK (putK vs n v))) M := Ext.put rh e1
            refine .inr ⟨a, _, rfl, DPut.k hv (by rw [Paired.length rvs, ← lim_line]; exact hl), q _ x (rh.put e1 e2 (RWk.mono x rh.sub (RWk.put rvs n rv)) fun hc => ?_)⟩
            rw [Bool.and_eq_true] at hc
            exact ⟨hc.1, fun f hf => put_lt hf (W.isD_lt hc.2)⟩
          · rw [if_neg hl] at e
            cases e
  | _ => cases e
@[simp] def sPut (o i v : XE) : XS := fun r h => (v r h).then r fun w h1 => (o r h1).then r fun x h2 => (i r h2).then r fun y h3 => (fPut x y w h3).then r fun _ h4 => .nx r h4
theorem ss_put {o i e : Expr} {xo xi xe : XE} {tpos : Pos} (hu : X.A.units + 1 < cLine) (ho : PE X o (rdE g Z xo)) (hi : PE X i (rdE g Z xi)) (he : PE X e (rdE g Z xe)) (hs : swapsWithSole [.Subscript o i tpos] e pos.line X.env = pure false := by rfl) (hw : swappedStores [.Subscript o i tpos] e X.env = pure none := by rfl)
    (h1 : (assignEach [.Subscript o i tpos] X.env).map (·.2) = [assign (.Subscript o i tpos) X.env] := by rfl)
    (ha : ∀ v, assign (.Subscript o i tpos) X.env v = (do
      let ov ← holding [v] (eval o X.env)
      let iv ← holding [v, ov] (eval i X.env)
      standAt tpos
      holding [v, ov, iv] (setItem ov iv v)
      release [v, ov, iv] []) := by intro _; rfl) : PS X (.Assign [.Subscript o i tpos] e pos) (rdS g Z (sPut xo xi xe)) :=
  PS.imp (ps_asg he (pg_sub ho hi (PSet.or set_list (set_dict hu)) ha) hs hw h1) fun D σ H ⟨r, h, M, fl, rs, rh, p⟩ => ⟨r, h, M, fl, rs, rh, Po.then rs rh.sub p fun w h1 v H1 M1 e1 rs1 rh1 rw1 p1 =>
    ⟨r, h1, M1, fl, rs1, rh1, Po.then rs1 rh1.sub p1 fun x h2 ov H2 M2 e2 rs2 rh2 rx p2 => ⟨r, h2, M2, fl, rs2, rh2, Po.then rs2 rh2.sub p2 fun y h3 iv H3 M3 e3 rs3 rh3 ry p3 => by
      refine fPut_ok (K := X.K) rh3 (rx.mono e3 rh2.sub) ry ((rw1.mono e2 rh1.sub).mono e3 rh2.sub) ?_
      cases e4 : fPut x y w h3 with
      | ok z h4 =>
        rw [e4] at p3
        exact ⟨h4, rfl, fun H4 x4 rh4 => p3 σ H4 M3 x4 (rs3.mono x4 rh3.sub) rh4⟩
      | exc e h4 =>
        exfalso
        simp only [fPut] at e4
        split at e4 <;> first | (cases e4; done) | skip
        split at e4 <;> first | (cases e4; done) | skip
        · split at e4 <;> first | (cases e4; done) | skip
          split at e4 <;> cases e4
        · split at e4 <;> first | (cases e4; done) | skip
          split at e4 <;> cases e4
      | stuck => rw [e4] at p3; exact p3.elim⟩⟩⟩
end
end
end Xs

/-! XsG: more operators and built-ins. -/
namespace Xs
noncomputable section
open PySem PySem.Spec PyProof.Rows L2
@[simp] def D.flat : D → Bool
  | .lst _ => false
  | .tup _ => false
  | _ => true
theorem strOk_append {x y : Str} (hx : PyData.strOk x = true) (hy : PyData.strOk y = true) : PyData.strOk (x ++ y) = true := by
  unfold PyData.strOk at *
  show ((x.cps ++ y.cps).all fun c => decide (c < 0x110000)) = true
  rw [Array.all_append, hx, hy]
  rfl
section
variable {X : Cx} {g : G} {Z : WX} {a b c : Expr} {xa xb xc : XE} {pos : Pos} {H : Hp} {M : Mu} {fl : List Nat} {h : Sto} {v u : V} {w y : W} {σ : L2.St} {Q : VK}
/-! ### plus, times -/
@[simp] def fAddS (w y : W) (h : Sto) : Re W := match w.str?, y.str? with
  | some a, some b => if a.length + b.length ≤ lim then .ok (.d (.str (a ++ b))) h else .stuck
  | _, _ => .stuck
@[simp] def W.tup? : W → Option (List D)
  | .d (.tup z) => some z
  | _ => none
theorem W.tup?_some {w : W} {z : List D} (e : w.tup? = some z) : w = .d (.tup z) := by
  unfold W.tup? at e
  split at e <;> simp_all
@[simp] def fAddT (w y : W) (h : Sto) : Re W := match w.tup?, y.tup? with
  | some a, some b => if a.length + b.length ≤ lim then .ok (.d (.tup (a ++ b))) h else .stuck
  | _, _ => .stuck
/-- the data that a list holds, which isn't the script -/
@[simp] def ldOf (h : Sto) : W → Option (List D)
  | .d (.lst z) => some z
  | .l k => match h.o[k]? with
    | some (.lst ws) => pureL ws
    | _ => none
  | _ => none
theorem ldOf_h {ds : List D} (rh : RH g H M fl h) (r : RW g H M v w) (e : ldOf h w = some ds) : ∃ a xs, v = .ref a ∧ H a = some (.lst xs) ∧ RDs g H M.B xs ds := by
  cases w with
  | d x =>
    cases x with
    | lst z =>
      cases e
      obtain ⟨a, xs, rfl, ht, hd⟩ := r.lst_inv
      exact ⟨a, xs, rfl, ht.1, hd⟩
    | _ => cases e
  | l k =>
    obtain ⟨a, rfl, e1⟩ := r.l_inv
    simp only [ldOf] at e
    split at e
    · rename_i ws ew
      obtain ⟨vs, hv, rv⟩ := rh.lst e1 ew
      rw [pureL_some e] at rv
      exact ⟨a, vs, rfl, hv, RWs.toD rv⟩
    · cases e
  | _ => cases e
@[simp] def fAddL (w y : W) (h : Sto) : Re W := match ldOf h w, ldOf h y with
  | some a, some b => if a.length + b.length ≤ lim then .ok (.d (.lst (a ++ b))) h else .stuck
  | _, _ => .stuck
@[simp] def fAddI (w y : W) (h : Sto) : Re W := i2 (fun i j => .ok (.d (.int (i + j))) h) w y
theorem o_add : Op2 X g Z (binaryOp .Add) fAddI := ⟨_, op_add, fun rh rx ry p => by
  obtain ⟨i, j, rfl, rfl, p⟩ := i2_inv p rx ry
  exact ⟨i, j, rfl, rfl, po_int rh p⟩⟩
theorem o_addS : Op2 X g Z (binaryOp .Add) fAddS := ⟨_, op_add_str, fun {σ H M fl h v u w y Q} rh rx ry p => by
  simp only [fAddS] at p
  cases e1 : w.str? with
  | none => rw [e1] at p; exact p.elim
  | some a =>
    cases e2 : y.str? with
    | none => rw [e1, e2] at p; exact p.elim
    | some b =>
      rw [e1, e2] at p
      obtain ⟨q, p⟩ := po_ifP p
      rw [W.str?_some e1] at rx
      rw [W.str?_some e2] at ry
      obtain ⟨rfl, h1⟩ := rx.str_inv
      obtain ⟨rfl, h2⟩ := ry.str_inv
      exact ⟨a, b, rfl, rfl, by rw [← lim_line]; exact q, po_str rh (strOk_append h1 h2) p⟩⟩
theorem RDs.app {xs ys : List V} {ds es : List D} (q : RDs g H M.B xs ds) (r : RDs g H M.B ys es) : RDs g H M.B (xs ++ ys) (ds ++ es) := by
  induction ds generalizing xs with
  | nil => cases q; exact r
  | cons d ds ih =>
    cases q with
    | cons a b => exact .cons a (ih b)
theorem o_addT (hK : X.K = g.K := by rfl) : Op2 X g Z (binaryOp .Add) fAddT := ⟨_, op_catA, fun {σ H M fl h v u w y Q} rh rx ry p => by
  simp only [fAddT] at p
  cases e1 : w.tup? with
  | none => rw [e1] at p; exact p.elim
  | some a =>
    cases e2 : y.tup? with
    | none => rw [e1, e2] at p; exact p.elim
    | some b =>
      rw [e1, e2] at p
      obtain ⟨q, p⟩ := po_ifP p
      rw [W.tup?_some e1] at rx
      rw [W.tup?_some e2] at ry
      obtain ⟨p1, xs, rfl, t1, d1⟩ := rx.tup_inv
      obtain ⟨p2, ys, rfl, t2, d2⟩ := ry.tup_inv
      rw [hK]
      refine ⟨p1, p2, xs, ys, rfl, rfl, t1, t2, by rw [d1.len, d2.len, ← lim_line]; exact q, fun e => ?_, fun e e' => ?_, fun e e' z hz => ?_⟩
      · subst e
        cases d1
        exact p _ H M (Ext.refl H M) rh (.d (.tup t2 d2))
      · subst e'
        cases d2
        rw [List.append_nil] at p
        exact p _ H M (Ext.refl H M) rh (.d (.tup t1 d1))
      · exact po_tup rh p (RDs.app d1 d2) hz⟩
theorem o_addL : Op2 X g Z (binaryOp .Add) fAddL := ⟨_, op_cat, fun {σ H M fl h v u w y Q} rh rx ry p => by
  simp only [fAddL] at p
  cases e1 : ldOf h w with
  | none => rw [e1] at p; exact p.elim
  | some a =>
    cases e2 : ldOf h y with
    | none => rw [e1, e2] at p; exact p.elim
    | some b =>
      rw [e1, e2] at p
      obtain ⟨q, p⟩ := po_ifP p
      obtain ⟨p1, xs, rfl, t1, d1⟩ := ldOf_h rh rx e1
      obtain ⟨p2, ys, rfl, t2, d2⟩ := ldOf_h rh ry e2
      exact ⟨p1, p2, xs, ys, rfl, rfl, t1, t2, by rw [d1.len, d2.len, ← lim_line]; exact q, fun z hz => po_lst rh p (RDs.app d1 d2) hz⟩⟩
/-- either of two rules, by what they give -/
@[simp] def orElse (f g : W → W → Sto → Re W) (w y : W) (h : Sto) : Re W := match f w y h with
  | .stuck => g w y h
  | o => o
theorem Op2.or {f : Value → Value → Sem Value} {F F' : W → W → Sto → Re W} (o : Op2 X g Z f F) (o' : Op2 X g Z f F') : Op2 X g Z f (orElse F F') := by
  obtain ⟨r, h1, k1⟩ := o
  obtain ⟨r', h2, k2⟩ := o'
  refine ⟨_, h1.or h2, fun {σ H M fl h v u w y Q} rh rx ry p => ?_⟩
  simp only [orElse] at p
  cases e : F w y h with
  | stuck => rw [e] at p; exact .inr (k2 rh rx ry p)
  | ok _ _ => rw [e] at p; exact .inl (k1 rh rx ry (by rw [e]; exact p))
  | exc _ _ => rw [e] at p; exact .inl (k1 rh rx ry (by rw [e]; exact p))
/-- a list repeated -/
theorem repOk_ex : ∃ f : Nat → Int → Bool, f = fun l k => decide (-(2 ^ 63) ≤ k) && decide (k < 2 ^ 63) && decide (l * k.toNat ≤ lim) := ⟨_, rfl⟩
def repOk : Nat → Int → Bool := Classical.choose repOk_ex
theorem repOk_eq (l : Nat) (k : Int) : repOk l k = (decide (-(2 ^ 63) ≤ k) && decide (k < 2 ^ 63) && decide (l * k.toNat ≤ lim)) := congrFun (congrFun (Classical.choose_spec repOk_ex) l) k
theorem repOk_nat {l n : Nat} (h : l * n ≤ lim) (hn : n ≤ 16000000) : repOk l (n : Int) = true := by
  rw [repOk_eq]
  rw [Bool.and_eq_true, Bool.and_eq_true, decide_eq_true_eq, decide_eq_true_eq, decide_eq_true_eq]
  exact ⟨⟨by omega, by omega⟩, by simpa using h⟩
@[simp] def repL {α : Type} (xs : List α) (k : Int) : List α := (List.replicate k.toNat xs).flatten
@[simp] def fRepL (w y : W) (h : Sto) : Re W := match ldOf h w, y.int? with
  | some z, some k => if repOk z.length k = true then .ok (.d (.lst (repL z k))) h else .stuck
  | _, _ => .stuck
@[simp] def fRepN (w y : W) (h : Sto) : Re W := match ldOf h w, y.int? with
  | some z, some k => if repOk z.length k = true then .ok (.l h.o.length) ⟨h.o ++ [.lst ((repL z k).map .d)], h.c⟩ else .stuck
  | _, _ => .stuck
theorem RDs.rep {xs : List V} {ds : List D} (q : RDs g H M.B xs ds) (n : Nat) : RDs g H M.B (List.replicate n xs).flatten (List.replicate n ds).flatten := by
  induction n with
  | zero => exact .nil
  | succ n ih =>
    rw [List.replicate_succ, List.replicate_succ, List.flatten_cons, List.flatten_cons]
    exact RDs.app q ih
theorem o_mul : Op2 X g Z (binaryOp .Mult) fMul := ⟨_, op_mul, fun rh rx ry p => by
  obtain ⟨i, j, rfl, rfl, p⟩ := i2_inv p rx ry
  obtain ⟨q, p⟩ := po_if p
  exact ⟨i, j, rfl, rfl, mul_ok q, po_int rh p⟩⟩
theorem o_repL : Op2 X g Z (binaryOp .Mult) fRepL := ⟨_, op_rep, fun {σ H M fl h v u w y Q} rh rx ry p => by
  simp only [fRepL] at p
  cases e1 : ldOf h w with
  | none => rw [e1] at p; exact p.elim
  | some z =>
    cases e2 : y.int? with
    | none => rw [e1, e2] at p; exact p.elim
    | some k =>
      rw [e1, e2] at p
      obtain ⟨q, p⟩ := po_if p
      rw [repOk_eq] at q
      rw [Bool.and_eq_true, Bool.and_eq_true, decide_eq_true_eq, decide_eq_true_eq, decide_eq_true_eq] at q
      obtain ⟨p1, xs, rfl, t1, d1⟩ := ldOf_h rh rx e1
      rw [W.int?_some e2] at ry
      obtain rfl := ry.int_inv
      exact ⟨p1, k, xs, rfl, rfl, t1, q.1.1, q.1.2, by rw [d1.len, ← lim_line]; exact q.2, fun n hn => po_lst rh p (RDs.rep d1 _) hn⟩⟩
theorem o_repN : Op2 X g Z (binaryOp .Mult) fRepN := ⟨_, op_rep, fun {σ H M fl h v u w y Q} rh rx ry p => by
  simp only [fRepN] at p
  cases e1 : ldOf h w with
  | none => rw [e1] at p; exact p.elim
  | some z =>
    cases e2 : y.int? with
    | none => rw [e1, e2] at p; exact p.elim
    | some k =>
      rw [e1, e2] at p
      obtain ⟨q, p⟩ := po_if p
      rw [repOk_eq] at q
      rw [Bool.and_eq_true, Bool.and_eq_true, decide_eq_true_eq, decide_eq_true_eq, decide_eq_true_eq] at q
      obtain ⟨p1, xs, rfl, t1, d1⟩ := ldOf_h rh rx e1
      rw [W.int?_some e2] at ry
      obtain rfl := ry.int_inv
      exact ⟨p1, k, xs, rfl, rfl, t1, q.1.1, q.1.2, by rw [d1.len, ← lim_line]; exact q.2, fun n hn => po_new rh p (RDs.rep d1 _).toW hn⟩⟩

/-! ### in -/
theorem RD.flat {x : D} (r : RD g H M.B v x) (f : x.flat = true) : flatV v = true := by
  cases r <;> first | rfl | cases f
theorem RD.eqV {x z : D} (r : RD g H M.B v x) (q : RD g H M.B u z) (f : x.flat = true) (f' : z.flat = true) : L2.eqV v u = x.eq z := by
  cases r <;> first | (cases f; done) | skip
  all_goals cases q <;> first | (cases f'; done) | rfl | (simp only [L2.eqV, D.eq]; done) | (simp only [L2.eqV, D.eq]; split <;> rfl)
theorem RDs.flat {xs : List V} {ds : List D} (r : RDs g H M.B xs ds) (f : ds.all D.flat = true) : xs.all flatV = true := by
  induction ds generalizing xs with
  | nil => cases r; rfl
  | cons d ds ih =>
    cases r with
    | cons a b =>
      rw [List.all_cons, Bool.and_eq_true] at f ⊢
      exact ⟨a.flat f.1, ih b f.2⟩
theorem RDs.inV {xs : List V} {ds : List D} {x : D} (r : RDs g H M.B xs ds) (q : RD g H M.B v x) (f : ds.all D.flat = true) (f' : x.flat = true) : L2.inV v xs = ds.any fun z => z.eq x := by
  unfold L2.inV
  induction ds generalizing xs with
  | nil => cases r; rfl
  | cons d ds ih =>
    cases r with
    | cons a b =>
      rw [List.all_cons, Bool.and_eq_true] at f
      rw [List.any_cons, List.any_cons, ih b f.2, a.eqV q f.1 f']
/-- the data of a list or a tuple -/
@[simp] def sdOf (h : Sto) (w : W) : Option (List D) := match seqOf h w with
  | some ws => pureL ws
  | none => none
/-- x in a list, a tuple of flat data -/
@[simp] def fInL (neg : Bool) (w y : W) (h : Sto) : Re W := match w, sdOf h y with
  | .d x, some ds => if (x.flat && ds.all D.flat) = true then .ok (.d (.bl (if neg then !(ds.any fun z => z.eq x) else ds.any fun z => z.eq x))) h else .stuck
  | _, _ => .stuck
theorem fInL_ok {neg : Bool} {K : PySem.W.Frag} (hK : K = g.K) (rh : RH g H M fl h) (rx : RW g H M v w) (ry : RW g H M u y) (p : Po g Z σ fl (RW g) H M Q (fInL neg w y h)) : rIn K neg v u H Q := by
  subst hK
  simp only [fInL] at p
  cases w with
  | d x =>
    cases e : sdOf h y with
    | none => rw [e] at p; exact p.elim
    | some ds =>
      rw [e] at p
      obtain ⟨q, p⟩ := po_if p
      rw [Bool.and_eq_true] at q
      simp only [sdOf] at e
      cases e2 : seqOf h y with
      | none => rw [e2] at e; cases e
      | some ws =>
        rw [e2] at e
        obtain ⟨a, xs, rfl, sq, rv⟩ := seqOf_sq rh ry e2
        rw [pureL_some e] at rv
        have hd := RWs.toD rv
        cases rx with
        | d rx => exact ⟨a, xs, rfl, sq, rx.flat q.1, hd.flat q.2, by rw [RDs.inV hd rx q.2 q.1]; exact po_bl rh p⟩
  | _ => exact p.elim
theorem o_inL (hK : X.K = g.K := by rfl) : Op2 X g Z (compareOp .In) (fInL false) := ⟨_, op_in_seq, fun rh rx ry p => fInL_ok hK rh rx ry p⟩
theorem o_niL (hK : X.K = g.K := by rfl) : Op2 X g Z (compareOp .NotIn) (fInL true) := ⟨_, op_notIn_seq, fun rh rx ry p => fInL_ok hK rh rx ry p⟩
/-- a sign in a text -/
@[simp] def fInS (neg : Bool) (w y : W) (h : Sto) : Re W := match w.str?, y.str? with
  | some a, some b => match a.cps.toList with
    | [z] => .ok (.d (.bl (if neg then !decide (z ∈ b.cps.toList) else decide (z ∈ b.cps.toList)))) h
    | _ => .stuck
  | _, _ => .stuck
theorem fInS_ok {neg : Bool} (rh : RH g H M fl h) (rx : RW g H M v w) (ry : RW g H M u y) (p : Po g Z σ fl (RW g) H M Q (fInS neg w y h)) : ∃ (c : Nat) (z : Str), v = .str ⟨#[c]⟩ ∧ u = .str z ∧ Q (.bl (if neg then !decide (c ∈ z.cps.toList) else decide (c ∈ z.cps.toList))) H := by
  simp only [fInS] at p
  cases e1 : w.str? with
  | none => rw [e1] at p; exact p.elim
  | some a =>
    cases e2 : y.str? with
    | none => rw [e1, e2] at p; exact p.elim
    | some b =>
      rw [e1, e2] at p
      simp only at p
      split at p
      · rename_i z ez
        rw [W.str?_some e1] at rx
        rw [W.str?_some e2] at ry
        obtain ⟨rfl, _⟩ := rx.str_inv
        obtain ⟨rfl, _⟩ := ry.str_inv
        have ea : a = ⟨#[z]⟩ := by
          obtain ⟨cps⟩ := a
          have : cps = #[z] := Array.toList_inj.mp (by simpa using ez)
          rw [this]
        subst ea
        exact ⟨z, b, rfl, rfl, po_bl rh p⟩
      · exact p.elim
theorem o_inS : Op2 X g Z (compareOp .In) (fInS false) := ⟨_, op_in_sign, fun rh rx ry p => fInS_ok rh rx ry p⟩
theorem o_niS : Op2 X g Z (compareOp .NotIn) (fInS true) := ⟨_, op_notIn_sign, fun rh rx ry p => fInS_ok rh rx ry p⟩
/-- a key in a dict -/
@[simp] def fInD (neg : Bool) (w y : W) (h : Sto) : Re W := match w.key?, dctOf h y with
  | some k, some kvs => .ok (.d (.bl (if neg then !(look kvs k).isSome else (look kvs k).isSome))) h
  | _, _ => .stuck
theorem fInD_ok {neg : Bool} (rh : RH g H M fl h) (rx : RW g H M v w) (ry : RW g H M u y) (p : Po g Z σ fl (RW g) H M Q (fInD neg w y h)) : ∃ a o, u = .ref a ∧ DGet H a v o ∧ Q (.bl (if neg then !o.isSome else o.isSome)) H := by
  simp only [fInD] at p
  cases e1 : w.key? with
  | none => rw [e1] at p; exact p.elim
  | some k =>
    cases e2 : dctOf h y with
    | none => rw [e1, e2] at p; exact p.elim
    | some kvs =>
      rw [e1, e2] at p
      obtain rfl := W.key?_some e1 rx
      obtain ⟨a, xs, rfl, hv, rv⟩ := dctOf_h rh ry e2
      refine ⟨a, _, rfl, DGet.k (k := k) hv, ?_⟩
      have e3 : (look kvs k).isSome = (valV xs k).isSome := by
        rcases RWk.look rv k with ⟨l1, l2⟩ | ⟨v', w', l1, l2, _⟩ <;> rw [l1, l2] <;> rfl
      rw [← e3]
      exact po_bl rh p
theorem op_dinR (hu : X.A.units + 1 < cLine) : OpR X (compareOp .In) (fun x y H Q => ∃ a o, y = .ref a ∧ DGet H a x o ∧ Q (.bl o.isSome) H) := by
  intro pins s σ H x y v u Q I rx ry h
  obtain ⟨a, o, rfl, hg, q⟩ := h
  cases ry
  exact d_in hu I hg rx fun s3 I3 => ⟨.bl o.isSome, H, I3, rfl, q⟩
theorem op_dniR (hu : X.A.units + 1 < cLine) : OpR X (compareOp .NotIn) (fun x y H Q => ∃ a o, y = .ref a ∧ DGet H a x o ∧ Q (.bl (!o.isSome)) H) := by
  intro pins s σ H x y v u Q I rx ry h
  obtain ⟨a, o, rfl, hg, q⟩ := h
  cases ry
  exact d_notIn hu I hg rx fun s3 I3 => ⟨.bl (!o.isSome), H, I3, rfl, q⟩
theorem o_inD (hu : X.A.units + 1 < cLine) : Op2 X g Z (compareOp .In) (fInD false) := ⟨_, op_dinR hu, fun rh rx ry p => fInD_ok rh rx ry p⟩
theorem o_niD (hu : X.A.units + 1 < cLine) : Op2 X g Z (compareOp .NotIn) (fInD true) := ⟨_, op_dniR hu, fun rh rx ry p => fInD_ok rh rx ry p⟩

/-! ### truth -/
@[simp] def truth (h : Sto) (w : W) : Option Bool := match seqOf h w with
  | some ws => some !ws.isEmpty
  | none => match dctOf h w with
    | some kvs => some !kvs.isEmpty
    | none => match w with
      | .d .non => some false
      | .d (.bl z) => some z
      | .d (.int z) => some (z != 0)
      | .d (.str z) => if z.length ≤ lim then some ((z.length : Int) != 0) else none
      | _ => none
@[simp] def xTruth (a : XE) : XT := fun r h => (a r h).bind fun w h1 => match truth h1 w with
  | some z => .ok z h1
  | none => .stuck
theorem paired_empty {α β : Type} {F : α → β → Prop} {xs : List α} {ys : List β} (q : Paired F xs ys) : xs.isEmpty = ys.isEmpty := by cases q <;> rfl
theorem st_truth (ha : PE X a (rdE g Z xa)) (he : ∀ whole, isTrue a X.env whole = (do let v ← whole; standAt a.pos; holding [v] (truthy v)) := by intro _; rfl) (hK : X.K = g.K := by rfl) : PT X a (rdT g Z (xTruth xa)) :=
  PT.imp (pt_truth ha he) fun σ H Q ⟨r, h, M, fl, rs, rh, p⟩ => ⟨r, h, M, fl, rs, rh, Po.bind p fun w h1 v H1 M1 e1 rh1 rw1 p1 => by
    rw [hK]
    cases e : truth h1 w with
    | none => rw [e] at p1; exact p1.elim
    | some z =>
      rw [e] at p1
      refine ⟨z, ?_, p1 z H1 M1 (Ext.refl H1 M1) rh1 rfl⟩
      simp only [truth] at e
      cases e2 : seqOf h1 w with
      | some ws =>
        rw [e2] at e
        cases e
        obtain ⟨a, xs, rfl, sq, rv⟩ := seqOf_sq rh1 rw1 e2
        rcases sq with sq | sq
        · exact .inl ⟨xs, sq, by rw [paired_empty rv]⟩
        · exact .inr (.inl ⟨xs, sq, by rw [paired_empty rv]⟩)
      | none =>
        rw [e2] at e
        simp only at e
        cases e3 : dctOf h1 w with
        | some kvs =>
          rw [e3] at e
          cases e
          obtain ⟨a, xs, rfl, hv, rv⟩ := dctOf_h rh1 rw1 e3
          exact .inr (.inr ⟨xs, hv, by rw [paired_empty rv]⟩)
        | none =>
          rw [e3] at e
          cases w with
          | d x =>
            cases x with
            | non => cases e; obtain rfl := rw1.non_inv; rfl
            | bl _ => cases e; obtain rfl := rw1.bl_inv; rfl
            | int _ => cases e; obtain rfl := rw1.int_inv; rfl
            | str s =>
              obtain ⟨rfl, _⟩ := rw1.str_inv
              simp only at e
              by_cases hl : s.length ≤ lim
              · rw [if_pos hl] at e
                cases e
                exact ⟨by rw [← lim_line]; exact hl, rfl⟩
              · rw [if_neg hl] at e
                cases e
            | _ => cases e
          | _ => cases e⟩

/-! ### is None -/
@[simp] def isNon : W → Bool
  | .d .non => true
  | _ => false
@[simp] def xIsN (neg : Bool) (a : XE) : XE := fun r h => (a r h).bind fun w h1 => .ok (.d (.bl (if neg then !isNon w else isNon w))) h1
theorem isNon_iff (r : RW g H M v w) : isNon w = decide (v = .non) := by
  cases r with
  | d r => cases r <;> rfl
  | _ => rfl
theorem Re.bind_assoc {α β γ : Type} (x : Re α) (k : α → Sto → Re β) (l : β → Sto → Re γ) : (x.bind k).bind l = x.bind fun a h => (k a h).bind l := by
  cases x <;> rfl
theorem Po.assoc {α β γ δ : Type} {R : Hp → Mu → δ → γ → Prop} {Q : δ → Hp → Prop} {x : Re α} {k : α → Sto → Re β} {l : β → Sto → Re γ} (p : Po g Z σ fl R H M Q ((x.bind k).bind l)) : Po g Z σ fl R H M Q (x.bind fun a h => (k a h).bind l) := by
  rw [← Re.bind_assoc]
  exact p
theorem se_isN {j pos'} (ha : PE X a (rdE g Z xa)) : PE X (.Compare a [.Is] [.Constant .none j pos'] pos) (rdE g Z (xIsN false xa)) :=
  PE.imp (pe_cmp (pc_isN ha)) fun σ H Q ⟨r, h, M, fl, rs, rh, p⟩ => ⟨r, h, M, fl, rs, rh, Po.bind p fun w h1 v H1 M1 e1 rh1 rw1 p1 => by
    rw [← isNon_iff rw1]
    exact po_bl rh1 p1⟩
theorem se_notN {j pos'} (ha : PE X a (rdE g Z xa)) : PE X (.Compare a [.IsNot] [.Constant .none j pos'] pos) (rdE g Z (xIsN true xa)) :=
  PE.imp (pe_cmp (pc_notN ha)) fun σ H Q ⟨r, h, M, fl, rs, rh, p⟩ => ⟨r, h, M, fl, rs, rh, Po.bind p fun w h1 v H1 M1 e1 rh1 rw1 p1 => by
    rw [← isNon_iff rw1]
    exact po_bl rh1 p1⟩
theorem st_isN {j pos'} (ha : PE X a (rdE g Z xa)) : PT X (.Compare a [.Is] [.Constant .none j pos'] pos) (rdT g Z (xTest (xIsN false xa))) :=
  PT.imp (pt_cmp (pc_isN ha)) fun σ H Q ⟨r, h, M, fl, rs, rh, p⟩ => ⟨r, h, M, fl, rs, rh, Po.bind (Po.assoc p) fun w h1 v H1 M1 e1 rh1 rw1 p1 => ⟨_, rfl, by
    rw [← isNon_iff rw1]
    exact p1 _ H1 M1 (Ext.refl H1 M1) rh1 rfl⟩⟩
theorem st_notN {j pos'} (ha : PE X a (rdE g Z xa)) : PT X (.Compare a [.IsNot] [.Constant .none j pos'] pos) (rdT g Z (xTest (xIsN true xa))) :=
  PT.imp (pt_cmp (pc_notN ha)) fun σ H Q ⟨r, h, M, fl, rs, rh, p⟩ => ⟨r, h, M, fl, rs, rh, Po.bind (Po.assoc p) fun w h1 v H1 M1 e1 rh1 rw1 p1 => ⟨_, rfl, by
    rw [← isNon_iff rw1]
    exact p1 _ H1 M1 (Ext.refl H1 M1) rh1 rfl⟩⟩
end
end
end Xs

/-! XsH: built-ins. -/
namespace Xs
noncomputable section
open PySem PySem.Spec PyProof.Rows L2
section
variable {X : Cx} {g : G} {Z : WX} {a b c : Expr} {xa xb xc : XE} {pos : Pos} {H : Hp} {M : Mu} {fl : List Nat} {h : Sto} {v u : V} {w y : W} {σ : L2.St} {Q : VK}
/-- a call of one value -/
theorem Fn1.one {f : Value} {r : List V → Hp → VK → Prop} {F : W → Sto → Re W} (o : CallR X f r)
    (k : ∀ {σ : L2.St} {H : Hp} {M : Mu} {fl : List Nat} {h : Sto} {v : V} {w : W} {Q : VK}, RH g H M fl h → RW g H M v w → Po g Z σ fl (RW g) H M Q (F w h) → r [v] H Q) : Fn1 X g Z f (fun ws h => match ws with | [w] => F w h | _ => .stuck) :=
  ⟨r, o, fun {σ H M fl h vs ws Q} rh rw1 p => by
    cases ws with
    | nil => exact p.elim
    | cons w t =>
      cases t with
      | nil =>
        obtain ⟨v, rfl, rv⟩ := RWs.one rw1
        exact k rh rv p
      | cons _ _ => exact p.elim⟩
theorem Fn1.two {f : Value} {r : List V → Hp → VK → Prop} {F : W → W → Sto → Re W} (o : CallR X f r)
    (k : ∀ {σ : L2.St} {H : Hp} {M : Mu} {fl : List Nat} {h : Sto} {v u : V} {w y : W} {Q : VK}, RH g H M fl h → RW g H M v w → RW g H M u y → Po g Z σ fl (RW g) H M Q (F w y h) → r [v, u] H Q) : Fn1 X g Z f (fun ws h => match ws with | [w, y] => F w y h | _ => .stuck) :=
  ⟨r, o, fun {σ H M fl h vs ws Q} rh rw1 p => by
    cases ws with
    | nil => exact p.elim
    | cons w t =>
      cases t with
      | nil => exact p.elim
      | cons y t =>
        cases t with
        | nil =>
          obtain ⟨v, u, rfl, rv, ru⟩ := RWs.two rw1
          exact k rh rv ru p
        | cons _ _ => exact p.elim⟩
@[simp] def f1 (F : W → Sto → Re W) : List W → Sto → Re W := fun ws h => match ws with | [w] => F w h | _ => .stuck
@[simp] def f2 (F : W → W → Sto → Re W) : List W → Sto → Re W := fun ws h => match ws with | [w, y] => F w y h | _ => .stuck
/-- len -/
@[simp] def fLen (w : W) (h : Sto) : Re W := match seqOf h w with
  | some ws => .ok (.d (.int ws.length)) h
  | none => match w.str? with
    | some z => if z.length ≤ lim then .ok (.d (.int z.length)) h else .stuck
    | none => .stuck
theorem c_len (hK : X.K = g.K := by rfl) : Fn1 X g Z (.builtin "len") (f1 fLen) := Fn1.one call_len fun {σ H M fl h v w Q} rh rv p => by
  rw [hK]
  simp only [fLen] at p
  cases e : seqOf h w with
  | some ws =>
    rw [e] at p
    obtain ⟨a, xs, rfl, sq, r⟩ := seqOf_sq rh rv e
    refine ⟨_, ws.length, rfl, ?_, po_int rh p⟩
    rcases sq with sq | sq
    · exact .inl ⟨xs, sq, (RWs.length r).symm⟩
    · exact .inr ⟨xs, sq, (RWs.length r).symm⟩
  | none =>
    rw [e] at p
    simp only at p
    cases e2 : w.str? with
    | none => rw [e2] at p; exact p.elim
    | some z =>
      rw [e2] at p
      obtain ⟨q, p⟩ := po_ifP p
      rw [W.str?_some e2] at rv
      obtain ⟨rfl, _⟩ := rv.str_inv
      exact ⟨_, z.length, rfl, ⟨by rw [← lim_line]; exact q, rfl⟩, po_int rh p⟩
/-- int of a number -/
@[simp] def fInt (w : W) (h : Sto) : Re W := match w with
  | .d (.int z) => .ok (.d (.int z)) h
  | .d (.bl z) => .ok (.d (.int (if z then 1 else 0))) h
  | _ => .stuck
theorem c_int : Fn1 X g Z (.type "int") (f1 fInt) := Fn1.one call_int1 fun {σ H M fl h v w Q} rh rv p => by
  cases w with
  | d x =>
    cases x with
    | int z => obtain rfl := rv.int_inv; exact .inl ⟨z, rfl, po_int rh p⟩
    | bl z => obtain rfl := rv.bl_inv; exact .inr ⟨z, rfl, po_int rh p⟩
    | _ => exact p.elim
  | _ => exact p.elim
/-- list, tuple of a row -/
@[simp] def fList (w : W) (h : Sto) : Re W := match sdOf h w with
  | some ds => .ok (.d (.lst ds)) h
  | none => .stuck
@[simp] def fListN (w : W) (h : Sto) : Re W := match seqOf h w with
  | some ws => .ok (.l h.o.length) ⟨h.o ++ [.lst ws], h.c⟩
  | none => .stuck
@[simp] def fTuple (w : W) (h : Sto) : Re W := match sdOf h w with
  | some ds => .ok (.d (.tup ds)) h
  | none => .stuck
theorem sdOf_sq {ds : List D} (rh : RH g H M fl h) (r : RW g H M v w) (e : sdOf h w = some ds) : ∃ a xs, v = .ref a ∧ (SqL g.K H a xs ∨ SqT g.K H a xs) ∧ RDs g H M.B xs ds := by
  simp only [sdOf] at e
  cases e2 : seqOf h w with
  | none => rw [e2] at e; cases e
  | some ws =>
    rw [e2] at e
    obtain ⟨a, xs, rfl, sq, rv⟩ := seqOf_sq rh r e2
    rw [pureL_some e] at rv
    exact ⟨a, xs, rfl, sq, RWs.toD rv⟩
theorem c_list (hK : X.K = g.K := by rfl) : Fn1 X g Z (.type "list") (f1 fList) := Fn1.one call_list_of fun {σ H M fl h v w Q} rh rv p => by
  rw [hK]
  simp only [fList] at p
  cases e : sdOf h w with
  | none => rw [e] at p; exact p.elim
  | some ds =>
    rw [e] at p
    obtain ⟨a, xs, rfl, sq, hd⟩ := sdOf_sq rh rv e
    exact ⟨a, xs, rfl, sq, fun l hl => po_lst rh p hd hl⟩
theorem c_listN (hK : X.K = g.K := by rfl) : Fn1 X g Z (.type "list") (f1 fListN) := Fn1.one call_list_of fun {σ H M fl h v w Q} rh rv p => by
  rw [hK]
  simp only [fListN] at p
  cases e : seqOf h w with
  | none => rw [e] at p; exact p.elim
  | some ws =>
    rw [e] at p
    obtain ⟨a, xs, rfl, sq, hd⟩ := seqOf_sq rh rv e
    exact ⟨a, xs, rfl, sq, fun l hl => po_new rh p hd hl⟩
theorem c_tuple (hK : X.K = g.K := by rfl) : Fn1 X g Z (.type "tuple") (f1 fTuple) := Fn1.one call_tuple_of fun {σ H M fl h v w Q} rh rv p => by
  rw [hK]
  simp only [fTuple] at p
  cases e : sdOf h w with
  | none => rw [e] at p; exact p.elim
  | some ds =>
    rw [e] at p
    obtain ⟨a, xs, rfl, sq, hd⟩ := sdOf_sq rh rv e
    refine ⟨a, xs, rfl, ?_⟩
    rcases sq with sq | sq
    · exact .inl ⟨sq, fun l hl => po_tup rh p hd hl⟩
    · exact .inr ⟨sq, p _ H M (Ext.refl H M) rh (.d (.tup sq hd))⟩
/-- the ints of a row -/
@[simp] def intsD : List D → Option (List Int)
  | [] => some []
  | .int i :: r => (intsD r).map (i :: ·)
  | _ :: _ => none
@[simp] theorem intsD_map (ns : List Int) : intsD (ns.map .int) = some ns := by
  induction ns with
  | nil => rfl
  | cons n ns ih => simp [ih]
theorem intsD_some : ∀ {ds : List D} {ns : List Int}, intsD ds = some ns → ds = ns.map .int
  | [], _, h => by cases h; rfl
  | .int i :: r, ns, h => by
    simp only [intsD, Option.map_eq_some_iff] at h
    obtain ⟨rs, h1, rfl⟩ := h
    rw [intsD_some h1]
    rfl
  | .non :: _, _, h => nomatch h
  | .bl _ :: _, _, h => nomatch h
  | .str _ :: _, _, h => nomatch h
  | .tup _ :: _, _, h => nomatch h
  | .lst _ :: _, _, h => nomatch h
theorem RDs.ints {xs : List V} {ns : List Int} (q : RDs g H M.B xs (ns.map .int)) : xs = ns.map V.int := by
  induction ns generalizing xs with
  | nil => cases q; rfl
  | cons n ns ih =>
    cases q with
    | cons a b =>
      cases a
      rw [ih b]
      rfl
def maxI : List Int → Int
  | [] => 0
  | n :: r => r.foldl (fun a b => if b > a then b else a) n
theorem maxF_spec (r : List Int) : ∀ n : Int, r.foldl (fun a b => if b > a then b else a) n ∈ n :: r ∧ ∀ y ∈ n :: r, y ≤ r.foldl (fun a b => if b > a then b else a) n := by
  induction r with
  | nil => intro n; simp
  | cons m r ih =>
    intro n
    rw [List.foldl_cons]
    obtain ⟨h1, h2⟩ := ih (if m > n then m else n)
    generalize he : List.foldl (fun a b => if b > a then b else a) (if m > n then m else n) r = k at h1 h2
    refine ⟨?_, fun y hy => ?_⟩
    · rcases List.mem_cons.mp h1 with z | z
      · rw [z]; split <;> simp
      · simp [z]
    · have h3 := h2 (if m > n then m else n) List.mem_cons_self
      rcases List.mem_cons.mp hy with z | z
      · subst z; split at h3 <;> omega
      · rcases List.mem_cons.mp z with z | z
        · subst z; split at h3 <;> omega
        · exact h2 y (List.mem_cons_of_mem _ z)
theorem maxI_spec (n : Int) (r : List Int) : maxI (n :: r) ∈ n :: r ∧ ∀ y ∈ n :: r, y ≤ maxI (n :: r) := maxF_spec r n
@[simp] def fMax (w : W) (h : Sto) : Re W := match lstOf h w with
  | some ws => match pureL ws with
    | some ds => match intsD ds with
      | some ns => if 0 < ns.length then .ok (.d (.int (maxI ns))) h else .stuck
      | none => .stuck
    | none => .stuck
  | none => .stuck
theorem c_max (hc : X.calm = true) (hK : X.K = g.K := by rfl) : Fn1 X g Z (.builtin "max") (f1 fMax) := Fn1.one (cr_max hc) fun {σ H M fl h v w Q} rh rv p => by
  rw [hK]
  simp only [fMax] at p
  cases e : lstOf h w with
  | none => rw [e] at p; exact p.elim
  | some ws =>
    rw [e] at p
    simp only at p
    cases e2 : pureL ws with
    | none => rw [e2] at p; exact p.elim
    | some ds =>
      rw [e2] at p
      simp only at p
      cases e3 : intsD ds with
      | none => rw [e3] at p; exact p.elim
      | some ns =>
        rw [e3] at p
        obtain ⟨q, p⟩ := po_ifP p
        obtain ⟨a, xs, rfl, sq, r⟩ := lstOf_sq rh rv e
        rw [pureL_some e2, intsD_some e3] at r
        have hx := RDs.ints (RWs.toD r)
        subst hx
        refine ⟨a, ns, rfl, sq, q, fun m hm hle => ?_⟩
        cases ns with
        | nil => cases hm
        | cons n t =>
          obtain ⟨h1, h2⟩ := maxI_spec n t
          have : m = maxI (n :: t) := Int.le_antisymm (h2 m hm) (hle _ h1)
          rw [this]
          exact po_int rh p
@[simp] def fMax2 (w y : W) (h : Sto) : Re W := i2 (fun i j => .ok (.d (.int (if j > i then j else i))) h) w y
@[simp] def fMin2 (w y : W) (h : Sto) : Re W := i2 (fun i j => .ok (.d (.int (if j < i then j else i))) h) w y
theorem c_max2 (hc : X.calm = true) : Fn1 X g Z (.builtin "max") (f2 fMax2) := Fn1.two (call_max2 hc) fun {σ H M fl h v u w y Q} rh rv ru p => by
  obtain ⟨i, j, rfl, rfl, p⟩ := i2_inv p rv ru
  exact ⟨i, j, rfl, po_int rh p⟩
theorem c_min2 (hc : X.calm = true) : Fn1 X g Z (.builtin "min") (f2 fMin2) := Fn1.two (call_min2 hc) fun {σ H M fl h v u w y Q} rh rv ru p => by
  obtain ⟨i, j, rfl, rfl, p⟩ := i2_inv p rv ru
  exact ⟨i, j, rfl, po_int rh p⟩
end
/-! ### repr -/
mutual
@[simp] def D.rok : D → Bool
  | .int i => decide (i.natAbs.log2 < 1920)
  | .lst xs => D.roks xs
  | .tup xs => D.roks xs
  | _ => true
@[simp] def D.roks : List D → Bool
  | [] => true
  | x :: r => x.rok && D.roks r
end
mutual
@[simp] def D.cost : D → Nat
  | .non => 4
  | .bl _ => 5
  | .int _ => 1921
  | .str z => 10 * z.length + 2
  | .lst xs => D.costs xs + 3
  | .tup xs => D.costs xs + 3
@[simp] def D.costs : List D → Nat
  | [] => 0
  | x :: r => x.cost + 2 + D.costs r
end
mutual
theorem D.show_py : ∀ x : D, x.rok = true → x.py.showable = true
  | .non, _ => by simp [D.py, PyData.showable]
  | .bl _, _ => by simp [D.py, PyData.showable]
  | .int _, h => by simpa [D.py, PyData.showable] using h
  | .str _, _ => by simp [D.py, PyData.showable]
  | .lst xs, h => by simpa [D.py, PyData.showable] using D.shows_py xs (by simpa using h)
  | .tup xs, h => by simpa [D.py, PyData.showable] using D.shows_py xs (by simpa using h)
theorem D.shows_py : ∀ x : List D, D.roks x = true → PyData.showableAll (D.pys x) = true
  | [], _ => by simp [D.pys, PyData.showableAll]
  | x :: r, h => by
    simp only [D.roks, Bool.and_eq_true] at h
    simp [D.pys, PyData.showableAll, D.show_py x h.1, D.shows_py r h.2]
end
section
variable {X : Cx} {g : G} {Z : WX} {H : Hp} {B : Addr → Prop} {M : Mu} {fl : List Nat} {h : Sto} {v u : V} {w y : W} {σ : L2.St} {Q : VK}
mutual
theorem D.shown_len : ∀ {x : D}, x.py.canLay0 = true → x.rok = true → x.py.shown.length ≤ x.cost
  | .non, _, _ => by simp only [D.py, PyData.shown, D.cost]; decide +kernel
  | .bl b, _, _ => by cases b <;> (simp only [D.py, PyData.shown, D.cost]; decide +kernel)
  | .int i, _, h => by
    simp only [D.py, PyData.shown, D.cost]
    have h : i.natAbs.log2 < 1920 := by simpa using h
    have := int_text_length_le (k := 1920) (by decide) h
    rw [PySem.ofString_length]
    exact this
  | .str z, hl, _ => by
    simp only [D.py, PyData.shown, D.cost]
    refine StrLaws.reprText_len z fun c hc => ?_
    have hl : PyData.strOk z = true := by simpa [D.py, PyData.canLay0] using hl
    unfold PyData.strOk at hl
    rw [Array.all_eq_true'] at hl
    have := of_decide_eq_true (hl c (by simpa using hc))
    exact Nat.lt_of_lt_of_le this (by decide)
  | .lst xs, hl, h => by
    simp only [D.py, PyData.shown, D.cost]
    have h1 := D.showns_len (x := xs) (by simpa [D.py, PyData.canLay0] using hl) (by simpa using h)
    have h2 := listText_len_le (PyData.shownAll (D.pys xs))
    omega
  | .tup xs, hl, h => by
    simp only [D.py, PyData.shown, D.cost]
    have h1 := D.showns_len (x := xs) (by simpa [D.py, PyData.canLay0] using hl) (by simpa using h)
    have h2 := tupleText_len_le (PyData.shownAll (D.pys xs))
    omega
theorem D.showns_len : ∀ {x : List D}, PyData.canLayAll0 (D.pys x) = true → D.roks x = true → ((PyData.shownAll (D.pys x)).map (·.length)).sum + 2 * (PyData.shownAll (D.pys x)).length ≤ D.costs x
  | [], _, _ => by simp [D.pys, PyData.shownAll]
  | x :: r, hl, h => by
    simp only [D.pys, PyData.canLayAll0, Bool.and_eq_true, D.roks] at hl h
    have h1 := D.shown_len hl.1 h.1
    have h2 := D.showns_len hl.2 h.2
    simp only [D.pys, PyData.shownAll, D.costs, List.map_cons, List.sum_cons, List.length_cons]
    omega
end
theorem call_repr (hg : X.A.guards = some []) (hu : X.A.units + 100 < cLine) : CallR X (.builtin "repr") (fun xs H Q => ∃ v d, xs = [v] ∧ Dp X.K H v d ∧ d.showable = true ∧ d.canLay0 = true ∧ d.depth ≤ 64 ∧ d.shown.length ≤ sizeLine ∧ Q (.str d.shown) H) := by
  intro pins s σ H xs us Q I r h
  obtain ⟨v, d, rfl, dp, hs, hl, hd, hz, q⟩ := h
  obtain ⟨u, rfl, ru⟩ := vals1 r
  obtain ⟨as, rd1⟩ := Dp.reads I d v u dp ru
  cases dp with
  | non => cases ru; exact call_repr_gives (typeIs_none s) F.slot_NoneType_repr F.entry_NoneType_repr (F.args_NoneType_repr_1 _) gives_none_repr ⟨.str _, H, I.tok _, ⟨_, rfl⟩, q⟩
  | bl b => cases ru; exact P.repr_of_bool ⟨.str _, H, I.tok _, ⟨_, rfl⟩, q⟩
  | int i => obtain ⟨t, rfl⟩ := ru; exact P.repr_of_int (by simpa [PyData.showable] using hs) ⟨.str _, H, I.tok _, ⟨_, rfl⟩, q⟩
  | str z => obtain ⟨t, rfl⟩ := ru; exact P.repr_of_str ⟨.str _, H, I.tok _, ⟨_, rfl⟩, q⟩ hz
  | lst h1 h2 =>
    cases ru
    exact repr_of_reads' rd1 hs (PyData.noDict_hsm (PyData.hasDict_of_canLay _ hl)) hg (by omega) (fun b o e => e) (fun h' u tk hk => ⟨.str _, H, I.kept hk, ⟨_, rfl⟩, q⟩) hz
  | tup h1 h2 =>
    cases ru
    exact repr_of_reads' rd1 hs (PyData.noDict_hsm (PyData.hasDict_of_canLay _ hl)) hg (by omega) (fun b o e => e) (fun h' u tk hk => ⟨.str _, H, I.kept hk, ⟨_, rfl⟩, q⟩) hz
@[simp] def fRepr (w : W) (h : Sto) : Re W := match dataOf h w with
  | some x => if (x.rok && decide (x.depth ≤ 64) && decide (x.cost ≤ lim)) = true then .ok (.t x.py.shown) h else .stuck
  | none => .stuck
theorem c_repr (hg : X.A.guards = some []) (hu : X.A.units + 100 < cLine) (hK : X.K = g.K := by rfl) : Fn1 X g Z (.builtin "repr") (f1 fRepr) := Fn1.one (call_repr hg hu) fun {σ H M fl h v w Q} rh rv p => by
  simp only [fRepr] at p
  cases e : dataOf h w with
  | none => rw [e] at p; exact p.elim
  | some x =>
    rw [e] at p
    obtain ⟨q, p⟩ := po_if p
    rw [Bool.and_eq_true, Bool.and_eq_true, decide_eq_true_eq, decide_eq_true_eq] at q
    obtain ⟨d1, l1⟩ := dataOf_dp rh rv e
    rw [hK]
    exact ⟨v, _, rfl, d1, D.show_py _ q.1.1, l1, by rw [D.depth_py]; exact q.1.2, Nat.le_trans (D.shown_len l1 q.1.1) (by rw [← lim_line]; exact q.2), p _ H M (Ext.refl H M) rh .t⟩
end
end
end Xs

/-! XsI: comprehensions, slices, methods of lists. -/
namespace Xs
noncomputable section
open PySem PySem.Spec PyProof.Rows L2
def wipeR (r : Env) : List Nat → Env
  | [] => r
  | v :: vs => (wipeR r vs).set v none
/-- nothing is raised there -/
@[simp] def Re.noex {α : Type} : Re α → Re α
  | .exc _ _ => .stuck
  | o => o
/-- the turns of a comprehension -/
def lcLoop (nxt : Nxt) (tg : XG) (c : XT) (e : XE) : Nat → Nat → List W → Env → Sto → Re (List W)
  | 0, _, _, _, _ => .stuck
  | n + 1, i, acc, r, h => match nxt i h with
    | none => .stuck
    | some none => .ok acc h
    | some (some w) => match tg w r with
      | none => .stuck
      | some r1 => (c r1 h).noex.bind fun t h1 => if t = true then
          (e r1 h1).noex.bind fun x h2 => if acc.length < lim then lcLoop nxt tg c e n (i + 1) (acc ++ [x]) r h2 else .stuck
        else lcLoop nxt tg c e n (i + 1) acc r h1
def xLcs (src : XI) (tg : XG) (c : XT) (e : XE) (own : List Nat) : XA := fun r h => (src r h).bind fun p h1 => lcLoop p.2 tg c e p.1 0 [] (wipeR r own) h1
/-- its list: one that stays, one that may change -/
@[simp] def xLc (src : XI) (tg : XG) (c : XT) (e : XE) (own : List Nat) : XE := fun r h => (xLcs src tg c e own r h).bind fun ws h1 => match pureL ws with
  | some ds => .ok (.d (.lst ds)) h1
  | none => .stuck
@[simp] def xLcN (src : XI) (tg : XG) (c : XT) (e : XE) (own : List Nat) : XE := fun r h => (xLcs src tg c e own r h).bind fun ws h1 => .ok (.l h1.o.length) ⟨h1.o ++ [.lst ws], h1.c⟩
@[simp] def xYes : XT := fun _ h => .ok true h
section
variable {X : Cx} {g : G} {Z : WX} {pos : Pos} {H H' : Hp} {M M' : Mu} {fl : List Nat} {h : Sto} {v u : V} {w y : W} {σ : L2.St} {Q : VK} {r : Env}
theorem RS.wipe (q : RS g H M σ r) : ∀ own : List Nat, RS g H M (L2.wipe σ own) (wipeR r own)
  | [] => q
  | i :: own => (RS.wipe q own).unset
/-- the list at p is under work: it may change, it is no place of the store -/
structure Wk (H : Hp) (M : Mu) (p : Addr) (vs : List V) : Prop where
  at_ : H p = some (.lst vs)
  b : M.B p
  m : p ∉ M.m
theorem Wk.exw {p : Addr} {vs ys : List V} (k : Wk H M p vs) : Exw H M (upd H p (.lst ys)) M := by
  have e0 := k.at_
  refine ⟨fun _ _ e => e, fun a o e n => ⟨?_, n⟩, fun a xs e => ?_, fun a o u e => ?_⟩
  · rw [upd_ne (fun z => n (by rw [z]; exact k.b))]; exact e
  · rw [upd_ne (fun z => by rw [z, e0] at e; cases e)]; exact e
  · rw [upd_ne (fun z => by rw [z, e0] at e; cases e)]; exact e
theorem RH.wk {p : Addr} {vs ys : List V} (q : RH g H M fl h) (k : Wk H M p vs) : RH g (upd H p (.lst ys)) M fl h :=
  ⟨q.nd, q.sub, q.len, fun n a o e1 e2 => by
    obtain ⟨u, h1, h2⟩ := q.ev n a o e1 e2
    exact ⟨u, by rw [upd_ne (fun z => k.m (by rw [← z]; exact List.mem_of_getElem? e1))]; exact h1, h2.mw k.exw⟩, q.cl, q.fle⟩
theorem Ext.wk {H1 : Hp} {M1 : Mu} {p : Addr} {ys : List V} (x : Ext H1 M1 H M) (hp : H1 p = none) : Ext H1 M1 (upd H p (.lst ys)) M := by
  have ne : ∀ a o, H1 a = some o → a ≠ p := fun a o e => ne_of_none e hp
  exact ⟨x.pre, fun a o e n => ⟨by rw [upd_ne (ne a o e)]; exact (x.old a o e n).1, (x.old a o e n).2⟩, x.bb, fun a xs e => by rw [upd_ne (ne a _ e)]; exact x.tup a xs e, fun a o u e => by rw [upd_ne (ne a _ e)]; exact x.frz a o u e,
    fun a o e => let ⟨o', e'⟩ := x.dom a o e; ⟨o', by rw [upd_ne (ne a o e)]; exact e'⟩⟩
theorem Wk.ext {p : Addr} {vs : List V} (k : Wk H M p vs) (x : Ext H M H' M') : Wk H' M' p vs := let ⟨e, n⟩ := x.old p _ k.at_ k.m; ⟨e, (x.bb p _ k.at_).mp k.b, n⟩
/-- the end: it stays from now on -/
theorem Wk.fz {H1 : Hp} {M1 : Mu} {p : Addr} {vs : List V} (k : Wk H M p vs) (x : Ext H1 M1 H M) (hp : H1 p = none) (q : RH g H M fl h) : Ext H1 M1 H (M.fz p) ∧ RH g H (M.fz p) fl h ∧ Exw H M H (M.fz p) := by
  have e : Exw H M H (M.fz p) := ⟨fun _ _ e => e, fun a o e n => ⟨e, fun z => n z.1⟩, fun _ _ e => e, fun _ _ _ e => e⟩
  refine ⟨⟨x.pre, x.old, fun a o e => (x.bb a o e).trans ⟨fun z => ⟨z, ne_of_none e hp⟩, fun z => z.1⟩, x.tup, x.frz, x.dom⟩, ⟨q.nd, fun a ha => ⟨q.sub a ha, fun z => k.m (by rw [← z]; exact ha)⟩, q.len, fun n a o e1 e2 => ?_, q.cl, q.fle⟩, e⟩
  obtain ⟨u, h1, h2⟩ := q.ev n a o e1 e2
  exact ⟨u, h1, h2.mw e⟩
/-- the end: it is a place of the store from now on -/
theorem Wk.pl {H1 : Hp} {M1 : Mu} {p : Addr} {vs : List V} {ws : List W} (k : Wk H M p vs) (x : Ext H1 M1 H M) (hp : H1 p = none) (q : RH g H M fl h) (rv : RWs g H M vs ws) :
    Ext H1 M1 H ⟨M.B, M.m ++ [p]⟩ ∧ RH g H ⟨M.B, M.m ++ [p]⟩ fl ⟨h.o ++ [.lst ws], h.c⟩ := by
  have e : Exw H M H ⟨M.B, M.m ++ [p]⟩ := ⟨fun n a e => by
    show (M.m ++ [p])[n]? = _
    rw [List.getElem?_append_left (List.getElem?_eq_some_iff.mp e).1]
    exact e, fun a o e n => ⟨e, n⟩, fun _ _ e => e, fun _ _ _ e => e⟩
  refine ⟨⟨fun n a z => e.pre n a (x.pre n a z), fun a o e n => ⟨(x.old a o e n).1, fun z => ?_⟩, x.bb, x.tup, x.frz, x.dom⟩, ⟨?_, fun a ha => ?_, ?_, fun n a o e1 e2 => ?_, fun hc f hf j o hj ej => ?_, fun f hf => ?_⟩⟩
  · rcases List.mem_append.mp z with z | z
    · exact (x.old a o e n).2 z
    · exact ne_of_none e hp (List.mem_singleton.mp z)
  · show (M.m ++ [p]).Nodup
    rw [List.nodup_append]
    exact ⟨q.nd, List.nodup_cons.mpr ⟨by simp, List.nodup_nil⟩, fun a ha b hb z => k.m (by rw [← List.mem_singleton.mp hb, ← z]; exact ha)⟩
  · rcases List.mem_append.mp ha with z | z
    · exact q.sub a z
    · rw [List.mem_singleton.mp z]; exact k.b
  · show (M.m ++ [p]).length = (h.o ++ [O.lst ws]).length
    rw [List.length_append, List.length_append, q.len]
    rfl
  · have e1' : (M.m ++ [p])[n]? = some a := e1
    have e2' : (h.o ++ [.lst ws])[n]? = some o := e2
    by_cases hn : n < M.m.length
    · rw [List.getElem?_append_left hn] at e1'
      rw [List.getElem?_append_left (by rw [← q.len]; exact hn)] at e2'
      obtain ⟨u', h1, h2⟩ := q.ev n a o e1' e2'
      exact ⟨u', h1, h2.mw e⟩
    · rw [List.getElem?_append_right (by omega)] at e1'
      rw [List.getElem?_append_right (by rw [← q.len]; omega)] at e2'
      have hz : n - M.m.length = 0 := by
        have := (List.getElem?_eq_some_iff.mp e1').1
        simp at this
        exact this
      rw [hz] at e1'
      rw [← q.len, hz] at e2'
      simp at e1' e2'
      subst e1' e2'
      exact ⟨_, k.at_, RWs.mw e rv⟩
  · have ej' : (h.o ++ [.lst ws])[j]? = some o := ej
    rw [List.getElem?_append_left (Nat.lt_of_lt_of_le hj (q.fle f hf))] at ej'
    exact q.cl hc f hf j o hj ej'
  · show f ≤ (h.o ++ [O.lst ws]).length
    rw [List.length_append]
    exact Nat.le_trans (q.fle f hf) (Nat.le_add_right _ _)
theorem RWs.app1 {vs : List V} {ws : List W} (q : RWs g H M vs ws) (r : RW g H M v w) : RWs g H M (vs ++ [v]) (ws ++ [w]) := Paired.app q (.cons r .nil)
theorem wipe_idem : ∀ own : List Nat, L2.wipe (L2.wipe σ own) own = L2.wipe σ own := fun own => by
  have key : ∀ (l : List Nat) (τ : L2.St), (∀ j ∈ l, ∀ v, τ[j]? ≠ some (some v)) → L2.wipe τ l = τ := by
    intro l
    induction l with
    | nil => intro τ _; rfl
    | cons i l ih =>
      intro τ hn
      show (L2.wipe τ l).set i none = τ
      rw [ih τ fun j hj => hn j (List.mem_cons_of_mem _ hj)]
      refine List.ext_getElem? fun k => ?_
      by_cases hk : i = k
      · subst hk
        rw [List.getElem?_set, if_pos rfl]
        split
        · rename_i hl
          have e := hn i List.mem_cons_self
          rw [List.getElem?_eq_getElem hl] at e ⊢
          cases e2 : τ[i] with
          | none => rfl
          | some v => exact absurd (by rw [e2]) (e v)
        · rename_i hl
          exact (List.getElem?_eq_none (by omega)).symm
      · rw [List.getElem?_set_ne hk]
  exact key own _ fun j hj v e => (wipe_some e).2 hj
theorem start_wk {H1 : Hp} {M1 : Mu} {D : Addr} (rh1 : RH g H1 M1 fl h) (hD : H1 D = none) : Ext H1 M1 (upd H1 D (.lst [])) ⟨fun a => M1.B a ∨ a = D, M1.m⟩ ∧ RH g (upd H1 D (.lst [])) ⟨fun a => M1.B a ∨ a = D, M1.m⟩ fl h ∧ Wk (upd H1 D (.lst [])) ⟨fun a => M1.B a ∨ a = D, M1.m⟩ D [] := by
  have ne : ∀ a o, H1 a = some o → a ≠ D := fun a o e => ne_of_none e hD
  have x : Ext H1 M1 (upd H1 D (.lst [])) ⟨fun a => M1.B a ∨ a = D, M1.m⟩ := ⟨fun _ _ e => e, fun a o e n => ⟨by rw [upd_ne (ne a o e)]; exact e, n⟩, fun a o e => ⟨.inl, fun z => z.elim id fun z => absurd z (ne a o e)⟩,
    fun a xs e => by rw [upd_ne (ne a _ e)]; exact e, fun a o u e => by rw [upd_ne (ne a _ e)]; exact e, fun a o e => ⟨o, by rw [upd_ne (ne a o e)]; exact e⟩⟩
  refine ⟨x, rh1.ext x rfl (fun a ha => .inl (rh1.sub a ha)) fun a ha => ?_, upd_same, .inr rfl, fun ha => ?_⟩
  · obtain ⟨o, u, e, _⟩ := rh1.mem ha
    rw [upd_ne (ne a u e)]
  · obtain ⟨o, u, e, _⟩ := rh1.mem ha
    exact ne D u e rfl
/-- the turns, walked: E what is wanted of the list at the end -/
theorem lc_walk {nxt : Nxt} {J : It} {xg : XG} {xc : XT} {xe : XE} {own : List Nat} {H1 : Hp} {M1 : Mu} {h1 : Sto} {m0 : Nat} {E : Re (List W) → Prop} {Z0 : WX} (rs : RS g H1 M1 σ r) (rh1 : RH g H1 M1 fl h1) (ok : ItOk g J nxt H1 M1)
    (p : E (lcLoop nxt xg xc xe m0 0 [] (wipeR r own) h1)) (st : ¬ E .stuck)
    (fin : ∀ ws h2 D H2 M2 vs, H1 D = none → Ext H1 M1 H2 M2 → RH g H2 M2 fl h2 → Wk H2 M2 D vs → RWs g H2 M2 vs ws → E (.ok ws h2) → Q (.ref D) H2) (D : Addr) (hD : H1 D = none) :
    ∃ W : Nat → Nat → Hp → Prop, (∃ m, W 0 m (upd H1 D (.lst []))) ∧ ∀ i m H, W i m H →
      (J.stop i H ∧ Q (.ref D) H) ∨ (J.go i H ∧ ∃ Nx : Hp → Prop, (∀ H', Nx H' → ∃ m', m' < m ∧ W (i + 1) m' H') ∧ ∀ x H', J.yld i H x H' → rdG g own xg x (L2.wipe σ own) H' fun σ2 H2 => L2.wipe σ2 own = L2.wipe σ own ∧ rdT g Z0 xc σ2 H2 fun b H3 =>
        if b = true then rdE g Z0 xe σ2 H3 fun y H4 => ∃ acc, H4 D = some (.lst acc) ∧ acc.length < sizeLine ∧ Nx (upd H4 D (.lst (acc ++ [y]))) else Nx H3) := by
  obtain ⟨x0, rh0, k0⟩ := start_wk rh1 hD
  refine ⟨fun i m H' => ∃ h' M' acc vs, Ext H1 M1 H' M' ∧ RH g H' M' fl h' ∧ Wk H' M' D vs ∧ RWs g H' M' vs acc ∧ E (lcLoop nxt xg xc xe m i acc (wipeR r own) h'), ⟨m0, h1, _, [], [], x0, rh0, k0, .nil, p⟩, ?_⟩
  rintro i m H' ⟨h', M', acc, vs, x', rh', k', rv', p'⟩
  obtain ⟨s1, s2⟩ := ok fl i H' M' h' x' rh'
  have rs' : RS g H' M' (L2.wipe σ own) (wipeR r own) := (rs.mono x' rh1.sub).wipe own
  cases m with
  | zero => exact (st p').elim
  | succ m =>
    simp only [lcLoop] at p'
    cases e : nxt i h' with
    | none => rw [e] at p'; exact (st p').elim
    | some o =>
      rw [e] at p'
      cases o with
      | none => exact .inl ⟨s1 e, fin acc h' D H' M' vs hD x' rh' k' rv' p'⟩
      | some w =>
        obtain ⟨go, s3⟩ := s2 w e
        simp only at p'
        cases e2 : xg w (wipeR r own) with
        | none => rw [e2] at p'; exact (st p').elim
        | some r1 =>
          rw [e2] at p'
          simp only at p'
          refine .inr ⟨go, fun H2 => ∃ h2 M2 acc2 vs2, Ext H1 M1 H2 M2 ∧ RH g H2 M2 fl h2 ∧ Wk H2 M2 D vs2 ∧ RWs g H2 M2 vs2 acc2 ∧ E (lcLoop nxt xg xc xe m (i + 1) acc2 (wipeR r own) h2), fun H2 z => ⟨m, Nat.lt_succ_self m, z⟩, fun y H2 yd => ?_⟩
          obtain ⟨M2, x2, rh2, rw2⟩ := s3 y H2 yd
          refine ⟨wipeR r own, h', M2, fl, w, rs'.mono x2 rh'.sub, rh2, rw2, r1, e2, fun σ3 rs3 hw => ⟨hw.trans (wipe_idem own), ?_⟩⟩
          refine ⟨r1, h', M2, fl, rs3, rh2, ?_⟩
          cases e3 : xc r1 h' with
          | exc _ _ => rw [e3] at p'; exact (st p').elim
          | stuck => rw [e3] at p'; exact (st p').elim
          | ok t h3 =>
            rw [e3] at p'
            intro b H3 M3 x3 rh3 rb
            have rb : b = t := rb
            subst rb
            cases b with
            | false => exact ⟨h3, M3, acc, vs, (x'.trans x2).trans x3, rh3, (k'.ext x2).ext x3, RWs.mono x3 rh2.sub (RWs.mono x2 rh'.sub rv'), p'⟩
            | true =>
              have p' : E ((xe r1 h3).noex.bind fun x h2 => if acc.length < lim then lcLoop nxt xg xc xe m (i + 1) (acc ++ [x]) (wipeR r own) h2 else .stuck) := p'
              simp only [if_true]
              refine ⟨r1, h3, M3, fl, rs3.mono x3 rh2.sub, rh3, ?_⟩
              cases e4 : xe r1 h3 with
              | exc _ _ => rw [e4] at p'; exact (st p').elim
              | stuck => rw [e4] at p'; exact (st p').elim
              | ok z h4 =>
                rw [e4] at p'
                intro zv H4 M4 x4 rh4 rz
                have p' : E (if acc.length < lim then lcLoop nxt xg xc xe m (i + 1) (acc ++ [z]) (wipeR r own) h4 else .stuck) := p'
                have k4 := ((k'.ext x2).ext x3).ext x4
                have rv4 := RWs.mono x4 rh3.sub (RWs.mono x3 rh2.sub (RWs.mono x2 rh'.sub rv'))
                by_cases hl : acc.length < lim
                · rw [if_pos hl] at p'
                  have ew : Exw H4 M4 (upd H4 D (.lst (vs ++ [zv]))) M4 := k4.exw
                  refine ⟨vs, k4.at_, by rw [RWs.length rv4, ← lim_line]; exact hl, h4, M4, acc ++ [z], vs ++ [zv], (((x'.trans x2).trans x3).trans x4).wk hD, rh4.wk k4, ⟨upd_same, k4.b, k4.m⟩, RWs.mw ew (RWs.app1 rv4 rz), p'⟩
                · rw [if_neg hl] at p'
                  exact (st p').elim
theorem se_lc {elt tg iter : Expr} {ifs : List Expr} {scope : Scope} {own : List (Str × Nat)} {src : XI} {xg : XG} {xc : XT} {xe : XE} {Z0 : WX} (hc : X.calm = true) (hN : X.N.Nodup) (hi : PI X tg iter (rdI g Z src)) (ok : BlkOk X.N X.env.scope scope own)
    (hg : ∀ (s : Shared) (H : Hp) (C : Addr) (cl : List (Str × Addr)) (fp : List Addr), PG (X.blk s H scope (compEnvC scope cl C X.env) fp) tg (rdG g (own.map (·.2)) xg)) (ht : ∀ (s : Shared) (H : Hp) (C : Addr) (cl : List (Str × Addr)) (fp : List Addr), PTs (X.blk s H scope (compEnvC scope cl C X.env) fp) ifs (rdT g Z0 xc))
    (he : ∀ (s : Shared) (H : Hp) (C : Addr) (cl : List (Str × Addr)) (fp : List Addr), PE (X.blk s H scope (compEnvC scope cl C X.env) fp) elt (rdE g Z0 xe)) (hs : ∀ x, foldedSetIterable iter X.env x = pure x := by intro _; rfl) :
    PE X (.ListComp elt [⟨tg, iter, ifs, 0⟩] scope pos) (rdE g Z (xLc src xg xc xe (own.map (·.2)))) :=
  PE.imp (pe_lc hc hN hi ok hg ht he hs) fun σ H Q ⟨r, h, M, fl, rs, rh, p⟩ => ⟨r, h, M, fl, rs, rh, Po.bind (Po.assoc p) fun a h1 J H1 M1 e1 rh1 ok1 p1 D hD =>
    lc_walk (E := fun x => Po g Z σ fl (RW g) H1 M1 Q (x.bind fun ws h1 => match pureL ws with | some ds => .ok (.d (.lst ds)) h1 | none => .stuck)) (rs.mono e1 rh.sub) rh1 ok1 p1 (fun z => z) (fun ws h2 D H2 M2 vs hD x2 rh2 k2 rv p2 => by
      have p2 : Po g Z σ fl (RW g) H1 M1 Q (match pureL ws with | some ds => .ok (.d (.lst ds)) h2 | none => .stuck) := p2
      cases e : pureL ws with
      | none => rw [e] at p2; exact p2.elim
      | some ds =>
        rw [e] at p2
        obtain ⟨x3, rh3, ew⟩ := k2.fz x2 hD rh2
        rw [pureL_some e] at rv
        exact p2 _ _ _ x3 rh3 (.d (.lst ⟨k2.at_, fun z => z.2 rfl⟩ (RDs.mw ew.d (RWs.toD rv))))) D hD⟩
theorem se_lcN {elt tg iter : Expr} {ifs : List Expr} {scope : Scope} {own : List (Str × Nat)} {src : XI} {xg : XG} {xc : XT} {xe : XE} {Z0 : WX} (hc : X.calm = true) (hN : X.N.Nodup) (hi : PI X tg iter (rdI g Z src)) (ok : BlkOk X.N X.env.scope scope own)
    (hg : ∀ (s : Shared) (H : Hp) (C : Addr) (cl : List (Str × Addr)) (fp : List Addr), PG (X.blk s H scope (compEnvC scope cl C X.env) fp) tg (rdG g (own.map (·.2)) xg)) (ht : ∀ (s : Shared) (H : Hp) (C : Addr) (cl : List (Str × Addr)) (fp : List Addr), PTs (X.blk s H scope (compEnvC scope cl C X.env) fp) ifs (rdT g Z0 xc))
    (he : ∀ (s : Shared) (H : Hp) (C : Addr) (cl : List (Str × Addr)) (fp : List Addr), PE (X.blk s H scope (compEnvC scope cl C X.env) fp) elt (rdE g Z0 xe)) (hs : ∀ x, foldedSetIterable iter X.env x = pure x := by intro _; rfl) :
    PE X (.ListComp elt [⟨tg, iter, ifs, 0⟩] scope pos) (rdE g Z (xLcN src xg xc xe (own.map (·.2)))) :=
  PE.imp (pe_lc hc hN hi ok hg ht he hs) fun σ H Q ⟨r, h, M, fl, rs, rh, p⟩ => ⟨r, h, M, fl, rs, rh, Po.bind (Po.assoc p) fun a h1 J H1 M1 e1 rh1 ok1 p1 D hD =>
    lc_walk (E := fun x => Po g Z σ fl (RW g) H1 M1 Q (x.bind fun ws h1 => .ok (.l h1.o.length) ⟨h1.o ++ [.lst ws], h1.c⟩)) (rs.mono e1 rh.sub) rh1 ok1 p1 (fun z => z) (fun ws h2 D H2 M2 vs hD x2 rh2 k2 rv p2 => by
      obtain ⟨x3, rh3⟩ := k2.pl x2 hD rh2 rv
      refine p2 _ _ _ x3 rh3 (.l ?_)
      show (M2.m ++ [D])[h2.o.length]? = some D
      rw [List.getElem?_append_right (by rw [rh2.len]; exact Nat.le_refl _), rh2.len, Nat.sub_self]
      rfl) D hD⟩
/-- y = [..] in one statement -/
theorem ss_setLc {i : Nat} {y : Str} {py spos : Pos} {elt tg iter : Expr} {ifs : List Expr} {scope : Scope} {own : List (Str × Nat)} {src : XI} {xg : XG} {xc : XT} {xe : XE} {Z0 : WX} (hc : X.calm = true) (hN : X.N.Nodup) (hi : PI X tg iter (rdI g Z src)) (ok : BlkOk X.N X.env.scope scope own)
    (hg : ∀ (s : Shared) (H : Hp) (C : Addr) (cl : List (Str × Addr)) (fp : List Addr), PG (X.blk s H scope (compEnvC scope cl C X.env) fp) tg (rdG g (own.map (·.2)) xg)) (ht : ∀ (s : Shared) (H : Hp) (C : Addr) (cl : List (Str × Addr)) (fp : List Addr), PTs (X.blk s H scope (compEnvC scope cl C X.env) fp) ifs (rdT g Z0 xc))
    (he : ∀ (s : Shared) (H : Hp) (C : Addr) (cl : List (Str × Addr)) (fp : List Addr), PE (X.blk s H scope (compEnvC scope cl C X.env) fp) elt (rdE g Z0 xe))
    (hsw : swapsWith (.ListComp elt [⟨tg, iter, ifs, 0⟩] scope pos) (some (.Name y py)) spos.line X.env = pure true) (hy : X.N[i]? = some y := by rfl) (hyl : X.env.scope.names.lookup y = some .local := by rfl) (hs : ∀ x, foldedSetIterable iter X.env x = pure x := by intro _; rfl) :
    PS X (.Assign [.Name y py] (.ListComp elt [⟨tg, iter, ifs, 0⟩] scope pos) spos) (rdS g Z (sSet i (xLc src xg xc xe (own.map (·.2))))) :=
  PS.imp (ps_setLc (i := i) hc hN hy hyl hsw hi ok hg ht he hs) fun D' σ H ⟨r, h, M, fl, rs, rh, p⟩ => ⟨r, h, M, fl, rs, rh, by
    have p : PoS g Z fl H M D' (((src r h).bind fun p h1 => (lcLoop p.2 xg xc xe p.1 0 [] (wipeR r (own.map (·.2))) h1).bind fun ws h1 => match pureL ws with | some ds => .ok (.d (.lst ds)) h1 | none => .stuck).then r fun w h1 => .nx (r.set i (some w)) h1) := by
      rw [← Re.bind_assoc]
      exact p
    refine Po.bind (k := fun p h1 => (lcLoop p.2 xg xc xe p.1 0 [] (wipeR r (own.map (·.2))) h1).bind fun ws h1 => match pureL ws with | some ds => .ok (.d (.lst ds)) h1 | none => .stuck) (R2 := RW g) (Q := fun v H1 => D'.nx (σ.set i (some v)) H1) (Po.then (k := fun w h1 => Fl.nx (r.set i (some w)) h1) rs rh.sub p fun x h1 v H1 M1 e1 rs1 rh1 rx p1 => p1 _ H1 M1 (Ext.refl H1 M1) (rs1.set rx) rh1) fun a h1 J H1 M1 e1 rh1 ok1 p1 D hD => ?_
    exact lc_walk (Q := fun v H1 => D'.nx (σ.set i (some v)) H1) (E := fun x => Po g Z σ fl (RW g) H1 M1 (fun v H1 => D'.nx (σ.set i (some v)) H1) (x.bind fun ws h1 => match pureL ws with | some ds => .ok (.d (.lst ds)) h1 | none => .stuck)) (rs.mono e1 rh.sub) rh1 ok1 p1 (fun z => z) (fun ws h2 D H2 M2 vs hD x2 rh2 k2 rv p2 => by
      have p2 : Po g Z σ fl (RW g) H1 M1 (fun v H1 => D'.nx (σ.set i (some v)) H1) (match pureL ws with | some ds => .ok (.d (.lst ds)) h2 | none => .stuck) := p2
      cases e : pureL ws with
      | none => rw [e] at p2; exact p2.elim
      | some ds =>
        rw [e] at p2
        obtain ⟨x3, rh3, ew⟩ := k2.fz x2 hD rh2
        rw [pureL_some e] at rv
        exact p2 _ _ _ x3 rh3 (.d (.lst ⟨k2.at_, fun z => z.2 rfl⟩ (RDs.mw ew.d (RWs.toD rv))))) D hD⟩
theorem ss_setLcN {i : Nat} {y : Str} {py spos : Pos} {elt tg iter : Expr} {ifs : List Expr} {scope : Scope} {own : List (Str × Nat)} {src : XI} {xg : XG} {xc : XT} {xe : XE} {Z0 : WX} (hc : X.calm = true) (hN : X.N.Nodup) (hi : PI X tg iter (rdI g Z src)) (ok : BlkOk X.N X.env.scope scope own)
    (hg : ∀ (s : Shared) (H : Hp) (C : Addr) (cl : List (Str × Addr)) (fp : List Addr), PG (X.blk s H scope (compEnvC scope cl C X.env) fp) tg (rdG g (own.map (·.2)) xg)) (ht : ∀ (s : Shared) (H : Hp) (C : Addr) (cl : List (Str × Addr)) (fp : List Addr), PTs (X.blk s H scope (compEnvC scope cl C X.env) fp) ifs (rdT g Z0 xc))
    (he : ∀ (s : Shared) (H : Hp) (C : Addr) (cl : List (Str × Addr)) (fp : List Addr), PE (X.blk s H scope (compEnvC scope cl C X.env) fp) elt (rdE g Z0 xe))
    (hsw : swapsWith (.ListComp elt [⟨tg, iter, ifs, 0⟩] scope pos) (some (.Name y py)) spos.line X.env = pure true) (hy : X.N[i]? = some y := by rfl) (hyl : X.env.scope.names.lookup y = some .local := by rfl) (hs : ∀ x, foldedSetIterable iter X.env x = pure x := by intro _; rfl) :
    PS X (.Assign [.Name y py] (.ListComp elt [⟨tg, iter, ifs, 0⟩] scope pos) spos) (rdS g Z (sSet i (xLcN src xg xc xe (own.map (·.2))))) :=
  PS.imp (ps_setLc (i := i) hc hN hy hyl hsw hi ok hg ht he hs) fun D' σ H ⟨r, h, M, fl, rs, rh, p⟩ => ⟨r, h, M, fl, rs, rh, by
    have p : PoS g Z fl H M D' (((src r h).bind fun p h1 => (lcLoop p.2 xg xc xe p.1 0 [] (wipeR r (own.map (·.2))) h1).bind fun ws h1 => .ok (.l h1.o.length) ⟨h1.o ++ [.lst ws], h1.c⟩).then r fun w h1 => .nx (r.set i (some w)) h1) := by
      rw [← Re.bind_assoc]
      exact p
    refine Po.bind (k := fun p h1 => (lcLoop p.2 xg xc xe p.1 0 [] (wipeR r (own.map (·.2))) h1).bind fun ws h1 => .ok (.l h1.o.length) ⟨h1.o ++ [.lst ws], h1.c⟩) (R2 := RW g) (Q := fun v H1 => D'.nx (σ.set i (some v)) H1) (Po.then (k := fun w h1 => Fl.nx (r.set i (some w)) h1) rs rh.sub p fun x h1 v H1 M1 e1 rs1 rh1 rx p1 => p1 _ H1 M1 (Ext.refl H1 M1) (rs1.set rx) rh1) fun a h1 J H1 M1 e1 rh1 ok1 p1 D hD => ?_
    exact lc_walk (Q := fun v H1 => D'.nx (σ.set i (some v)) H1) (E := fun x => Po g Z σ fl (RW g) H1 M1 (fun v H1 => D'.nx (σ.set i (some v)) H1) (x.bind fun ws h1 => .ok (.l h1.o.length) ⟨h1.o ++ [.lst ws], h1.c⟩)) (rs.mono e1 rh.sub) rh1 ok1 p1 (fun z => z) (fun ws h2 D H2 M2 vs hD x2 rh2 k2 rv p2 => by
      obtain ⟨x3, rh3⟩ := k2.pl x2 hD rh2 rv
      refine p2 _ _ _ x3 rh3 (.l ?_)
      show (M2.m ++ [D])[h2.o.length]? = some D
      rw [List.getElem?_append_right (by rw [rh2.len]; exact Nat.le_refl _), rh2.len, Nat.sub_self]
      rfl) D hD⟩
theorem sts_nil : PTs X [] (rdT g Z xYes) := ⟨fun pins s σ H Q I h => pts_nil.run pins s σ H Q I (by
  obtain ⟨r, h', M, fl, rs, rh, p⟩ := h
  exact p true H M (Ext.refl H M) rh rfl)⟩
theorem sts_one {c : Expr} {t : XT} (h : PT X c (rdT g Z t)) : PTs X [c] (rdT g Z t) := pts_one h
end
end
end Xs

/-! XsJ: defs and their calls. -/
namespace Xs
noncomputable section
open PySem PySem.Spec PyProof.Rows L2
/-- what a def promises whose computation is F -/
def spF (g : G) (F : List W → Sto → Re W) : Sp := fun vs H Q E => ∃ ws h M fl, RWs g H M vs ws ∧ RH g H M fl h ∧ Po g (fun c d _ H' => E c d H') [] fl (RW g) H M Q (F ws h)
/-- a def at f keeps its promise, where no repr is under way -/
structure FnG (P : Program) (w : World) (K : PySem.W.Frag) (mg : Str → Option Value) (base : Heap) (k : Nat) (f : Addr) (fd : FuncData) (ps : List Str) (sp : Sp) : Prop where
  len : ∀ vs H Q E, sp vs H Q E → vs.length = ps.length
  go : ∀ (A : Around) (outer : List PySem.Env) (s : Shared) (H : Hp) (args : Args) (us : List Value) (vs : List V) (Q : VK) (E : XK), Room k A → A.guards = some [] → Env0 P w K mg base A outer s H → BindsTo s fd args (ps.zip us) → Vals vs us → sp vs H Q E →
    codeAny (model P w) A (.call (.ref f) args) (CR (L2.CX P w) outer P w H s Q E) s
section
variable {P : Program} {w : World} {K : PySem.W.Frag} {mg : Str → Option Value} {base : Heap} {j k : Nat} {f : Addr} {fd : FuncData} {ps : List Str} {sp sp' : Sp}
theorem FnG.mono (F : FnG P w K mg base j f fd ps sp) (h : j ≤ k) : FnG P w K mg base k f fd ps sp := ⟨F.len, fun A outer s H args us vs Q E hr => F.go A outer s H args us vs Q E (hr.mono h)⟩
theorem guards_deeper (A : Around) (env : PySem.Env) : (A.deeper env).guards = A.guards := by
  first
  | rfl
  | simp [Around.deeper]
/-- a def's body from its entry -/
theorem fng_core {name qual : Str} {params : Arguments} {body : List Stmt} {scope : Scope} {dV kV doc pm cdv ct oc : Value} {an od : Option Addr} {osl : Array (Option Value)} {N : List Str} {A : Around} {outer : List PySem.Env} {s : Shared} {H : Hp} {args : Args} {us : List Value} {vs : List V} {Q : VK} {E : XK}
    (lk : K.lookup f = some ⟨oc, od, .func (PySem.W.fnOf name qual params body scope dV kV doc pm an cdv ct), osl⟩) (hcd : PySem.W.codeIn K cdv qual = true) (S : FnScope N ps scope) (hr : Room (k + 1) A) (hgd : A.guards = some []) (e0 : Env0 P w K mg base A outer s H)
    (hb : BindsTo s (PySem.W.fnOf name qual params body scope dV kV doc pm an cdv ct) args (ps.zip us)) (r : Vals vs us) (hsp : sp vs H Q E) (hl : vs.length = ps.length)
    (go : ∃ t, PSs (cxOf (L2.CX P w) P w K mg base N qual scope f cdv A outer s H E) body t ∧ t { nx := fun _ H' => Q .non H', rt := Q } (start N vs) H) :
    codeAny (model P w) A (.call (.ref f) args) (CR (L2.CX P w) outer P w H s Q E) s := by
  have KX : K.In s.heap := e0.mod.kin.keeps fun b o e => (e0.bs b o e).1
  have room : s.heap.NoLimit := e0.mod.nolimit.keeps fun b o e => (e0.bs b o e).1
  have kinds : ∀ y ∈ ps.zip us, scope.names.lookup y.1 = some .local ∨ (scope.names.lookup y.1 = some .cell ∧ ((cellsFrom (s.heap.objs.size + 1) scope.names []).lookup y.1).isSome = true) := fun ⟨n, v⟩ hy =>
    (S.par n (List.of_mem_zip hy).1).elim .inl fun q => .inr ⟨q, PySem.W.cellsFrom_some _ _ _ (.inl q)⟩
  refine codeAny_call_function hr.depth (KX _ _ lk) rfl S.co S.gen rfl (PySem.W.codeRec_of KX hcd) (hb _ _ _ _ ?_)
  refine wpAny_newFunctionEnv_cells S.kind kinds fun env he s1 x => ?_
  subst he
  refine ⟨room.keeps x.toInCall.keep, codeAny_func ?_⟩
  obtain ⟨t, ht, hq⟩ := go
  have I := inv_start (CX := L2.CX P w) (E := E) S hr.hd e0 hl r x
  refine wpAny_mono (ht.run [] s1 (start N vs) H _ I hq) (fun fl s' hs => ?_) fun e s' hs => hs
  cases fl with
  | ret u =>
    obtain ⟨v, σ', H', J, rv, q⟩ := hs
    exact ⟨v, H', J.os, J.bare, J.base, J.hok, rv, q⟩
  | next =>
    obtain ⟨σ', H', J, q⟩ := hs
    exact ⟨V.non, H', J.os, J.bare, J.base, J.hok, rfl, q⟩
  | brk => obtain ⟨_, _, _, q⟩ := hs; exact q.elim
  | cont => obtain ⟨_, _, _, q⟩ := hs; exact q.elim
/-- THE RULE for a def -/
theorem fng {x qual : Str} {st : Stmt} {N : List Str} (F : Fun K x qual st f fd) (S : FnScope N ps (defScope st)) (len : ∀ vs H Q E, sp vs H Q E → vs.length = ps.length)
    (body : ∀ (cdv : Value) (A : Around) (outer : List PySem.Env) (s : Shared) (H : Hp) (vs : List V) (Q : VK) (E : XK), Room k (A.deeper (envOfC qual (defScope st) s.heap.objs.size f cdv)) → A.guards = some [] → sp vs H Q E →
      ∃ t, PSs (cxOf (L2.CX P w) P w K mg base N qual (defScope st) f cdv A outer s H E) (defBody st) t ∧ t { nx := fun _ H' => Q .non H', rt := Q } (start N vs) H) : FnG P w K mg base (k + 1) f fd ps sp := by
  obtain ⟨oc, od, kV, doc, pm, an, cdv, ct, osl, rfl, lk, hcd⟩ := F.ex
  refine ⟨len, fun A outer s H args us vs Q E hr hgd e0 hb r hsp => ?_⟩
  exact fng_core lk hcd S hr hgd e0 hb r hsp (len _ _ _ _ hsp) (body cdv A outer s H vs Q E (hr.deeper _) hgd hsp)
end
end
end Xs

/-! XsK: calls, ends of defs, slices, methods of lists. -/
namespace Xs
noncomputable section
open PySem PySem.Spec PyProof.Rows L2
section
variable {X : Cx} {g : G} {Z : WX} {a b c : Expr} {xa xb xc : XE} {pos p apos : Pos} {H : Hp} {M : Mu} {fl : List Nat} {h : Sto} {v u : V} {w y : W} {σ : L2.St} {Q : VK} {k : Nat} {f C : Addr} {fd : FuncData} {ps : List Str} {F : List W → Sto → Re W} {x m : Str} {e o : Expr} {es : List Expr} {ta : XA}
theorem po_wish {R : Hp → Mu → V → W → Prop} {z : Re W} (q : Po g Z σ fl R H M Q z) : Po g (fun c d _ H' => WE Z σ c d H') [] fl R H M Q z := by
  cases z with
  | ok _ _ => exact q
  | exc _ _ => exact q
  | stuck => exact q
theorem run_g {pins : List (Addr × Obj)} {s : Shared} {us : List Value} {vs : List V} {sp : Sp} {E : L2.St → XK} (Fn : FnG X.prog X.w X.K X.mg X.base k f fd ps sp) (hr : Room k X.A) (hgd : X.A.guards = some []) (hb : Binds X.K fd ps [])
    (hx : PassesAt (L2.CX X.prog X.w) X σ (E σ)) (I : Inv X pins σ H s) (r : Vals vs us) (h : sp vs H Q (E σ)) : wpAny (model X.prog X.w) X.A (call (.ref f) us) (EP X pins σ Q) X.xe s := by
  have b := hb s us I.kIn (by rw [List.append_nil, ← r.length]; exact Fn.len _ _ _ _ h)
  rw [List.append_nil] at b
  refine wpAny_call (codeAny_mono (Fn.go X.A X.stack s H ⟨us, []⟩ us vs Q (E σ) hr hgd I.env0 b r h) fun z s' hq => ?_)
  cases z with
  | error e => exact hx pins H s e s' I hq
  | ok fl =>
    cases fl with
    | ret u => exact I.after hq
    | next => exact hq.elim
    | brk => exact hq.elim
    | cont => exact hq.elim
/-- f(..) -/
theorem se_call (Fn : FnG X.prog X.w X.K X.mg X.base k f fd ps (spF g F)) (hr : Room k X.A) (hgd : X.A.guards = some []) (hb : Binds X.K fd ps []) (tk : Takes X Z) (hm : X.mg x = some (.ref f)) (hk : PySem.W.keepIn X.K (.ref f) = true) (ha : PA X (e :: es) (rdA g Z ta))
    (hg : Gl X x := by rfl) (hdb : (x == ("__debug__" : Str)) = false := by decide) (he : starEach (e :: es) X.env = (false, eval e X.env) :: starEach es X.env := by rfl) (hpl : (backTo pos (starEach es X.env)).any (·.1) = false := by rfl) :
    PE X (.Call (.Name x p) (e :: es) [] pos) (rdE g Z (xApp F ta)) :=
  PE.imp (t := fun σ H Q => rdA g Z ta σ H fun vs H1 => spF g F vs H1 Q (WE Z σ)) ⟨fun pins s σ H Q I h => by
    refine wpAny_Call_Name_kw (ld_glob I hg hm ?_ hdb)
    refine PySem.W.callWith_K (h₀ := X.base) I.ok.mod.kin hk (thn (ha.run pos pins s σ H _ I h) fun us s1 ⟨vs, H1, I1, r, q⟩ => ⟨I1.kIn, ?_⟩) he hpl
    exact run_g Fn hr hgd hb (passAt tk σ) I1 r q⟩ fun σ H Q ⟨r, h, M, fl, rs, rh, q⟩ => ⟨r, h, M, fl, rs, rh, Po.bind q fun ws h1 vs H1 M1 e1 rh1 rw1 p1 => ⟨ws, h1, M1, fl, rw1, rh1, po_wish p1⟩⟩
theorem se_call0 (Fn : FnG X.prog X.w X.K X.mg X.base k f fd ps (spF g F)) (hr : Room k X.A) (hgd : X.A.guards = some []) (hb : Binds X.K fd ps []) (tk : Takes X Z) (hm : X.mg x = some (.ref f)) (hk : PySem.W.keepIn X.K (.ref f) = true)
    (hg : Gl X x := by rfl) (hdb : (x == ("__debug__" : Str)) = false := by decide) : PE X (.Call (.Name x p) [] [] pos) (rdE g Z (xApp F xNil)) :=
  PE.imp (t := fun σ H Q => spF g F [] H Q (WE Z σ)) ⟨fun pins s σ H Q I h => by
    refine wpAny_Call_Name_kw (ld_glob I hg hm ?_ hdb)
    exact PySem.W.callWith_K0 I.kIn hk (run_g (us := []) Fn hr hgd hb (passAt tk σ) I .nil h)⟩ fun σ H Q ⟨r, h, M, fl, rs, rh, q⟩ => ⟨[], h, M, fl, .nil, rh, po_wish q⟩
/-- an instance of the class -/
@[simp] def insOf (c : Str) (h : Sto) : W → Option (List (Str × W))
  | .l k => match h.o[k]? with
    | some (.ins c' fs) => if c' = c then some fs else none
    | _ => none
  | _ => none
theorem insOf_h {c : Str} {fs : List (Str × W)} (rh : RH g H M fl h) (r : RW g H M v w) (hc : g.cm c = some C) (e : insOf c h w = some fs) : ∃ n a dx vs, w = .l n ∧ v = .ref a ∧ M.m[n]? = some a ∧ h.o[n]? = some (.ins c fs) ∧ H a = some (.ins C dx vs) ∧ RWk g H M vs fs := by
  cases w with
  | l n =>
    obtain ⟨a, rfl, e1⟩ := r.l_inv
    simp only [insOf] at e
    split at e
    · rename_i c' fs' ew
      by_cases hcc : c' = c
      · rw [if_pos hcc] at e
        cases e
        subst hcc
        obtain ⟨C', dx, vs, hv, h1, h2⟩ := rh.ins e1 ew
        rw [hc] at h1
        cases h1
        exact ⟨n, a, dx, vs, rfl, rfl, e1, ew, hv, h2⟩
      · rw [if_neg hcc] at e
        cases e
    · cases e
  | _ => cases e
theorem RWk.lookup {vs : List (Str × V)} {ws : List (Str × W)} (q : RWk g H M vs ws) (k : Str) : (ws.lookup k = none ∧ vs.lookup k = none) ∨ ∃ v w, ws.lookup k = some w ∧ vs.lookup k = some v ∧ RW g H M v w := by
  induction q with
  | nil => exact .inl ⟨rfl, rfl⟩
  | @cons p q vs ws h1 h2 ih =>
    obtain ⟨p1, p2⟩ := p
    obtain ⟨q1, q2⟩ := q
    obtain ⟨rfl, h1⟩ := h1
    rw [List.lookup_cons, List.lookup_cons]
    cases k == p1 with
    | true => exact .inr ⟨_, _, rfl, rfl, h1⟩
    | false => exact ih
/-- o.m(..) -/
def xMeth (c m : Str) (F : List W → Sto → Re W) (o : XE) (t : XA) : XE := fun r h => (o r h).bind fun w h1 => match insOf c h1 w with
  | some fs => if (fs.lookup m).isNone = true then (t r h1).bind fun ws h2 => F (w :: ws) h2 else .stuck
  | none => .stuck
theorem meth_ok {σ : L2.St} {H : Hp} {Q : VK} {cn : Str} {xo : XE} (hc : g.cm cn = some C) : rdE g Z (xMeth cn m F xo ta) σ H Q → rdE g Z xo σ H fun x H1 => ∃ a dx fs, x = .ref a ∧ H1 a = some (.ins C dx fs) ∧ fs.lookup m = none ∧
    rdA g Z ta σ H1 fun vs H2 => spF g F (x :: vs) H2 Q (WE Z σ) := fun ⟨r, h, M, fl, rs, rh, q⟩ =>
  ⟨r, h, M, fl, rs, rh, Po.bind q fun w h1 v H1 M1 e1 rh1 rw1 p1 => by
    cases e : insOf cn h1 w with
    | none => rw [e] at p1; exact p1.elim
    | some fs =>
      rw [e] at p1
      obtain ⟨q1, p1⟩ := po_if p1
      obtain ⟨n, a, dx, vs, rfl, rfl, e2, e3, hv, rv⟩ := insOf_h rh1 rw1 hc e
      refine ⟨a, dx, vs, rfl, hv, ?_, r, h1, M1, fl, rs.mono e1 rh.sub, rh1, Po.bind p1 fun ws h2 us H2 M2 x2 rh2 rw2 p2 => ⟨.l n :: ws, h2, M2, fl, .cons (rw1.mono x2 rh1.sub) rw2, rh2, po_wish p2⟩⟩
      rcases RWk.lookup rv m with ⟨_, l2⟩ | ⟨_, _, l1, _, _⟩
      · exact l2
      · rw [l1] at q1; cases q1⟩
theorem se_meth {pl : Sem Bool} {cn : Str} {xo : XE} (hc : g.cm cn = some C) (ho : PE X o (rdE g Z xo)) (cl : Cls X.K C) (hm : Meth X.K C m f) (Fn : FnG X.prog X.w X.K X.mg X.base k f fd ps (spF g F)) (hr : Room k X.A) (hgd : X.A.guards = some []) (hb : Binds X.K fd ps []) (tk : Takes X Z) (ha : PA X (e :: es) (rdA g Z ta))
    (hst : starEach (e :: es) X.env = (false, eval e X.env) :: starEach es X.env := by rfl) (hpl : (backTo pos (starEach es X.env)).any (·.1) = false := by rfl)
    (ht : eval (.Call (.Attribute o m apos) (e :: es) [] pos) X.env = (do
      let ov ← eval o X.env
      standAt apos.atName
      let (f, first) ← holding [ov] (getMethod ov m pl)
      callWith pos f first (backTo pos (starEach (e :: es) X.env)) (backToKw pos (keywordEach [] X.env))) := by rfl) :
    PE X (.Call (.Attribute o m apos) (e :: es) [] pos) (rdE g Z (xMeth cn m F xo ta)) :=
  PE.imp (t := fun σ H Q => rdE g Z xo σ H fun x H1 => ∃ a dx fs, x = .ref a ∧ H1 a = some (.ins C dx fs) ∧ fs.lookup m = none ∧ rdA g Z ta σ H1 fun vs H2 => spF g F (x :: vs) H2 Q (WE Z σ)) ⟨fun pins s σ H Q I h => by
    refine PySem.W.methodCall_KW (pl := pl) (thn (ho.run pins s σ H _ I h) fun u s1 ⟨x, H1, I1, rx, a, dx, fs, ex, ea, l, q⟩ => ?_) ht
    subst ex
    obtain rfl : u = Value.ref a := rx
    refine getmeth_ok I1 ea cl hm l ?_
    refine PySem.W.callWith_K (first := [.ref a]) (h₀ := X.base) I.ok.mod.kin hm.kp (thn (ha.run pos pins s1 σ H1 _ I1 q) fun us s2 ⟨vs, H2, I2, r, q2⟩ => ⟨I2.kIn, ?_⟩) hst hpl
    exact run_g (us := .ref a :: us) (vs := .ref a :: vs) Fn hr hgd hb (passAt tk σ) I2 (.cons rfl r) q2⟩ fun σ H Q => meth_ok hc
theorem se_meth0 {pl : Sem Bool} {cn : Str} {xo : XE} (hc : g.cm cn = some C) (ho : PE X o (rdE g Z xo)) (cl : Cls X.K C) (hm : Meth X.K C m f) (Fn : FnG X.prog X.w X.K X.mg X.base k f fd ps (spF g F)) (hr : Room k X.A) (hgd : X.A.guards = some []) (hb : Binds X.K fd ps []) (tk : Takes X Z)
    (ht : eval (.Call (.Attribute o m apos) [] [] pos) X.env = (do
      let ov ← eval o X.env
      standAt apos.atName
      let (f, first) ← holding [ov] (getMethod ov m pl)
      callWith pos f first (backTo pos (starEach [] X.env)) (backToKw pos (keywordEach [] X.env))) := by rfl) :
    PE X (.Call (.Attribute o m apos) [] [] pos) (rdE g Z (xMeth cn m F xo xNil)) :=
  PE.imp (t := fun σ H Q => rdE g Z xo σ H fun x H1 => ∃ a dx fs, x = .ref a ∧ H1 a = some (.ins C dx fs) ∧ fs.lookup m = none ∧ rdA g Z xNil σ H1 fun vs H2 => spF g F (x :: vs) H2 Q (WE Z σ)) ⟨fun pins s σ H Q I h => by
    refine PySem.W.methodCall_KW (pl := pl) (thn (ho.run pins s σ H _ I h) fun u s1 ⟨x, H1, I1, rx, a, dx, fs, ex, ea, l, q⟩ => ?_) ht
    subst ex
    obtain rfl : u = Value.ref a := rx
    refine getmeth_ok I1 ea cl hm l ?_
    obtain ⟨r, h, M, fl, rs, rh, q⟩ := q
    exact PySem.W.callWith_K0 (first := [.ref a]) I1.kIn hm.kp (run_g (us := [.ref a]) (vs := [.ref a]) Fn hr hgd hb (passAt tk σ) I1 (.cons rfl .nil) (q [] H1 M (Ext.refl H1 M) rh .nil))⟩ fun σ H Q => meth_ok hc
/-- o.f -/
@[simp] def fFld (c f : Str) (w : W) (h : Sto) : Re W := match insOf c h w with
  | some fs => match fs.lookup f with
    | some x => .ok x h
    | none => .stuck
  | none => .stuck
theorem se_fld {cn n : Str} {xo : XE} (hc : g.cm cn = some C) (cl : Cls X.K C) (na : NoAttr X.K C n) (ho : PE X o (rdE g Z xo)) (hb : attributeBase o n X.env (eval o X.env) = eval o X.env := by rfl) : PE X (.Attribute o n pos) (rdE g Z (xUn (fFld cn n) xo)) :=
  PE.imp (pe_fld ho hb) fun σ H Q ⟨r, h, M, fl, rs, rh, q⟩ => ⟨r, h, M, fl, rs, rh, Po.bind q fun w h1 v H1 M1 e1 rh1 rw1 p1 => by
    simp only [fFld] at p1
    cases e : insOf cn h1 w with
    | none => rw [e] at p1; exact p1.elim
    | some fs =>
      rw [e] at p1
      obtain ⟨n1, a, dx, vs, rfl, rfl, e2, e3, hv, rv⟩ := insOf_h rh1 rw1 hc e
      rcases RWk.lookup rv n with ⟨l1, l2⟩ | ⟨v', w', l1, l2, rw'⟩
      · simp only [l1] at p1; exact p1.elim
      · simp only [l1] at p1
        exact ⟨a, C, dx, vs, v', rfl, hv, cl, na, l2, p1 _ H1 M1 (Ext.refl H1 M1) rh1 rw'⟩⟩
/-- o.f = e -/
def putS {α : Type} (f : Str) (v : α) : List (Str × α) → List (Str × α)
  | [] => [(f, v)]
  | (g, x) :: r => if g = f then (g, v) :: r else (g, x) :: putS f v r
theorem RWk.putS {vs : List (Str × V)} {ws : List (Str × W)} (q : RWk g H M vs ws) (r : RW g H M v w) (n : Str) : RWk g H M (putF n v vs) (Xs.putS n w ws) := by
  induction q with
  | nil => exact .cons ⟨rfl, r⟩ .nil
  | @cons p q vs ws h1 h2 ih =>
    obtain ⟨p1, p2⟩ := p
    obtain ⟨q1, q2⟩ := q
    obtain ⟨rfl, h1⟩ := h1
    unfold putF Xs.putS
    by_cases e : p1 = n
    · rw [if_pos e, if_pos e]
      exact .cons ⟨rfl, r⟩ h2
    · rw [if_neg e, if_neg e]
      exact .cons ⟨rfl, h1⟩ ih
theorem putS_lt {ws : List (Str × W)} {n : Str} {f : Nat} (hw : w.lt f) : (∀ p ∈ ws, p.2.lt f) → ∀ p ∈ Xs.putS n w ws, p.2.lt f := by
  induction ws with
  | nil =>
    intro _ p hp
    rw [List.mem_singleton.mp hp]
    exact hw
  | cons q ws ih =>
    intro h p hp
    obtain ⟨q1, q2⟩ := q
    unfold Xs.putS at hp
    split at hp
    · rcases List.mem_cons.mp hp with z | z
      · rw [z]; exact hw
      · exact h p (List.mem_cons_of_mem _ z)
    · rcases List.mem_cons.mp hp with z | z
      · rw [z]; exact h _ List.mem_cons_self
      · exact ih (fun p hp => h p (List.mem_cons_of_mem _ hp)) p z
@[simp] def fSetF (c f : Str) (o v : W) (h : Sto) : Re Unit := match o with
  | .l k => match insOf c h o with
    | some fs => if fs.length < 1000 then .ok () ⟨h.o.set k (.ins c (putS f v fs)), h.c && v.isD⟩ else .stuck
    | none => .stuck
  | _ => .stuck
@[simp] def sSetF (c f : Str) (o v : XE) : XS := fun r h => (v r h).then r fun w h1 => (o r h1).then r fun x h2 => (fSetF c f x w h2).then r fun _ h3 => .nx r h3
theorem setF_ok {cn n : Str} {D : Ends} {r : Env} {ov : V} {x : W} (hc : g.cm cn = some C) (rs : RS g H M σ r) (rh : RH g H M fl h) (ro : RW g H M ov x) (rv : RW g H M v w) (q : PoS g Z fl H M D ((fSetF cn n x w h).then r fun _ h3 => .nx r h3)) :
    ∃ a dx fs, ov = .ref a ∧ H a = some (.ins C dx fs) ∧ fs.length < 1000 ∧ D.nx σ (upd H a (.ins C dx (putF n v fs))) := by
  cases x with
  | l k =>
    simp only [fSetF] at q
    cases e : insOf cn h (.l k) with
    | none => rw [e] at q; exact q.elim
    | some fs =>
      rw [e] at q
      obtain ⟨n1, a, dx, vs, e0, rfl, e2, e3, hv, rvs⟩ := insOf_h rh ro hc e
      cases e0
      simp only at q
      by_cases hl : fs.length < 1000
      · rw [if_pos hl] at q
        have xt : Ext H M (upd H a (.ins C dx (putF n v vs))) M := Ext.put rh e2
        refine ⟨a, dx, vs, rfl, hv, by rw [Paired.length rvs]; exact hl, q σ _ M xt (rs.mono xt rh.sub) (rh.put e2 e3 ⟨hc, RWk.mono xt rh.sub (RWk.putS rvs rv n)⟩ fun hcc => ?_)⟩
        rw [Bool.and_eq_true] at hcc
        exact ⟨hcc.1, fun f hf => putS_lt (W.isD_lt hcc.2) hf⟩
      · rw [if_neg hl] at q
        exact q.elim
  | _ => exact q.elim
theorem ss_setF {cn n : Str} {xo xv : XE} {pos' : Pos} {value : Expr} (hc : g.cm cn = some C) (cl : Cls X.K C) (na : NoAttr X.K C n) (ho : PE X o (rdE g Z xo)) (hv : PE X value (rdE g Z xv)) (hs : swapsWith value (some (.Attribute o n pos')) pos.line X.env = pure false := by rfl) :
    PS X (.Assign [.Attribute o n pos'] value pos) (rdS g Z (sSetF cn n xo xv)) :=
  PS.imp (ps_fld ho hv hs) fun D σ H ⟨r, h, M, fl, rs, rh, q⟩ => ⟨r, h, M, fl, rs, rh, Po.then rs rh.sub q fun w h1 v H1 M1 e1 rs1 rh1 rw1 p1 => ⟨r, h1, M1, fl, rs1, rh1, Po.then rs1 rh1.sub p1 fun x h2 ov H2 M2 e2 rs2 rh2 rx p2 => by
    obtain ⟨a, dx, fs, h1, h2, h3, h4⟩ := setF_ok hc rs2 rh2 rx (rw1.mono e2 rh1.sub) p2
    exact ⟨a, C, dx, fs, h1, h2, cl, na, h3, h4⟩⟩⟩
/-- o.f += e -/
@[simp] def sAugF (c f : Str) (op : W → W → Sto → Re W) (o v : XE) : XS := fun r h => (o r h).then r fun x h1 => (fFld c f x h1).then r fun w h2 => (v r h2).then r fun y h3 => (op w y h3).then r fun z h4 => (fSetF c f x z h4).then r fun _ h5 => .nx r h5
end
end
end Xs

/-! XsL: the ends of defs. -/
namespace Xs
noncomputable section
open PySem PySem.Spec PyProof.Rows L2
/-- an object of data alone -/
@[simp] def O.pure : O → Bool
  | .lst z => z.all W.isD
  | .dct z => z.all fun q => q.2.isD
  | .ins _ z => z.all fun q => q.2.isD
/-- the data of pairs -/
@[simp] def pureK : List (Key × W) → Option (List (Key × D))
  | [] => some []
  | (k, .d q) :: r => (pureK r).map ((k, q) :: ·)
  | _ :: _ => none
/-- an object that stays from now on -/
@[simp] def frozen : O → Option W
  | .lst z => (pureL z).map fun ds => .d (.lst ds)
  | .dct z => (pureK z).map .f
  | .ins _ _ => none
/-- a def that stores no place anywhere: what is behind n is dropped. fz: a new object that comes back stays -/
@[simp] def closeT (fz : Bool) (n : Nat) (c0 : Bool) : Fl → Re W
  | .nx _ h => if h.c = true then .ok (.d .non) ⟨h.o.take n, c0⟩ else .stuck
  | .exc e _ h => if h.c = true then .exc e ⟨h.o.take n, c0⟩ else .stuck
  | .rt w h => if h.c = true then (match w with
      | .l k => if k < n then .ok (.l k) ⟨h.o.take n, c0⟩ else (match h.o[k]? with
        | some ob => if fz = true then (match frozen ob with
            | some z => .ok z ⟨h.o.take n, c0⟩
            | none => .stuck)
          else if ob.pure = true then .ok (.l n) ⟨h.o.take n ++ [ob], c0⟩ else .stuck
        | none => .stuck)
      | .x _ _ => .stuck
      | w => .ok w ⟨h.o.take n, c0⟩) else .stuck
  | _ => .stuck
@[simp] def entry (nl : Nat) (ws : List W) : Env := ws.map some ++ List.replicate (nl - ws.length) none
def fnT (na nl : Nat) (fz : Bool) (body : XS) : List W → Sto → Re W := fun ws h => if ws.length = na then closeT fz h.o.length h.c (body (entry nl ws) ⟨h.o, true⟩) else .stuck
/-- a def whose objects stay -/
@[simp] def closeA (c0 : Bool) : Fl → Re W
  | .nx _ h => .ok (.d .non) ⟨h.o, c0 && h.c⟩
  | .exc e _ h => .exc e ⟨h.o, c0 && h.c⟩
  | .rt w h => .ok w ⟨h.o, c0 && h.c⟩
  | _ => .stuck
def fnA (na nl : Nat) (body : XS) : List W → Sto → Re W := fun ws h => if ws.length = na then closeA h.c (body (entry nl ws) ⟨h.o, true⟩) else .stuck
/-- a def of data alone: it begins with no store -/
@[simp] def closeI (h0 : Sto) : Fl → Re W
  | .nx _ _ => .ok (.d .non) h0
  | .exc e _ _ => .exc e h0
  | .rt w h => (match w with
      | .l k => (match h.o[k]? with
        | some ob => (match frozen ob with
          | some z => .ok z h0
          | none => .stuck)
        | none => .stuck)
      | .x _ _ => .stuck
      | w => .ok w h0)
  | _ => .stuck
def fnI (na nl : Nat) (body : XS) : List W → Sto → Re W := fun ws h => if (decide (ws.length = na) && ws.all W.isD) = true then closeI h (body (entry nl ws) ⟨[], true⟩) else .stuck
section
variable {g : G} {Z : WX} {H H' : Hp} {M M' : Mu} {fl fl' : List Nat} {h h' : Sto} {v u : V} {w y : W} {σ : L2.St} {Q : VK} {n : Nat}
theorem pureK_some : ∀ {ws : List (Key × W)} {ds : List (Key × D)}, pureK ws = some ds → ws = ds.map fun q => (q.1, .d q.2)
  | [], _, h => by cases h; rfl
  | (k, .d x) :: r, ds, h => by
    simp only [pureK, Option.map_eq_some_iff] at h
    obtain ⟨rs, h1, rfl⟩ := h
    rw [pureK_some h1]
    rfl
  | (_, .l _) :: _, _, h => nomatch h
  | (_, .s _) :: _, _, h => nomatch h
  | (_, .f _) :: _, _, h => nomatch h
  | (_, .fn _) :: _, _, h => nomatch h
  | (_, .x _ _) :: _, _, h => nomatch h
  | (_, .t _) :: _, _, h => nomatch h
  | (_, .ty _) :: _, _, h => nomatch h
theorem RWk.toD {vs : List (Key × V)} : ∀ {ds : List (Key × D)}, RWk g H M vs (ds.map fun q => (q.1, .d q.2)) → RDk g H M.B vs ds := fun {ds} q => by
  induction ds generalizing vs with
  | nil => cases q; exact .nil
  | cons d ds ih =>
    cases q with
    | @cons p q vs ws a b =>
      obtain ⟨p1, p2⟩ := p
      obtain ⟨d1, d2⟩ := d
      obtain ⟨e, a⟩ := a
      cases e
      cases a with
      | d a => exact .cons a (ih b)
/-- the relation of values where the places behind n are dropped -/
theorem RW.cut {B' : Addr → Prop} (x : Exd H M.B H B') (r : RW g H M v w) (hl : w.lt n) : RW g H ⟨B', M.m.take n⟩ v w := by
  cases r with
  | d q => exact .d (q.mw x)
  | l q => exact .l (by show (M.m.take n)[_]? = _; rw [List.getElem?_take_of_lt hl]; exact q)
  | s q1 q2 => exact .s (q1.mw x) (q2.mw x)
  | f q1 q2 => exact .f (q1.mw x) (q2.mw x)
  | t => exact .t
  | ty => exact .ty
  | fn q => exact .fn q
  | x h1 h2 h3 h4 h5 => exact .x h1 h2 (x.old _ _ h3 h4).1 (x.old _ _ h3 h4).2 (h5.mw x)
theorem RWs.cut {B' : Addr → Prop} {vs : List V} {ws : List W} (x : Exd H M.B H B') (r : RWs g H M vs ws) (hl : ∀ z ∈ ws, z.lt n) : RWs g H ⟨B', M.m.take n⟩ vs ws := by
  induction r with
  | nil => exact .nil
  | cons a b ih => exact .cons (a.cut x (hl _ List.mem_cons_self)) (ih fun z hz => hl z (List.mem_cons_of_mem _ hz))
theorem RWk.cut {κ : Type} {B' : Addr → Prop} {vs : List (κ × V)} {ws : List (κ × W)} (x : Exd H M.B H B') (r : RWk g H M vs ws) (hl : ∀ z ∈ ws, z.2.lt n) : RWk g H ⟨B', M.m.take n⟩ vs ws := by
  induction r with
  | nil => exact .nil
  | cons a b ih => exact .cons ⟨a.1, a.2.cut x (hl _ List.mem_cons_self)⟩ (ih fun z hz => hl z (List.mem_cons_of_mem _ hz))
theorem RO.cut {B' : Addr → Prop} {u : HO} {o : O} (x : Exd H M.B H B') (r : RO g H M u o) (hl : o.lt n) : RO g H ⟨B', M.m.take n⟩ u o := by
  cases u <;> cases o <;> first | exact False.elim r | skip
  · exact RWs.cut x r hl
  · exact RWk.cut x r hl
  · exact ⟨r.1, RWk.cut x r.2 hl⟩
theorem RWs.lt {vs : List V} {ws : List W} (q : RH g H M fl h) (r : RWs g H M vs ws) : ∀ z ∈ ws, z.lt h.o.length := by
  induction r with
  | nil => intro z hz; cases hz
  | cons a b ih =>
    intro z hz
    rcases List.mem_cons.mp hz with e | e
    · rw [e]; exact a.lt q
    · exact ih z e
theorem RWk.lt {κ : Type} {vs : List (κ × V)} {ws : List (κ × W)} (q : RH g H M fl h) (r : RWk g H M vs ws) : ∀ z ∈ ws, z.2.lt h.o.length := by
  induction r with
  | nil => intro z hz; cases hz
  | cons a b ih =>
    intro z hz
    rcases List.mem_cons.mp hz with e | e
    · rw [e]; exact a.2.lt q
    · exact ih z e
theorem RO.lt {u : HO} {o : O} (q : RH g H M fl h) (r : RO g H M u o) : o.lt h.o.length := by
  cases u <;> cases o <;> first | exact False.elim r | skip
  · exact RWs.lt q r
  · exact RWk.lt q r
  · exact RWk.lt q r.2
/-- the store at a def's entry -/
theorem RH.enter (q : RH g H M fl h) : RH g H M (if h.c = true then h.o.length :: fl else [h.o.length]) ⟨h.o, true⟩ := by
  refine ⟨q.nd, q.sub, q.len, q.ev, fun _ f hf j o hj e => ?_, fun f hf => ?_⟩
  · have own : o.lt h.o.length := by
      obtain ⟨a, u, _, _, h3⟩ := q.get e
      exact RO.lt q h3
    by_cases hc : h.c = true
    · rw [if_pos hc] at hf
      rcases List.mem_cons.mp hf with z | z
      · rw [z]; exact own
      · exact q.cl hc f z j o hj e
    · rw [if_neg hc] at hf
      rw [List.mem_singleton.mp hf]
      exact own
  · by_cases hc : h.c = true
    · rw [if_pos hc] at hf
      rcases List.mem_cons.mp hf with z | z
      · rw [z]; exact Nat.le_refl _
      · exact q.fle f z
    · rw [if_neg hc] at hf
      rw [List.mem_singleton.mp hf]
      exact Nat.le_refl _
/-- the places behind the entry dropped; B' may leave out what was new -/
theorem RH.cut {B' : Addr → Prop} {c0 : Bool} (rh : RH g H M fl h) (q : RH g H' M' (if h.c = true then h.o.length :: fl else [h.o.length]) h') (x : Ext H M H' M') (hc : h'.c = true) (hc0 : c0 = true → h.c = true)
    (xd : Exd H' M'.B H' B') (hB : ∀ a o, H a = some o → (M.B a ↔ B' a)) : RH g H' ⟨B', M'.m.take h.o.length⟩ fl ⟨h'.o.take h.o.length, c0⟩ ∧ Ext H M H' ⟨B', M'.m.take h.o.length⟩ := by
  have hn : h.o.length ∈ (if h.c = true then h.o.length :: fl else [h.o.length]) := by
    by_cases z : h.c = true
    · rw [if_pos z]; exact List.mem_cons_self
    · rw [if_neg z]; exact List.mem_cons_self
  have hle : h.o.length ≤ h'.o.length := q.fle _ hn
  have pre : ∀ (i : Nat) a, M.m[i]? = some a → (M'.m.take h.o.length)[i]? = some a := fun i a e => by
    have hi : i < h.o.length := by rw [← rh.len]; exact (List.getElem?_eq_some_iff.mp e).1
    rw [List.getElem?_take_of_lt hi]
    exact x.pre i a e
  have only : ∀ a ∈ M'.m.take h.o.length, a ∈ M.m := fun a ha => by
    obtain ⟨i, hi, e⟩ := List.mem_iff_getElem.mp ha
    have hi2 : i < M.m.length := by
      rw [rh.len]
      rw [List.length_take] at hi
      omega
    have e1 := pre i _ (List.getElem?_eq_getElem hi2)
    rw [List.getElem?_eq_getElem hi, e] at e1
    have e2 : a = M.m[i] := Option.some.inj e1
    rw [e2]
    exact List.getElem_mem hi2
  have stay : ∀ a o, H a = some o → a ∉ M.m → H' a = some o ∧ a ∉ M'.m.take h.o.length := fun a o e n => ⟨(x.old a o e n).1, fun z => n (only a z)⟩
  refine ⟨⟨q.nd.sublist (List.take_sublist _ _), fun a ha => ?_, ?_, fun i a o e1 e2 => ?_, fun hc' f hf j o hj e => ?_, fun f hf => ?_⟩, pre, stay, hB, x.tup, x.frz, x.dom⟩
  · have ha' := only a ha
    obtain ⟨o, u, e, _⟩ := rh.mem ha'
    exact (hB a u e).mp (rh.sub a ha')
  · show (M'.m.take h.o.length).length = (h'.o.take h.o.length).length
    rw [List.length_take, List.length_take, q.len]
  · have e1' : (M'.m.take h.o.length)[i]? = some a := e1
    have e2' : (h'.o.take h.o.length)[i]? = some o := e2
    have hi : i < h.o.length := by
      have := (List.getElem?_eq_some_iff.mp e2').1
      rw [List.length_take] at this
      omega
    rw [List.getElem?_take_of_lt hi] at e1' e2'
    obtain ⟨u, h1, h2⟩ := q.ev i a o e1' e2'
    exact ⟨u, h1, h2.cut xd (q.cl hc _ hn i o hi e2')⟩
  · have e' : (h'.o.take h.o.length)[j]? = some o := e
    have hj2 : j < h.o.length := Nat.lt_of_lt_of_le hj (rh.fle f hf)
    rw [List.getElem?_take_of_lt hj2] at e'
    have hf2 : f ∈ (if h.c = true then h.o.length :: fl else [h.o.length]) := by rw [if_pos (hc0 hc')]; exact List.mem_cons_of_mem _ hf
    exact q.cl hc f hf2 j o hj e'
  · show f ≤ (h'.o.take h.o.length).length
    rw [List.length_take]
    have := rh.fle f hf
    omega
theorem W.isD_all {ws : List W} (hp : ws.all W.isD = true) {f : Nat} : ∀ z ∈ ws, z.lt f := fun z hz => W.isD_lt (List.all_eq_true.mp hp z hz)
theorem O.pure_lt {o : O} (hp : o.pure = true) {f : Nat} : o.lt f := by
  cases o with
  | lst z => exact W.isD_all hp
  | dct z => exact fun q hq => W.isD_lt (List.all_eq_true.mp hp q hq)
  | ins _ z => exact fun q hq => W.isD_lt (List.all_eq_true.mp hp q hq)
/-- an object of the heap becomes a place -/
theorem RH.more {a : Addr} {u : HO} {o : O} (q : RH g H M fl h) (ha : H a = some u) (hb : M.B a) (hm : a ∉ M.m) (r : RO g H M u o) : RH g H ⟨M.B, M.m ++ [a]⟩ fl ⟨h.o ++ [o], h.c⟩ := by
  have e : Exw H M H ⟨M.B, M.m ++ [a]⟩ := ⟨fun n a e => by
    show (M.m ++ _)[n]? = _
    rw [List.getElem?_append_left (List.getElem?_eq_some_iff.mp e).1]
    exact e, fun a o e n => ⟨e, n⟩, fun _ _ e => e, fun _ _ _ e => e⟩
  refine ⟨?_, fun b hb' => ?_, ?_, fun n b o' e1 e2 => ?_, fun hc f hf j o' hj ej => ?_, fun f hf => ?_⟩
  · show (M.m ++ [a]).Nodup
    rw [List.nodup_append]
    exact ⟨q.nd, List.nodup_cons.mpr ⟨by simp, List.nodup_nil⟩, fun b hb c hc z => hm (by rw [← List.mem_singleton.mp hc, ← z]; exact hb)⟩
  · rcases List.mem_append.mp hb' with z | z
    · exact q.sub b z
    · rw [List.mem_singleton.mp z]; exact hb
  · show (M.m ++ [a]).length = (h.o ++ [o]).length
    rw [List.length_append, List.length_append, q.len]
    rfl
  · have e1' : (M.m ++ [a])[n]? = some b := e1
    have e2' : (h.o ++ [o])[n]? = some o' := e2
    by_cases hn : n < M.m.length
    · rw [List.getElem?_append_left hn] at e1'
      rw [List.getElem?_append_left (by rw [← q.len]; exact hn)] at e2'
      obtain ⟨u', h1, h2⟩ := q.ev n b o' e1' e2'
      exact ⟨u', h1, h2.mw e⟩
    · rw [List.getElem?_append_right (by omega)] at e1'
      rw [List.getElem?_append_right (by rw [← q.len]; omega)] at e2'
      have hz : n - M.m.length = 0 := by
        have := (List.getElem?_eq_some_iff.mp e1').1
        simp at this
        exact this
      rw [hz] at e1'
      rw [← q.len, hz] at e2'
      simp at e1' e2'
      subst e1' e2'
      exact ⟨u, ha, r.mw e⟩
  · have ej' : (h.o ++ [o])[j]? = some o' := ej
    rw [List.getElem?_append_left (Nat.lt_of_lt_of_le hj (q.fle f hf))] at ej'
    exact q.cl hc f hf j o' hj ej'
  · show f ≤ (h.o ++ [o]).length
    rw [List.length_append]
    exact Nat.le_trans (q.fle f hf) (Nat.le_add_right _ _)
end
end
end Xs

/-! XsM: a def by its body. -/
namespace Xs
noncomputable section
open PySem PySem.Spec PyProof.Rows L2
section
variable {g : G} {H H' : Hp} {M M' : Mu} {fl fl' : List Nat} {h h' : Sto} {v u : V} {w y : W} {σ : L2.St} {Q : VK} {E : XK} {n na nl : Nat}
theorem entry_rs {N : List Str} {vs : List V} {ws : List W} (hN : N.length = nl) (r : RWs g H M vs ws) : RS g H M (start N vs) (entry nl ws) := by
  have hl := RWs.length r
  refine ⟨?_, fun i w e => ?_⟩
  · unfold L2.start entry
    rw [List.length_append, List.length_append, List.length_map, List.length_map, List.length_replicate, List.length_replicate, hl, hN]
  · unfold L2.start
    simp only [entry] at e
    by_cases hi : i < ws.length
    · rw [List.getElem?_append_left (by rw [List.length_map]; exact hi), List.getElem?_map] at e
      rw [List.getElem?_append_left (by rw [List.length_map, hl]; exact hi), List.getElem?_map]
      cases e2 : ws[i]? with
      | none => rw [e2] at e; cases e
      | some z =>
        rw [e2] at e
        cases e
        obtain ⟨v, e3, rv⟩ := RWs.get r e2
        exact ⟨v, by rw [e3]; rfl, rv⟩
    · rw [List.getElem?_append_right (by rw [List.length_map]; omega)] at e
      rw [List.getElem?_replicate] at e
      split at e <;> cases e
theorem Exd.refl (H : Hp) (B : Addr → Prop) : Exd H B H B := ⟨fun _ _ e n => ⟨e, n⟩, fun _ _ e => e, fun _ _ _ e => e⟩
theorem Exd.less (H : Hp) (B : Addr → Prop) (a : Addr) : Exd H B H (fun b => B b ∧ b ≠ a) := ⟨fun _ _ e n => ⟨e, fun z => n z.1⟩, fun _ _ e => e, fun _ _ _ e => e⟩
theorem REx.mw {B' : Addr → Prop} {m' : List Addr} {c : Value} {d : Option Addr} {e : Ex} (x : Exd H M.B H' B') (r : REx g H M c d e) : REx g H' ⟨B', m'⟩ c d e := by
  obtain ⟨C, h1, h2, h3⟩ := r
  refine ⟨C, h1, h2, ?_⟩
  rcases h3 with h3 | ⟨dd, fs, h4, h5, h6, h7⟩
  · exact .inl h3
  · exact .inr ⟨dd, fs, h4, (x.old _ _ h5 h6).1, (x.old _ _ h5 h6).2, h7.mw x⟩
/-- what is new stands apart from what was -/
theorem new_ne {k : Nat} {a : Addr} (rh : RH g H M fl h) (q : RH g H' M' fl' h') (x : Ext H M H' M') (hk : ¬ k < h.o.length) (e : M'.m[k]? = some a) : ∀ b o, H b = some o → b ≠ a := fun b o eb z => by
  subst z
  by_cases hm : b ∈ M.m
  · obtain ⟨i, hi, e1⟩ := List.mem_iff_getElem.mp hm
    have e2 := x.pre i b (by rw [List.getElem?_eq_getElem hi, e1])
    have h3 := List.getElem?_eq_some_iff.mp e2
    have h4 := List.getElem?_eq_some_iff.mp e
    have := (List.getElem_inj q.nd).mp (h3.2.trans h4.2.symm)
    rw [rh.len] at hi
    omega
  · exact (x.old b o eb hm).2 (List.mem_of_getElem? e)
/-- an object that stays from now on, as a value -/
theorem frozen_ok {k : Nat} {a : Addr} {ob : O} {z : W} (q : RH g H' M' fl' h') (e : M'.m[k]? = some a) (eo : h'.o[k]? = some ob) (ez : frozen ob = some z) {m' : List Addr} : RW g H' ⟨fun b => M'.B b ∧ b ≠ a, m'⟩ (.ref a) z := by
  have xd := Exd.less H' M'.B a
  cases ob with
  | lst ws =>
    simp only [frozen, Option.map_eq_some_iff] at ez
    obtain ⟨ds, e1, rfl⟩ := ez
    obtain ⟨vs, hv, rv⟩ := q.lst e eo
    rw [pureL_some e1] at rv
    exact .d (.lst ⟨hv, fun z => z.2 rfl⟩ ((RWs.toD rv).mw xd))
  | dct ws =>
    simp only [frozen, Option.map_eq_some_iff] at ez
    obtain ⟨ds, e1, rfl⟩ := ez
    obtain ⟨vs, hv, rv⟩ := q.dct e eo
    rw [pureK_some e1] at rv
    exact .f ⟨hv, fun z => z.2 rfl⟩ ((RWk.toD rv).mw xd)
  | ins _ _ => cases ez
theorem readT {N : List Str} {fz : Bool} {body : XS} {vs : List V} (hN : N.length = nl) (hs : spF g (fnT na nl fz body) vs H Q E) : rdS g (fun c d _ H => E c d H) body { nx := fun _ H' => Q .non H', rt := Q } (start N vs) H := by
  obtain ⟨ws, h, M, fl, rw1, rh, p⟩ := hs
  unfold fnT at p
  by_cases hl : ws.length = na
  · rw [if_pos hl] at p
    refine ⟨entry nl ws, ⟨h.o, true⟩, M, _, entry_rs hN rw1, rh.enter, ?_⟩
    cases e : body (entry nl ws) ⟨h.o, true⟩ with
    | stuck => rw [e] at p; exact p.elim
    | bk _ _ => rw [e] at p; exact p.elim
    | ct _ _ => rw [e] at p; exact p.elim
    | nx r' h' =>
      rw [e] at p
      intro σ' H' M' x rs' rh'
      obtain ⟨hc, p⟩ := po_if p
      obtain ⟨r1, x1⟩ := rh.cut rh' x hc (fun z => z) (Exd.refl H' M'.B) x.bb
      exact p .non H' _ x1 r1 (.d .non)
    | exc ee r' h' =>
      rw [e] at p
      intro c d σ' H' M' x rs' rh' re
      obtain ⟨hc, p⟩ := po_if p
      obtain ⟨r1, x1⟩ := rh.cut rh' x hc (fun z => z) (Exd.refl H' M'.B) x.bb
      exact p c d H' _ x1 r1 (re.mw (Exd.refl H' M'.B))
    | rt z h' =>
      rw [e] at p
      intro v H' M' x rh' rz
      obtain ⟨hc, p⟩ := po_if p
      obtain ⟨r1, x1⟩ := rh.cut rh' x hc (fun z => z) (Exd.refl H' M'.B) x.bb
      have same : ∀ {z : W}, RW g H' M' v z → z.lt h.o.length → RW g H' ⟨M'.B, M'.m.take h.o.length⟩ v z := fun r hlt => r.cut (Exd.refl H' M'.B) hlt
      cases z with
      | d _ => exact p v H' _ x1 r1 (same rz trivial)
      | s _ => exact p v H' _ x1 r1 (same rz trivial)
      | f _ => exact p v H' _ x1 r1 (same rz trivial)
      | t _ => exact p v H' _ x1 r1 (same rz trivial)
      | ty _ => exact p v H' _ x1 r1 (same rz trivial)
      | fn _ => exact p v H' _ x1 r1 (same rz trivial)
      | x _ _ => exact p.elim
      | l k =>
        obtain ⟨a, rfl, ea⟩ := rz.l_inv
        simp only at p
        by_cases hk : k < h.o.length
        · rw [if_pos hk] at p
          exact p _ H' _ x1 r1 (same rz hk)
        · rw [if_neg hk] at p
          have ne := new_ne rh rh' x hk ea
          cases eo : h'.o[k]? with
          | none => rw [eo] at p; exact p.elim
          | some ob =>
            rw [eo] at p
            simp only at p
            cases fz with
            | true =>
              simp only [if_true] at p
              cases ez : frozen ob with
              | none => rw [ez] at p; exact p.elim
              | some z =>
                rw [ez] at p
                obtain ⟨r2, x2⟩ := rh.cut rh' x hc (fun z => z) (Exd.less H' M'.B a) fun b o eb => (x.bb b o eb).trans ⟨fun q => ⟨q, ne b o eb⟩, fun q => q.1⟩
                exact p _ H' _ x2 r2 (frozen_ok rh' ea eo ez)
            | false =>
              simp only [Bool.false_eq_true, if_false] at p
              obtain ⟨hp, p⟩ := po_if p
              obtain ⟨u, h1, h2⟩ := rh'.ev k a ob ea eo
              have nm : a ∉ M'.m.take h.o.length := fun z => by
                obtain ⟨i, hi, e1⟩ := List.mem_iff_getElem.mp z
                rw [List.length_take] at hi
                have e2 : M'.m[i]? = some a := by
                  rw [← List.getElem?_take_of_lt (show i < h.o.length by omega), List.getElem?_eq_getElem (by rw [List.length_take]; omega), e1]
                have h3 := List.getElem?_eq_some_iff.mp e2
                have h4 := List.getElem?_eq_some_iff.mp ea
                have := (List.getElem_inj rh'.nd).mp (h3.2.trans h4.2.symm)
                omega
              have r3 := r1.more h1 (rh'.sub a (List.mem_of_getElem? ea)) nm (h2.cut (Exd.refl H' M'.B) (O.pure_lt hp))
              have len : (M'.m.take h.o.length).length = h.o.length := by
                rw [List.length_take]
                have := (List.getElem?_eq_some_iff.mp ea).1
                omega
              refine p _ H' ⟨M'.B, M'.m.take h.o.length ++ [a]⟩ ⟨fun i b eb => ?_, fun b o eb nb => ⟨(x1.old b o eb nb).1, fun z => ?_⟩, x1.bb, x1.tup, x1.frz, x1.dom⟩ r3 (.l ?_)
              · have e3 : (M'.m.take h.o.length)[i]? = some b := x1.pre i b eb
                show (M'.m.take h.o.length ++ [a])[i]? = some b
                rw [List.getElem?_append_left (List.getElem?_eq_some_iff.mp e3).1]
                exact e3
              · rcases List.mem_append.mp z with z | z
                · exact (x1.old b o eb nb).2 z
                · exact ne b o eb (List.mem_singleton.mp z)
              · show (M'.m.take h.o.length ++ [a])[h.o.length]? = some a
                rw [List.getElem?_append_right (by omega), len, Nat.sub_self]
                rfl
  · rw [if_neg hl] at p
    exact p.elim
theorem readA {N : List Str} {body : XS} {vs : List V} (hN : N.length = nl) (hs : spF g (fnA na nl body) vs H Q E) : rdS g (fun c d _ H => E c d H) body { nx := fun _ H' => Q .non H', rt := Q } (start N vs) H := by
  obtain ⟨ws, h, M, fl, rw1, rh, p⟩ := hs
  unfold fnA at p
  have fin : ∀ {H' : Hp} {M' : Mu} {h' : Sto}, RH g H' M' (if h.c = true then h.o.length :: fl else [h.o.length]) h' → RH g H' M' fl ⟨h'.o, h.c && h'.c⟩ := fun {H' M' h'} q => by
    refine ⟨q.nd, q.sub, q.len, q.ev, fun hc f hf j o hj e => ?_, fun f hf => ?_⟩
    · rw [Bool.and_eq_true] at hc
      exact q.cl hc.2 f (by rw [if_pos hc.1]; exact List.mem_cons_of_mem _ hf) j o hj e
    · have hn : h.o.length ∈ (if h.c = true then h.o.length :: fl else [h.o.length]) := by
        by_cases z : h.c = true
        · rw [if_pos z]; exact List.mem_cons_self
        · rw [if_neg z]; exact List.mem_cons_self
      exact Nat.le_trans (rh.fle f hf) (q.fle _ hn)
  by_cases hl : ws.length = na
  · rw [if_pos hl] at p
    refine ⟨entry nl ws, ⟨h.o, true⟩, M, _, entry_rs hN rw1, rh.enter, ?_⟩
    cases e : body (entry nl ws) ⟨h.o, true⟩ with
    | stuck => rw [e] at p; exact p.elim
    | bk _ _ => rw [e] at p; exact p.elim
    | ct _ _ => rw [e] at p; exact p.elim
    | nx r' h' => rw [e] at p; exact fun σ' H' M' x rs' rh' => p .non H' M' x (fin rh') (.d .non)
    | exc ee r' h' => rw [e] at p; exact fun c d σ' H' M' x rs' rh' re => p c d H' M' x (fin rh') re
    | rt z h' => rw [e] at p; exact fun v H' M' x rh' rz => p v H' M' x (fin rh') rz
  · rw [if_neg hl] at p
    exact p.elim
theorem RWs.iso {vs : List V} {ws : List W} (r : RWs g H M vs ws) (hp : ws.all W.isD = true) {m' : List Addr} : RWs g H ⟨M.B, m'⟩ vs ws := by
  induction r with
  | nil => exact .nil
  | cons a b ih =>
    rw [List.all_cons, Bool.and_eq_true] at hp
    refine .cons ?_ (ih hp.2)
    cases a with
    | d q => exact .d q
    | l _ => cases hp.1
    | s q1 q2 => exact .s q1 q2
    | f q1 q2 => exact .f q1 q2
    | t => exact .t
    | ty => exact .ty
    | fn q => exact .fn q
    | x h1 h2 h3 h4 h5 => exact .x h1 h2 h3 h4 h5
theorem readI {N : List Str} {body : XS} {vs : List V} (hN : N.length = nl) (hs : spF g (fnI na nl body) vs H Q E) : rdS g (fun c d _ H => E c d H) body { nx := fun _ H' => Q .non H', rt := Q } (start N vs) H := by
  obtain ⟨ws, h, M, fl, rw1, rh, p⟩ := hs
  unfold fnI at p
  obtain ⟨hcond, p⟩ := po_if p
  rw [Bool.and_eq_true, decide_eq_true_eq] at hcond
  have rw2 : RWs g H ⟨M.B, []⟩ vs ws := RWs.iso rw1 hcond.2
  have rh2 : RH g H ⟨M.B, []⟩ [] ⟨[], true⟩ := by
    refine ⟨List.nodup_nil, fun a ha => ?_, rfl, fun n a o e => ?_, fun _ f hf => ?_, fun f hf => ?_⟩
    · cases ha
    · cases e
    · cases hf
    · cases hf
  refine ⟨entry nl ws, ⟨[], true⟩, ⟨M.B, []⟩, [], entry_rs hN rw2, rh2, ?_⟩
  -- back to the caller's store
  have back : ∀ {H' : Hp} {M' : Mu} {B' : Addr → Prop}, Ext H ⟨M.B, []⟩ H' M' → (∀ a o, H a = some o → (M.B a ↔ B' a)) → Ext H M H' ⟨B', M.m⟩ ∧ RH g H' ⟨B', M.m⟩ fl h := fun {H' M' B'} x hB => by
    have x2 : Ext H M H' ⟨B', M.m⟩ := ⟨fun _ _ e => e, fun a o e n => ⟨(x.old a o e (fun z => nomatch z)).1, n⟩, hB, x.tup, x.frz, x.dom⟩
    refine ⟨x2, rh.ext x2 rfl (fun a ha => ?_) fun a ha => ?_⟩
    · obtain ⟨o, u, e, _⟩ := rh.mem ha
      exact (hB a u e).mp (rh.sub a ha)
    · obtain ⟨o, u, e, _⟩ := rh.mem ha
      rw [e]
      exact (x.old a u e (fun z => nomatch z)).1
  cases e : body (entry nl ws) ⟨[], true⟩ with
  | stuck => rw [e] at p; exact p.elim
  | bk _ _ => rw [e] at p; exact p.elim
  | ct _ _ => rw [e] at p; exact p.elim
  | nx r' h' =>
    rw [e] at p
    intro σ' H' M' x rs' rh'
    obtain ⟨x1, r1⟩ := back x x.bb
    exact p .non H' _ x1 r1 (.d .non)
  | exc ee r' h' =>
    rw [e] at p
    intro c d σ' H' M' x rs' rh' re
    obtain ⟨x1, r1⟩ := back x x.bb
    exact p c d H' _ x1 r1 (re.mw (Exd.refl H' M'.B))
  | rt z h' =>
    rw [e] at p
    intro v H' M' x rh' rz
    obtain ⟨x1, r1⟩ := back x x.bb
    have same : ∀ {z : W}, z.isD = true → RW g H' M' v z → RW g H' ⟨M'.B, M.m⟩ v z := fun hz r => by
      cases r with
      | d q => exact .d q
      | l _ => cases hz
      | s q1 q2 => exact .s q1 q2
      | f q1 q2 => exact .f q1 q2
      | t => exact .t
      | ty => exact .ty
      | fn q => exact .fn q
      | x h1 h2 h3 h4 h5 => exact .x h1 h2 h3 h4 h5
    cases z with
    | d _ => exact p v H' _ x1 r1 (same rfl rz)
    | s _ => exact p v H' _ x1 r1 (same rfl rz)
    | f _ => exact p v H' _ x1 r1 (same rfl rz)
    | t _ => exact p v H' _ x1 r1 (same rfl rz)
    | ty _ => exact p v H' _ x1 r1 (same rfl rz)
    | fn _ => exact p v H' _ x1 r1 (same rfl rz)
    | x _ _ => exact p.elim
    | l k =>
      obtain ⟨a, rfl, ea⟩ := rz.l_inv
      simp only [closeI] at p
      have ne := new_ne (fl := []) rh2 rh' x (Nat.not_lt_zero k) ea
      cases eo : h'.o[k]? with
      | none => rw [eo] at p; exact p.elim
      | some ob =>
        rw [eo] at p
        simp only at p
        cases ez : frozen ob with
        | none => rw [ez] at p; exact p.elim
        | some z =>
          rw [ez] at p
          obtain ⟨x2, r2⟩ := back (B' := fun b => M'.B b ∧ b ≠ a) x fun b o eb => (x.bb b o eb).trans ⟨fun q => ⟨q, ne b o eb⟩, fun q => q.1⟩
          exact p _ H' _ x2 r2 (frozen_ok rh' ea eo ez)
end
section
variable {P : Program} {w : World} {K : PySem.W.Frag} {mg : Str → Option Value} {base : Heap} {k na nl : Nat} {f : Addr} {fd : FuncData} {ps N : List Str} {g : G} {body : XS} {x qual : Str} {st : Stmt} {fz : Bool}
theorem fnT_len {vs : List V} {H : Hp} {Q : VK} {E : XK} (hp : ps.length = na) (h : spF g (fnT na nl fz body) vs H Q E) : vs.length = ps.length := by
  obtain ⟨ws, h, M, fl, rw1, rh, p⟩ := h
  unfold fnT at p
  obtain ⟨hl, _⟩ := po_ifP p
  rw [RWs.length rw1, hl, hp]
theorem fnA_len {vs : List V} {H : Hp} {Q : VK} {E : XK} (hp : ps.length = na) (h : spF g (fnA na nl body) vs H Q E) : vs.length = ps.length := by
  obtain ⟨ws, h, M, fl, rw1, rh, p⟩ := h
  unfold fnA at p
  obtain ⟨hl, _⟩ := po_ifP p
  rw [RWs.length rw1, hl, hp]
theorem fnI_len {vs : List V} {H : Hp} {Q : VK} {E : XK} (hp : ps.length = na) (h : spF g (fnI na nl body) vs H Q E) : vs.length = ps.length := by
  obtain ⟨ws, h, M, fl, rw1, rh, p⟩ := h
  unfold fnI at p
  obtain ⟨hl, _⟩ := po_if p
  rw [Bool.and_eq_true, decide_eq_true_eq] at hl
  rw [RWs.length rw1, hl.1, hp]
/-- what is asked of a body -/
abbrev Body (P : Program) (w : World) (K : PySem.W.Frag) (mg : Str → Option Value) (base : Heap) (k : Nat) (f : Addr) (N : List Str) (g : G) (body : XS) (qual : Str) (st : Stmt) : Prop :=
  ∀ (cdv : Value) (A : Around) (outer : List PySem.Env) (s : Shared) (H : Hp) (E : XK), Room k (A.deeper (envOfC qual (defScope st) s.heap.objs.size f cdv)) → (A.deeper (envOfC qual (defScope st) s.heap.objs.size f cdv)).guards = some [] →
    PSs (cxOf (L2.CX P w) P w K mg base N qual (defScope st) f cdv A outer s H E) (defBody st) (rdS g (fun c d _ H => E c d H) body)
theorem fngT (F : Fun K x qual st f fd) (S : FnScope N ps (defScope st)) (b : Body P w K mg base k f N g body qual st) (hN : N.length = nl := by rfl) (hp : ps.length = na := by rfl) : FnG P w K mg base (k + 1) f fd ps (spF g (fnT na nl fz body)) :=
  fng F S (fun vs H Q E h => fnT_len hp h) fun cdv A outer s H vs Q E hr hg h => ⟨_, b cdv A outer s H E hr (by rw [guards_deeper]; exact hg), readT hN h⟩
theorem fngA (F : Fun K x qual st f fd) (S : FnScope N ps (defScope st)) (b : Body P w K mg base k f N g body qual st) (hN : N.length = nl := by rfl) (hp : ps.length = na := by rfl) : FnG P w K mg base (k + 1) f fd ps (spF g (fnA na nl body)) :=
  fng F S (fun vs H Q E h => fnA_len hp h) fun cdv A outer s H vs Q E hr hg h => ⟨_, b cdv A outer s H E hr (by rw [guards_deeper]; exact hg), readA hN h⟩
theorem fngI (F : Fun K x qual st f fd) (S : FnScope N ps (defScope st)) (b : Body P w K mg base k f N g body qual st) (hN : N.length = nl := by rfl) (hp : ps.length = na := by rfl) : FnG P w K mg base (k + 1) f fd ps (spF g (fnI na nl body)) :=
  fng F S (fun vs H Q E h => fnI_len hp h) fun cdv A outer s H vs Q E hr hg h => ⟨_, b cdv A outer s H E hr (by rw [guards_deeper]; exact hg), readI hN h⟩
/-- what a body's context lets out -/
theorem takesE {cdv : Value} {A : Around} {outer : List PySem.Env} {s : Shared} {H : Hp} {E : XK} {sc : Scope} : Takes (cxOf (L2.CX P w) P w K mg base N qual sc f cdv A outer s H E) (fun c d _ H => E c d H) := takes_of rfl rfl rfl rfl
theorem ownsE {cdv : Value} {A : Around} {outer : List PySem.Env} {s : Shared} {H : Hp} {E : XK} {sc : Scope} : PassesOwn (model P w) (cxOf (L2.CX P w) P w K mg base N qual sc f cdv A outer s H E).A (cxOf (L2.CX P w) P w K mg base N qual sc f cdv A outer s H E).env (cxOf (L2.CX P w) P w K mg base N qual sc f cdv A outer s H E).xe := passes_of rfl
end
end
end Xs

/-! XsN: augmented stores, rows of targets, slices, methods of lists, new instances, isinstance. -/
namespace Xs
noncomputable section
open PySem PySem.Spec PyProof.Rows L2
section
variable {X : Cx} {g : G} {Z : WX} {a b c : Expr} {xa xb xc : XE} {pos p apos : Pos} {H : Hp} {M : Mu} {fl : List Nat} {h : Sto} {v u : V} {w y : W} {σ : L2.St} {Q : VK} {k : Nat} {f C : Addr} {fd : FuncData} {ps : List Str} {F : List W → Sto → Re W} {x m : Str} {e o : Expr} {es : List Expr} {ta : XA}
theorem i_add : Op2 X g Z (inplaceOp .Add) fAddI := ⟨_, iop_add, fun rh rx ry p => by
  obtain ⟨i, j, rfl, rfl, p⟩ := i2_inv p rx ry
  exact ⟨i, j, rfl, rfl, po_int rh p⟩⟩
theorem i_sub : Op2 X g Z (inplaceOp .Sub) fSub := ⟨_, iop_sub, fun rh rx ry p => by
  obtain ⟨i, j, rfl, rfl, p⟩ := i2_inv p rx ry
  exact ⟨i, j, rfl, rfl, po_int rh p⟩⟩
@[simp] def sAug (i : Nat) (F : W → W → Sto → Re W) (e : XE) : XS := fun r h => match r[i]? with
  | some (some w) => (e r h).then r fun y h1 => (F w y h1).then r fun z h2 => .nx (r.set i (some z)) h2
  | _ => .stuck
theorem ss_aug {i : Nat} {F : W → W → Sto → Re W} {op : Operator} {pos' : Pos} (hN : X.N.Nodup) (o : Op2 X g Z (inplaceOp op) F) (he : PE X e (rdE g Z xa)) (hi : X.N[i]? = some x := by rfl) (hx : Loc X.env.scope x := by first | exact Or.inl rfl | exact Or.inr rfl)
    (hf : X.fn x = true ∨ X.env.scope.names.lookup x = some .local := by first | exact .inl rfl | exact .inr rfl) : PS X (.AugAssign (.Name x pos') op e pos) (rdS g Z (sAug i F xa)) := by
  obtain ⟨r2, ho, k⟩ := o
  refine PS.imp (ps_aug hN hi hx he ho hf) fun D σ H ⟨r, h, M, fl, rs, rh, q⟩ => ?_
  simp only [sAug] at q
  cases e1 : r[i]? with
  | none => rw [e1] at q; exact q.elim
  | some o =>
    rw [e1] at q
    cases o with
    | none => exact q.elim
    | some w =>
      obtain ⟨v, e2, rv⟩ := rs.ev i w e1
      refine ⟨v, e2, r, h, M, fl, rs, rh, Po.then rs rh.sub q fun y h1 u H1 M1 x1 rs1 rh1 ry p1 => k rh1 (rv.mono x1 rh.sub) ry (Po.then rs1 rh1.sub p1 fun z h2 zv H2 M2 x2 rs2 rh2 rz p2 => ?_)⟩
      exact p2 _ H2 M2 (Ext.refl H2 M2) (rs2.set rz) rh2
/-- target = e, the target of names -/
@[simp] def sAsg (tg : XG) (e : XE) : XS := fun r h => (e r h).then r fun w h1 => match tg w r with
  | some r1 => .nx r1 h1
  | none => .stuck
theorem ss_asg {own : List Nat} {tg : Expr} {xg : XG} (he : PE X e (rdE g Z xa)) (hg : PG X tg (rdG g own xg)) (hs : swapsWithSole [tg] e pos.line X.env = pure false := by rfl) (hw : swappedStores [tg] e X.env = pure none := by rfl)
    (h1 : (assignEach [tg] X.env).map (·.2) = [assign tg X.env] := by rfl) : PS X (.Assign [tg] e pos) (rdS g Z (sAsg xg xa)) :=
  PS.imp (ps_asg he hg hs hw h1) fun D σ H ⟨r, h, M, fl, rs, rh, q⟩ => ⟨r, h, M, fl, rs, rh, Po.then rs rh.sub q fun w h1 v H1 M1 e1 rs1 rh1 rw1 p1 => by
    cases e2 : xg w r with
    | none => simp only [e2] at p1; exact p1.elim
    | some r1 =>
      simp only [e2] at p1
      exact ⟨r, h1, M1, fl, w, rs1, rh1, rw1, r1, e2, fun σ' rs' _ => p1 σ' H1 M1 (Ext.refl H1 M1) rs' rh1⟩⟩

/-! ### slices -/
abbrev XO := Env → Sto → Re (Option Int)
abbrev rdO (g : G) (Z : WX) (z : XO) : TO := rd g Z (fun _ _ (a b : Option Int) => a = b) z
@[simp] def xNo : XO := fun _ h => .ok none h
@[simp] def xPart (a : XE) : XO := fun r h => (a r h).bind fun w h1 => match w.int? with
  | some i => .ok (some i) h1
  | none => .stuck
theorem so_none : PO X none (rdO g Z xNo) := ⟨fun pins s σ H Q I ⟨r, h, M, fl, rs, rh, q⟩ => po_none.run pins s σ H Q I (q none H M (Ext.refl H M) rh rfl)⟩
theorem so_some (ha : PE X a (rdE g Z xa)) : PO X (some a) (rdO g Z (xPart xa)) := ⟨fun pins s σ H Q I ⟨r, h, M, fl, rs, rh, q⟩ => (po_some ha).run pins s σ H Q I ⟨r, h, M, fl, rs, rh, Po.bind q fun w h1 v H1 M1 e1 rh1 rw1 p1 => by
  cases e : w.int? with
  | none => simp only [e] at p1; exact p1.elim
  | some i =>
    simp only [e] at p1
    rw [W.int?_some e] at rw1
    obtain rfl := rw1.int_inv
    exact ⟨i, rfl, p1 _ H1 M1 (Ext.refl H1 M1) rh1 rfl⟩⟩⟩
/-- the cut of a row -/
def cut {α : Type} (xs : List α) (lo hi : Option Int) : List α := (xs.drop (HT.sIx xs.length 0 lo)).take (HT.sIx xs.length xs.length hi - HT.sIx xs.length 0 lo)
theorem RDs.take {B : Addr → Prop} {xs : List V} {ds : List D} (n : Nat) (q : RDs g H B xs ds) : RDs g H B (xs.take n) (ds.take n) := by
  induction n generalizing xs ds with
  | zero => exact .nil
  | succ n ih =>
    cases q with
    | nil => exact .nil
    | cons a b => exact .cons a (ih b)
theorem RDs.drop {B : Addr → Prop} {xs : List V} {ds : List D} (n : Nat) (q : RDs g H B xs ds) : RDs g H B (xs.drop n) (ds.drop n) := by
  induction n generalizing xs ds with
  | zero => exact q
  | succ n ih =>
    cases q with
    | nil => exact .nil
    | cons a b => exact ih b
theorem RDs.cut {B : Addr → Prop} {xs : List V} {ds : List D} (q : RDs g H B xs ds) (lo hi : Option Int) : RDs g H B (cutV xs lo hi) (Xs.cut ds lo hi) := by
  unfold cutV Xs.cut
  rw [q.len]
  exact RDs.take _ (RDs.drop _ q)
theorem strOk_cut {z : Str} (hz : PyData.strOk z = true) (lo hi : Option Int) : PyData.strOk (cutS z lo hi) = true := by
  unfold PyData.strOk cutS at *
  rw [Array.all_eq_true'] at *
  intro q hq
  have hq : q ∈ z.cps.toList := by
    have : q ∈ ((z.cps.toList.drop (HT.sIx z.length 0 lo)).take (HT.sIx z.length z.length hi - HT.sIx z.length 0 lo)) := by simpa using hq
    exact List.mem_of_mem_drop (List.mem_of_mem_take this)
  exact hz q (by simpa using hq)
@[simp] def fSl (w : W) (lo hi : Option Int) (h : Sto) : Re W := match w.tup? with
  | some ds => .ok (.d (.tup (cut ds lo hi))) h
  | none => match lstOf h w with
    | some ws => match pureL ws with
      | some ds => .ok (.d (.lst (cut ds lo hi))) h
      | none => .stuck
    | none => match w.str? with
      | some z => if z.length ≤ lim then .ok (.d (.str (cutS z lo hi))) h else .stuck
      | none => .stuck
@[simp] def xSl (a : XE) (lo hi : XO) : XE := fun r h => (a r h).bind fun w h1 => (lo r h1).bind fun l h2 => (hi r h2).bind fun u h3 => fSl w l u h3
theorem se_sl {lo hi : Option Expr} {xl xh : XO} {p2 : Pos} (ha : PE X a (rdE g Z xa)) (hl : PO X lo (rdO g Z xl)) (hh : PO X hi (rdO g Z xh)) (hK : X.K = g.K := by rfl) : PE X (.Subscript a (.Slice lo hi none p2) pos) (rdE g Z (xSl xa xl xh)) :=
  PE.imp (pe_slice (sl_list.or (sl_tupA.or sl_str)) ha hl hh) fun σ H Q ⟨r, h, M, fl, rs, rh, q⟩ => ⟨r, h, M, fl, rs, rh, Po.bind q fun w h1 v H1 M1 e1 rh1 rw1 p1 => ⟨r, h1, M1, fl, rs.mono e1 rh.sub, rh1, Po.bind p1 fun l h2 l' H2 M2 e2 rh2 el p2 =>
    ⟨r, h2, M2, fl, (rs.mono e1 rh.sub).mono e2 rh1.sub, rh2, Po.bind p2 fun u h3 u' H3 M3 e3 rh3 eu p3 => by
      have el : l' = l := el
      have eu : u' = u := eu
      subst el
      subst eu
      have rv := (rw1.mono e2 rh1.sub).mono e3 rh2.sub
      rw [hK]
      simp only [fSl] at p3
      cases et : w.tup? with
      | some ds =>
        rw [et] at p3
        have p3 : Po g Z σ fl (RW g) H3 M3 Q (.ok (.d (.tup (Xs.cut ds l' u'))) h3) := p3
        rw [W.tup?_some et] at rv
        obtain ⟨a, xs, rfl, ht, hd⟩ := rv.tup_inv
        refine .inr (.inl ⟨a, xs, rfl, ht, fun hw => ?_, fun _ n hn => po_tup rh3 p3 (hd.cut _ _) hn⟩)
        have e5 : Xs.cut ds l' u' = ds := by
          unfold Xs.cut
          rw [hd.len] at hw
          rw [hw.1, hw.2]
          simp
        rw [e5] at p3
        exact p3 _ H3 M3 (Ext.refl H3 M3) rh3 (.d (.tup ht hd))
      | none =>
        rw [et] at p3
        simp only at p3
        cases e4 : lstOf h3 w with
        | some ws =>
          rw [e4] at p3
          simp only at p3
          cases e5 : pureL ws with
          | none => rw [e5] at p3; exact p3.elim
          | some ds =>
            rw [e5] at p3
            obtain ⟨a, xs, rfl, sq, r2⟩ := lstOf_sq rh3 rv e4
            rw [pureL_some e5] at r2
            exact .inl ⟨a, xs, rfl, sq, fun n hn => po_lst rh3 p3 ((RWs.toD r2).cut _ _) hn⟩
        | none =>
          rw [e4] at p3
          simp only at p3
          cases e5 : w.str? with
          | none => rw [e5] at p3; exact p3.elim
          | some z =>
            rw [e5] at p3
            obtain ⟨hz, p3⟩ := po_ifP p3
            rw [W.str?_some e5] at rv
            obtain ⟨rfl, hok⟩ := rv.str_inv
            exact .inr (.inr ⟨z, rfl, by rw [← lim_line]; exact hz, po_str rh3 (strOk_cut hok _ _) p3⟩)⟩⟩⟩
/-- xs[::-1] -/
@[simp] def fRevL (w : W) (h : Sto) : Re W := match lstOf h w with
  | some ws => match pureL ws with
    | some ds => .ok (.d (.lst ds.reverse)) h
    | none => .stuck
  | none => .stuck
theorem RDs.rev {B : Addr → Prop} {xs : List V} {ds : List D} (q : RDs g H B xs ds) : RDs g H B xs.reverse ds.reverse := by
  induction ds generalizing xs with
  | nil => cases q; exact .nil
  | cons d ds ih =>
    cases q with
    | cons a b =>
      rw [List.reverse_cons, List.reverse_cons]
      exact RDs.app (M := ⟨B, []⟩) (ih b) (.cons a .nil)
theorem se_revL {n : Nat} {p1 p2 p3 : Pos} (ha : PE X a (rdE g Z xa)) (hK : X.K = g.K := by rfl) : PE X (.Subscript a (.Slice none none (some (.UnaryOp .USub (.Constant (.int 1) n p1) p2)) p3) pos) (rdE g Z (xUn fRevL xa)) :=
  PE.imp (pe_revL ha) fun σ H Q ⟨r, h, M, fl, rs, rh, q⟩ => ⟨r, h, M, fl, rs, rh, Po.bind q fun w h1 v H1 M1 e1 rh1 rw1 p1 => by
    rw [hK]
    simp only [fRevL] at p1
    cases e4 : lstOf h1 w with
    | none => rw [e4] at p1; exact p1.elim
    | some ws =>
      rw [e4] at p1
      simp only at p1
      cases e5 : pureL ws with
      | none => rw [e5] at p1; exact p1.elim
      | some ds =>
        rw [e5] at p1
        obtain ⟨a, xs, rfl, sq, r2⟩ := lstOf_sq rh1 rw1 e4
        rw [pureL_some e5] at r2
        exact ⟨a, xs, rfl, sq, fun n hn => po_lst rh1 p1 (RDs.rev (RWs.toD r2)) hn⟩⟩

/-! ### methods of built-in types -/
@[simp] def tyOk (T : String) (w : W) (h : Sto) : Bool := if T = "list" then (lstOf h w).isSome else if T = "str" then w.str?.isSome else if T = "dict" then (dctOf h w).isSome else false
@[simp] def xBm (T : String) (F : W → List W → Sto → Re W) (o : XE) (t : XA) : XE := fun r h => (o r h).bind fun w h1 => if tyOk T w h1 = true then (t r h1).bind fun ws h2 => F w ws h2 else .stuck
def Mt (X : Cx) (g : G) (Z : WX) (id : String) (F : W → List W → Sto → Re W) : Prop :=
  ∃ r, MtR X id r ∧ ∀ {σ : L2.St} {H : Hp} {M : Mu} {fl : List Nat} {h : Sto} {v : V} {w : W} {vs : List V} {ws : List W} {Q : VK}, RH g H M fl h → RW g H M v w → RWs g H M vs ws → Po g Z σ fl (RW g) H M Q (F w ws h) → r v vs H Q
theorem tyOk_v {T : String} (rh : RH g H M fl h) (r : RW g H M v w) (e : tyOk T w h = true) : tyV g.K T v H := by
  simp only [tyOk] at e
  split at e
  · rename_i hT
    subst hT
    cases e2 : lstOf h w with
    | none => rw [e2] at e; cases e
    | some ws =>
      obtain ⟨a, xs, rfl, sq, _⟩ := lstOf_sq rh r e2
      exact .inl ⟨rfl, xs, sq⟩
  · split at e
    · rename_i hT
      subst hT
      cases e2 : w.str? with
      | none => rw [e2] at e; cases e
      | some z =>
        rw [W.str?_some e2] at r
        obtain ⟨rfl, _⟩ := r.str_inv
        rfl
    · split at e
      · rename_i hT
        subst hT
        cases e2 : dctOf h w with
        | none => rw [e2] at e; cases e
        | some ws =>
          obtain ⟨a, xs, rfl, hv, _⟩ := dctOf_h rh r e2
          exact .inr (.inr (.inl ⟨rfl, .inl ⟨xs, hv⟩⟩))
      · cases e
theorem se_bm {T id : String} {name : Str} {F : W → List W → Sto → Re W} {cpos : Pos} {xo : XE} (pa : PlainAttrs T) (slot : Slot T name id) (hty : typeOf (.builtin id) = pure (.type "method_descriptor")) (mt : Mt X g Z id F) (ho : PE X o (rdE g Z xo)) (ha : PA X (e :: es) (rdA g Z ta)) (hK : X.K = g.K := by rfl)
    (hbase : attributeBase o name X.env (eval o X.env) = eval o X.env := by rfl)
    (hfew : ((backTo cpos (starEach (e :: es) X.env)).all (fun x => !x.1) && (backToKw cpos (keywordEach [] X.env)).all (fun x => x.1.isSome)
      && decide ((e :: es).length + ([] : List Keyword).length + (if ([] : List Keyword).isEmpty then 0 else 1) < 30)) = true := by rfl)
    (hline : (apos.endLine == cpos.line) = true := by rfl) (hs : starEach (e :: es) X.env = (false, eval e X.env) :: starEach es X.env := by rfl) (hplain : (backTo cpos (starEach es X.env)).any (·.1) = false := by rfl) :
    PE X (.Call (.Attribute o name apos) (e :: es) [] cpos) (rdE g Z (xBm T F xo ta)) := by
  obtain ⟨r2, hm, k⟩ := mt
  refine PE.imp (pe_bm pa slot hty hm ho ha hbase hfew hline hs hplain) fun σ H Q ⟨r, h, M, fl, rs, rh, q⟩ => ⟨r, h, M, fl, rs, rh, Po.bind q fun w h1 v H1 M1 e1 rh1 rw1 p1 => ?_⟩
  obtain ⟨ht, p1⟩ := po_if p1
  rw [hK]
  exact ⟨tyOk_v rh1 rw1 ht, r, h1, M1, fl, rs.mono e1 rh.sub, rh1, Po.bind p1 fun ws h2 vs H2 M2 e2 rh2 rw2 p2 => k rh2 (rw1.mono e2 rh1.sub) rw2 p2⟩
theorem se_bm0 {T id : String} {name : Str} {F : W → List W → Sto → Re W} {cpos : Pos} {xo : XE} (pa : PlainAttrs T) (slot : Slot T name id) (hty : typeOf (.builtin id) = pure (.type "method_descriptor")) (mt : Mt X g Z id F) (ho : PE X o (rdE g Z xo)) (hK : X.K = g.K := by rfl)
    (hbase : attributeBase o name X.env (eval o X.env) = eval o X.env := by rfl) (hline : (apos.endLine == cpos.line) = true := by rfl) :
    PE X (.Call (.Attribute o name apos) [] [] cpos) (rdE g Z (xBm T F xo xNil)) := by
  obtain ⟨r2, hm, k⟩ := mt
  refine PE.imp (pe_bm0 pa slot hty hm ho hbase hline) fun σ H Q ⟨r, h, M, fl, rs, rh, q⟩ => ⟨r, h, M, fl, rs, rh, Po.bind q fun w h1 v H1 M1 e1 rh1 rw1 p1 => ?_⟩
  obtain ⟨ht, p1⟩ := po_if p1
  rw [hK]
  exact ⟨tyOk_v rh1 rw1 ht, k rh1 rw1 .nil p1⟩
/-- the list at a place, changed -/
@[simp] def onLst (w : W) (h : Sto) (k : Nat → List W → Re W) : Re W := match w with
  | .l n => match h.o[n]? with
    | some (.lst ws) => k n ws
    | _ => .stuck
  | _ => .stuck
theorem onLst_inv {k : Nat → List W → Re W} (rh : RH g H M fl h) (r : RW g H M v w) (q : Po g Z σ fl (RW g) H M Q (onLst w h k)) : ∃ n a vs ws, w = .l n ∧ v = .ref a ∧ M.m[n]? = some a ∧ h.o[n]? = some (.lst ws) ∧ H a = some (.lst vs) ∧ RWs g H M vs ws ∧ Po g Z σ fl (RW g) H M Q (k n ws) := by
  cases w with
  | l n =>
    obtain ⟨a, rfl, e1⟩ := r.l_inv
    simp only [onLst] at q
    split at q
    · rename_i ws ew
      obtain ⟨vs, hv, rv⟩ := rh.lst e1 ew
      exact ⟨n, a, vs, ws, rfl, rfl, e1, ew, hv, rv, q⟩
    · exact q.elim
  | _ => exact q.elim
/-- a list written: the end -/
theorem po_put {n : Nat} {a : Addr} {ws ws' : List W} {vs' : List V} {c' : Bool} {z : W} {zv : V} (rh : RH g H M fl h) (e : M.m[n]? = some a) (eo : h.o[n]? = some (.lst ws)) (r : RWs g H M vs' ws') (rz : RW g H M zv z) (hc : c' = true → h.c = true ∧ ∀ f, (∀ q ∈ ws, q.lt f) → ∀ q ∈ ws', q.lt f)
    (q : Po g Z σ fl (RW g) H M Q (.ok z ⟨h.o.set n (.lst ws'), c'⟩)) : Q zv (upd H a (.lst vs')) := by
  have xt : Ext H M (upd H a (.lst vs')) M := Ext.put rh e
  exact q zv _ M xt (rh.put e eo (show RWs g _ M vs' ws' from RWs.mono xt rh.sub r) hc) (rz.mono xt rh.sub)
@[simp] def fAppend (w : W) (as : List W) (h : Sto) : Re W := match as with
  | [z] => onLst w h fun n ws => if ws.length < lim then .ok (.d .non) ⟨h.o.set n (.lst (ws ++ [z])), h.c && z.isD⟩ else .stuck
  | _ => .stuck
theorem m_append : Mt X g Z "list.append" fAppend := ⟨_, mt_append, fun {σ H M fl h v w vs ws Q} rh rv rws q => by
  cases ws with
  | nil => exact q.elim
  | cons z t =>
    cases t with
    | cons _ _ => exact q.elim
    | nil =>
      obtain ⟨zv, rfl, rz⟩ := RWs.one rws
      obtain ⟨n, a, us, ws, rfl, rfl, e1, e2, hv, ru, q⟩ := onLst_inv rh rv q
      obtain ⟨hl, q⟩ := po_ifP q
      refine ⟨a, us, zv, rfl, rfl, hv, by rw [RWs.length ru, ← lim_line]; exact hl, po_put rh e1 e2 (RWs.app1 ru rz) (.d .non) (fun hc => ?_) q⟩
      rw [Bool.and_eq_true] at hc
      exact ⟨hc.1, fun f hf y hy => (List.mem_append.mp hy).elim (hf y) fun z1 => by rw [List.mem_singleton.mp z1]; exact W.isD_lt hc.2⟩⟩
@[simp] def fExtend (w : W) (as : List W) (h : Sto) : Re W := match as with
  | [z] => onLst w h fun n ws => match ldOf h z with
    | some ds => if ws.length + ds.length ≤ lim then .ok (.d .non) ⟨h.o.set n (.lst (ws ++ ds.map .d)), h.c⟩ else .stuck
    | none => .stuck
  | _ => .stuck
theorem m_extend : Mt X g Z "list.extend" fExtend := ⟨_, mt_extend, fun {σ H M fl h v w vs ws Q} rh rv rws q => by
  cases ws with
  | nil => exact q.elim
  | cons z t =>
    cases t with
    | cons _ _ => exact q.elim
    | nil =>
      obtain ⟨zv, rfl, rz⟩ := RWs.one rws
      obtain ⟨n, a, us, ws, rfl, rfl, e1, e2, hv, ru, q⟩ := onLst_inv rh rv q
      cases e3 : ldOf h z with
      | none => rw [e3] at q; exact q.elim
      | some ds =>
        rw [e3] at q
        obtain ⟨hl, q⟩ := po_ifP q
        obtain ⟨b, ys, rfl, hy, hd⟩ := ldOf_h rh rz e3
        refine ⟨a, b, us, ys, rfl, rfl, hv, hy, by rw [RWs.length ru, hd.len, ← lim_line]; exact hl, po_put rh e1 e2 (Paired.app ru hd.toW) (.d .non) (fun hc => ⟨hc, fun f hf y hy => (List.mem_append.mp hy).elim (hf y) fun z1 => ?_⟩) q⟩
        obtain ⟨d, _, rfl⟩ := List.mem_map.mp z1
        trivial⟩
end
end
end Xs

/-! XsO: the end of a law. -/
namespace Xs
noncomputable section
open PySem PySem.Spec PyProof.Rows L2
theorem ints_rds {g : G} {H : Hp} {B : Addr → Prop} : ∀ ns : List Int, RDs g H B (ns.map V.int) (ns.map D.int)
  | [] => .nil
  | n :: ns => .cons (.int n) (ints_rds ns)
/-- the law's call gives True -/
def Good (F : List W → Sto → Re W) (ns : List Int) : Prop := ∃ h', F [.s (ns.map .int)] ⟨[], true⟩ = .ok (.d (.bl true)) h'
theorem good_sp {g : G} {F : List W → Sto → Re W} {ns : List Int} {H : Hp} {a : Addr} (gd : Good F ns) (fz : FzS g.K H a (ns.map V.int)) : spF g F [.ref a] H (fun v _ => v = .bl true) fun _ _ _ => False := by
  obtain ⟨h', e⟩ := gd
  refine ⟨[.s (ns.map .int)], ⟨[], true⟩, ⟨fun _ => False, []⟩, [], .cons (.s fz (ints_rds ns)) .nil, ⟨List.nodup_nil, ?_, rfl, ?_, ?_, ?_⟩, ?_⟩
  · intro b hb; cases hb
  · intro n b o h; cases h
  · intro _ f hf; cases hf
  · intro f hf; cases hf
  · rw [e]
    exact fun v H' M' x rh rv => rv.bl_inv
/-- from an abstract heap that knows at most the script -/
theorem law_core {P : Program} {w : World} {K : PySem.W.Frag} {mg mb : Str → Option Value} {k : Nat} {fa a : Addr} {fd : FuncData} {x : Str} {g : G} {F : List W → Sto → Re W} {s : Shared} {vs : List Value} {ns : List Int} {H : Hp} (hK : g.K = K)
    (KX : K.In s.heap) (hns : s.heap.Ns mainGlobals mg) (hb : s.heap.Ns builtinsNs mb) (hbb : ∀ x : Str, x ≠ "__name__" → mb x = bootBuiltins x) (hlim : s.heap.NoLimit) (hg : s.gens = #[])
    (ha : s.heap.get? a = some { cls := .type "list", data := .seq vs.toArray }) (hr : Room k callerA) (fn : ∀ base : Heap, K.In base → base.Ns mainGlobals mg → FnG P w K mg base k fa fd [x] (spF g F)) (bind : ∀ (s : Shared) (u : Value), BindsTo s fd ⟨[u], []⟩ [(x, u)])
    (gd : Good F ns) (fz : FzS K H a (ns.map V.int)) (ok : HOk P w H s.heap) (only : ∀ b u, H b = some u → b = a ∧ K.lookup a = none ∧ ∃ o, u = .frz o (.lst (ns.map V.int))) :
    codeAny (model P w) callerA (.call (.ref fa) ⟨[.ref a], []⟩) (fun r s' => r = .ok (.ret (.bool true)) ∧ OldK s.heap s'.heap ∧ s'.os = s.os ∧ AllBare s'.gens) s := by
  have keep : ∀ {b : Addr} {o : Obj}, s.heap.get? b = some o → (b = a → ¬ ∃ u, H b = some u) → (hidT s.heap H).get? b = some o := fun {b o} e n => hidT_get e (by
    cases q : H b with
    | none => rfl
    | some u => exact absurd ⟨u, q⟩ (n (only b u q).1))
  have names : ∀ {b : Addr} {m : Str → Option Value}, s.heap.Ns b m → (hidT s.heap H).Ns b m := fun {b m} ⟨o, es, ep, e, d, r⟩ => ⟨o, es, ep, keep e (fun z => by
    subst z
    rw [ha] at e
    cases e
    exact absurd (show Data.seq vs.toArray _ = Data.dict es ep from d) (by intro z; cases z)), d, r⟩
  have inK : K.In (hidT s.heap H) := fun b o e => keep (KX b o e) fun z ⟨u, q⟩ => by
    subst z
    rw [(only b u q).2.1] at e
    cases e
  have md : Mod K mg (hidT s.heap H) := ⟨inK, names hns, ⟨mb, names hb, hbb⟩, let ⟨mc, h1, h2⟩ := hlim; ⟨mc, names h1, h2⟩⟩
  have nofr : ∀ b ∈ frs [], H b = none := fun b hb => by
    have hb : b ∈ ([] : List Addr) := hb
    cases hb
  have e0 : Env0 P w K mg (hidT s.heap H) callerA [] s H := ⟨rfl, md, fun b o e => of_hidT e, Nat.le_of_eq (hidT_size _ _), trivial, nofr, ok, .of_eq hg⟩
  refine codeAny_mono ((fn _ inK (names hns)).go callerA [] s H ⟨[.ref a], []⟩ [.ref a] [.ref a] _ _ hr rfl e0 (bind s (.ref a)) (.cons rfl .nil) (good_sp gd (by rw [hK]; exact fz))) fun r s' h => ?_
  cases r with
  | error e =>
    obtain ⟨_, _, _, _, _, _, _, _, _, _, _, _, z⟩ := h
    exact z.elim
  | ok f =>
    cases f with
    | next => exact h.elim
    | brk => exact h.elim
    | cont => exact h.elim
    | ret u =>
      obtain ⟨v, H', os, bare, un, ok', rv, q⟩ := h
      subst q
      obtain rfl : u = Value.bool true := rv
      refine ⟨rfl, OldK.of_keep fun b o e => ?_, os, bare⟩
      cases q : H b with
      | none => exact un.keep b o e q (by intro z; have z : b ∈ ([] : List Addr) := z; cases z) (by intro z; cases z)
      | some u =>
        obtain ⟨_, _, ob, rfl⟩ := only b u q
        obtain ⟨e1, _⟩ := ok b _ q
        obtain ⟨e2, _⟩ := ok' b _ (un.frzs b ob _ q)
        rw [e] at e1
        cases e1
        exact e2
theorem law_end {l : PySem.W.OpenLaw} {n k : Nat} {q : Program} {loose : List Str} {XP : (Str → Option Value) → Heap → Prop} {YP : World → Heap → Prop} {d : DefRec} {K : Params → PySem.W.Frag} {F : List W → Sto → Re W} {x : Str}
    (hn : l.most = some n) (hn2 : n ≤ sizeLine) (hdf : d.params.defaults = []) (hr : Room k callerA) (hY : ∀ (w : World) (h : Heap), YP w h → (K w.params).In h)
    (fn : ∀ (w : World) (mg : Str → Option Value) (fa : Addr) (h : Heap), (K w.params).In h → h.Ns mainGlobals mg → mg d.name = some (.ref fa) →
      ∃ (fd : FuncData) (g : G), g.K = K w.params ∧ (∀ (s : Shared) (u : Value), BindsTo s fd ⟨[u], []⟩ [(x, u)]) ∧ ∀ base : Heap, (K w.params).In base → base.Ns mainGlobals mg → FnG l.prog w (K w.params) mg base k fa fd [x] (spF g F))
    (law : ∀ ns : List Int, ns.length ≤ n → (∀ z ∈ ns, Builtin.Int.intBits z ≤ 1048576) → Good F ns) : PySem.W.WalkO q loose XP YP l.row.toRowW d [] (fun f vs => PySem.call f vs) := by
  refine Att.attach_callB hn hdf fun w s₀ s mg mb fa o pm cd doc a vs ns G Y ho hd hcd hmg hobj hints hlen hbits hg => ?_
  have KX := hY w _ Y
  obtain ⟨fd, g, hK, hb, hF⟩ := fn w mg fa _ KX G.T.g hmg
  have gd := law ns hlen hbits
  have rv := vals_ints hints
  have hl : ns.length ≤ sizeLine := Nat.le_trans hlen hn2
  cases hk : (K w.params).lookup a with
  | some o =>
    have e := KX a o hk
    rw [hobj] at e
    cases e
    exact law_core (H := fun _ => none) hK KX G.T.g G.T.b G.T.builtins G.T.nolimit hg hobj hr hF hb gd (.inr (.inr ⟨_, vs.toArray, _, hk, rfl, rfl, rfl, by rw [List.size_toArray, hints.length]; exact hl, by simpa using rv⟩)) (fun b u z => nomatch z) fun b u z => nomatch z
  | none =>
    refine law_core (H := fun b => if b = a then some (.frz { cls := .type "list", data := .seq vs.toArray } (.lst (ns.map V.int))) else none) hK KX G.T.g G.T.b G.T.builtins G.T.nolimit hg hobj hr hF hb gd (.inl ⟨_, if_pos rfl⟩) (fun b u z => ?_) fun b u z => ?_
    all_goals
      by_cases hba : b = a
      · subst hba
        have z' := (if_pos rfl).symm.trans z
        cases z'
        first
          | exact ⟨hobj, by rw [List.length_map]; exact hl, vs, _, rv, hobj⟩
          | exact ⟨rfl, hk, _, rfl⟩
      · exact nomatch (if_neg hba).symm.trans z
end
end Xs

/-! XsP: isinstance over data. -/
namespace Xs
noncomputable section
open PySem PySem.Spec PyProof.Rows L2
@[simp] def tys : List String := ["NoneType", "bool", "int", "str", "tuple", "list", "dict"]
@[simp] def tns : List String := ["int", "bool", "str", "tuple", "list", "dict"]
@[simp] def isA (t n : String) : Bool := (t == n) || ((t == "bool") && (n == "int"))
theorem isA_kit : ∀ t ∈ tys, ∀ n ∈ tns, kitB t n = some (isA t n) := by decide +kernel
@[simp] def tyName (h : Sto) : W → Option String
  | .d .non => some "NoneType"
  | .d (.bl _) => some "bool"
  | .d (.int _) => some "int"
  | .d (.str _) => some "str"
  | .d (.tup _) => some "tuple"
  | .d (.lst _) => some "list"
  | .s _ => some "list"
  | .f _ => some "dict"
  | .t _ => some "str"
  | .l k => match h.o[k]? with
    | some (.lst _) => some "list"
    | some (.dct _) => some "dict"
    | _ => none
  | _ => none
@[simp] def fIsi (w y : W) (h : Sto) : Re W := match tyName h w, y with
  | some t, .ty n => if tns.contains n = true then .ok (.d (.bl (isA t n))) h else .stuck
  | _, _ => .stuck
section
variable {X : Cx} {g : G} {Z : WX} {a b c : Expr} {xa xb xc : XE} {pos p apos : Pos} {H : Hp} {M : Mu} {fl : List Nat} {h : Sto} {v u : V} {w y : W} {σ : L2.St} {Q : VK}
theorem tyName_ok {t : String} (rh : RH g H M fl h) (r : RW g H M v w) (e : tyName h w = some t) : t ∈ tys ∧ TyX g.K H v (.type t) := by
  cases r with
  | d r =>
    cases r with
    | non => cases e; exact ⟨by simp, .base .non⟩
    | bl b => cases e; exact ⟨by simp, .base (.bl b)⟩
    | int b => cases e; exact ⟨by simp, .base (.int b)⟩
    | str b _ => cases e; exact ⟨by simp, .base (.str b)⟩
    | tup h1 h2 =>
      cases e
      refine ⟨by simp, ?_⟩
      rcases h1 with (h1 | ⟨o, h1⟩) | ⟨o, its, n, h1, h3, _⟩
      · exact .base (.tup h1)
      · exact .fTuple h1
      · exact .kTuple h1 h3
    | lst h1 h2 => cases e; exact ⟨by simp, .base (.lst h1.1)⟩
  | l q =>
    simp only [tyName] at e
    split at e
    · rename_i ws ew
      cases e
      obtain ⟨vs, hv, _⟩ := rh.lst q ew
      exact ⟨by simp, .base (.lst hv)⟩
    · rename_i ws ew
      cases e
      obtain ⟨vs, hv, _⟩ := rh.dct q ew
      exact ⟨by simp, .base (.dK hv)⟩
    · cases e
  | s q1 q2 =>
    cases e
    refine ⟨by simp, ?_⟩
    rcases q1 with ⟨o, q1⟩ | (q1 | ⟨_, q1⟩) | ⟨o, its, n, q1, q3, _⟩
    · exact .base (.frz q1)
    · exact nomatch q1
    · exact nomatch q1
    · exact .kList q1 q3
  | f q1 q2 => cases e; exact ⟨by simp, .base (.dK q1.1)⟩
  | t => cases e; exact ⟨by simp, .base (.str _)⟩
  | ty => cases e
  | fn _ => cases e
  | x _ _ _ _ _ => cases e
theorem c_isi (hK : X.K = g.K := by rfl) : Fn1 X g Z (.builtin "isinstance") (f2 fIsi) := Fn1.two call_isi fun {σ H M fl h v u w y Q} rh rw1 ry p => by
  simp only [fIsi] at p
  cases e : tyName h w with
  | none => rw [e] at p; exact p.elim
  | some t =>
    rw [e] at p
    cases ry with
    | @ty n =>
      simp only at p
      obtain ⟨q, p⟩ := po_if p
      obtain ⟨h1, h2⟩ := tyName_ok rh rw1 e
      exact ⟨v, .ty n, .type t, .type n, _, rfl, .ty n, by rw [hK]; exact h2, kit_ty (isA_kit t h1 n (by simpa using q)), po_bl rh p⟩
    | _ => exact p.elim
/-- the name of a built-in type -/
@[simp] def xTy (n : String) : XE := fun _ h => .ok (.ty n) h
theorem se_ty {x : Str} {T : String} (hm : X.mg x = none) (hv : bootBuiltins x = some (.type T)) (hg : Gl X x := by rfl) (hn : x ≠ "__name__" := by decide) (hd : (x == ("__debug__" : Str)) = false := by decide) : PE X (.Name x pos) (rdE g Z (xTy T)) :=
  PE.imp (pe_bltn (v := .ty T) hg hm hv rfl hn hd) fun σ H Q ⟨r, h, M, fl, rs, rh, p⟩ => p _ H M (Ext.refl H M) rh .ty
end
theorem _root_.L2.Room.u {k n : Nat} {A : Around} (r : Room k A) (h : n ≤ 200) : A.units + n < cLine := by have := r.un; omega
end
end Xs

/-! XsQ: plain laws of the computations. -/
namespace Xs
noncomputable section
open PySem PySem.Spec PyProof.Rows L2
theorem le_lim {n : Nat} (h : n ≤ 16000000) : n ≤ lim := Nat.le_trans h (by rw [lim_eq]; decide)
theorem lt_lim {n : Nat} (h : n ≤ 16000000) : n < lim := Nat.lt_of_le_of_lt h (by rw [lim_eq]; decide)
@[simp] theorem lim0 : 0 < lim := lt_lim (by decide)
@[simp] theorem lim1 : 1 ≤ lim := le_lim (by decide)
@[simp] theorem lim2 : 2 ≤ lim := le_lim (by decide)
@[simp] theorem lim3 : 3 ≤ lim := le_lim (by decide)
@[simp] theorem lim4 : 4 ≤ lim := le_lim (by decide)
/-- ints as values -/
def wI (s : List Int) : List W := s.map fun z => .d (.int z)
@[simp] theorem wI_length (s : List Int) : (wI s).length = s.length := by simp [wI]
@[simp] theorem wI_get (s : List Int) (k : Nat) : (wI s)[k]? = s[k]?.map fun z => .d (.int z) := by simp [wI]
@[simp] theorem wI_set (s : List Int) (k : Nat) (z : Int) : (wI s).set k (.d (.int z)) = wI (s.set k z) := by simp [wI, List.map_set]
@[simp] theorem wI_app (s t : List Int) : wI s ++ wI t = wI (s ++ t) := by simp [wI]
@[simp] theorem wI_app1 (s : List Int) (z : Int) : wI s ++ [.d (.int z)] = wI (s ++ [z]) := by simp [wI]
@[simp] theorem wI_nil : ([] : List W) = wI [] ↔ True := by simp [wI]
@[simp] theorem wI_empty (s : List Int) : (wI s).isEmpty = s.isEmpty := by cases s <;> rfl
theorem wI_def (s : List Int) : wI s = (s.map D.int).map .d := by simp [wI]
@[simp] theorem pureL_wI (s : List Int) : pureL (wI s) = some (s.map .int) := by rw [wI_def, pureL_map]
@[simp] theorem map_d_wI (s : List Int) : List.map (W.d ∘ D.int) s = wI s := rfl
@[simp] theorem map_d_int (s : List Int) : List.map W.d (List.map D.int s) = wI s := by simp [wI]
theorem ixN_nat {n k : Nat} (h : k < n) : ixN n (k : Int) = some k := by
  unfold ixN
  rw [if_pos (Int.natCast_nonneg k), if_pos (by omega)]
  simp
theorem atI_nat {α : Type} {xs : List α} {k : Nat} (h : k < xs.length) : atI xs (k : Int) = some xs[k] := by
  unfold atI
  rw [ixN_nat h]
  simp [h]
theorem atI_last {α : Type} {xs : List α} (x : α) : atI (xs ++ [x]) (-1) = some x := by
  unfold atI ixN
  rw [if_neg (by decide), if_pos (by simp; omega)]
  have : ((-1 : Int) + ((xs ++ [x]).length : Nat)).toNat = xs.length := by simp; omega
  rw [this]
  simp
/-- the int at a place -/
def gi (s : List Int) (k : Nat) : Int := s.getD k 0
@[simp] theorem atI_wI {s : List Int} {k : Nat} (h : k < s.length) : atI (wI s) (k : Int) = some (.d (.int (gi s k))) := by
  rw [atI_nat (by simpa using h)]
  simp [wI, gi, List.getD, h]
@[simp] theorem atI_ints {s : List Int} {k : Nat} (h : k < s.length) : atI (s.map D.int) (k : Int) = some (.int (gi s k)) := by
  rw [atI_nat (by simpa using h)]
  simp [gi, List.getD, h]
@[simp] theorem atI_wI_last {s : List Int} {z : Int} : atI (wI (s ++ [z])) (-1) = some (.d (.int z)) := by
  rw [← wI_app1, atI_last]
@[simp] theorem wI_rep (n : Nat) (z : Int) : List.replicate n (W.d (.int z)) = wI (List.replicate n z) := by simp [wI]
theorem seq_nx {a b : XS} {r r1 : Env} {h h1 : Sto} (e : a r h = .nx r1 h1) : sSeq a b r h = b r1 h1 := by simp [e]
theorem fnI_go {na nl : Nat} {b : XS} {ws : List W} {h : Sto} {w : W} (hl : ws.length = na) (hd : ws.all W.isD = true) (e : closeI h (b (entry nl ws) ⟨[], true⟩) = .ok w h) : fnI na nl b ws h = .ok w h := by
  unfold fnI
  rw [if_pos (by simp [hl, hd])]
  exact e
/-- a loop over known items -/
theorem for_go {tg : XG} {body : XS} {ws : List W} (P : Nat → Env → Sto → Prop)
    (step : ∀ i w r h, ws[i]? = some w → P i r h → ∃ r1 r2 h2, tg w r = some r1 ∧ body r1 h = .nx r2 h2 ∧ P (i + 1) r2 h2) : ∀ (m i : Nat) (r : Env) (h : Sto), i + m = ws.length → P i r h →
    ∃ r' h', P ws.length r' h' ∧ ∀ n, m < n → forLoop (nL ws) tg body n i r h = .nx r' h' := by
  intro m
  induction m with
  | zero =>
    intro i r h hi p
    refine ⟨r, h, by rw [← hi]; exact p, fun n hn => ?_⟩
    cases n with
    | zero => omega
    | succ n =>
      have : ws[i]? = none := by simp; omega
      simp [forLoop, this]
  | succ m ih =>
    intro i r h hi p
    have hl : i < ws.length := by omega
    obtain ⟨r1, r2, h2, e1, e2, p2⟩ := step i ws[i] r h (by simp [hl]) p
    obtain ⟨r', h', p', k⟩ := ih (i + 1) r2 h2 (by omega) p2
    refine ⟨r', h', p', fun n hn => ?_⟩
    cases n with
    | zero => omega
    | succ n =>
      have : ws[i]? = some ws[i] := by simp [hl]
      simp only [forLoop, nL, this, e1, e2]
      exact k n (by omega)
theorem for_run {tg : XG} {body : XS} {ws : List W} {r : Env} {h : Sto} (P : Nat → Env → Sto → Prop) (h0 : P 0 r h)
    (step : ∀ i w r h, ws[i]? = some w → P i r h → ∃ r1 r2 h2, tg w r = some r1 ∧ body r1 h = .nx r2 h2 ∧ P (i + 1) r2 h2) :
    ∃ r' h', P ws.length r' h' ∧ forLoop (nL ws) tg body (ws.length + 1) 0 r h = .nx r' h' := by
  obtain ⟨r', h', p, k⟩ := for_go P step ws.length 0 r h (by omega) h0
  exact ⟨r', h', p, k _ (Nat.lt_succ_self _)⟩
@[simp] theorem upInts_length (lo : Int) (n : Nat) : (upInts lo n).length = n := by simp [upInts]
@[simp] theorem intsDown_length (lo : Int) (n : Nat) : (intsDown lo n).length = n := by simp [intsDown]
theorem upInts_get {lo : Int} {n i : Nat} {w : W} (h : (upInts lo n)[i]? = some w) : i < n ∧ w = .d (.int (lo + i)) := by
  simp only [upInts, List.getElem?_map, Option.map_eq_some_iff] at h
  obtain ⟨a, h1, rfl⟩ := h
  have := List.getElem?_eq_some_iff.mp h1
  simp at this
  obtain ⟨h2, h3⟩ := this
  exact ⟨h2, by rw [h3]⟩
theorem intsDown_get {hi : Int} {n i : Nat} {w : W} (h : (intsDown hi n)[i]? = some w) : i < n ∧ w = .d (.int (hi - 1 - i)) := by
  simp only [intsDown, List.getElem?_map, Option.map_eq_some_iff] at h
  obtain ⟨a, h1, rfl⟩ := h
  have := List.getElem?_eq_some_iff.mp h1
  simp at this
  obtain ⟨h2, h3⟩ := this
  exact ⟨h2, by rw [h3]⟩
/-- range's loops -/
theorem sFor_up1 {a : XA} {tg : XG} {b : XS} {r : Env} {h h1 : Sto} {n : Nat} (e : a r h = .ok [.d (.int (n : Nat))] h1) (hs : n < 2 ^ 62) : sFor (iRange1 a) tg b r h = forLoop (nL (upInts 0 n)) tg b (n + 1) 0 r h1 := by
  have hsm : small ((n : Nat) : Int) = true := small_iff.mpr ⟨by omega, by omega⟩
  simp [sFor, e, hsm]
theorem sFor_up2 {a : XA} {tg : XG} {b : XS} {r : Env} {h h1 : Sto} {i j : Int} (e : a r h = .ok [.d (.int i), .d (.int j)] h1) (hi : small i = true) (hj : small j = true) : sFor (iRange2 a) tg b r h = forLoop (nL (upInts i (j - i).toNat)) tg b ((j - i).toNat + 1) 0 r h1 := by
  simp [sFor, e, hi, hj]
theorem sFor_down {a : XE} {tg : XG} {b : XS} {r : Env} {h h1 : Sto} {n : Nat} (e : a r h = .ok (.d (.int (n : Nat))) h1) (hs : n < 2 ^ 62) : sFor (iRevRange1 a) tg b r h = forLoop (nL (intsDown n n)) tg b (n + 1) 0 r h1 := by
  have hsm : small ((n : Nat) : Int) = true := small_iff.mpr ⟨by omega, by omega⟩
  simp [sFor, e, hsm]
theorem small_nat {n : Nat} (h : n < 2 ^ 62) : small (n : Int) = true := small_iff.mpr ⟨by omega, by omega⟩
/-- f at 0, at 1, .. -/
def itr {α : Type} (f : Nat → α → α) : Nat → α → α
  | 0, a => a
  | i + 1, a => f i (itr f i a)
theorem itr_inv {α : Type} {f : Nat → α → α} (P : α → Prop) {n : Nat} {a : α} (h : P a) (k : ∀ i a, i < n → P a → P (f i a)) : P (itr f n a) := by
  induction n with
  | zero => exact h
  | succ n ih => exact k n _ (Nat.lt_succ_self n) (ih fun i a hi => k i a (by omega))
/-- a comprehension over known items, with nothing stored -/
theorem lc_go {tg : XG} {c : XT} {e : XE} {ws : List W} {r : Env} {h : Sto} (P : Nat → List W → Prop)
    (step : ∀ i w acc, ws[i]? = some w → P i acc → ∃ r1, tg w r = some r1 ∧ ((c r1 h = .ok false h ∧ P (i + 1) acc) ∨ (c r1 h = .ok true h ∧ acc.length < lim ∧ ∃ x, e r1 h = .ok x h ∧ P (i + 1) (acc ++ [x])))) : ∀ (m i : Nat) (acc : List W), i + m = ws.length → P i acc →
    ∃ acc', P ws.length acc' ∧ ∀ n, m < n → lcLoop (nL ws) tg c e n i acc r h = .ok acc' h := by
  intro m
  induction m with
  | zero =>
    intro i acc hi p
    refine ⟨acc, by rw [← hi]; exact p, fun n hn => ?_⟩
    cases n with
    | zero => omega
    | succ n =>
      have : ws[i]? = none := by simp; omega
      simp [lcLoop, this]
  | succ m ih =>
    intro i acc hi p
    have hl : i < ws.length := by omega
    have hw : ws[i]? = some ws[i] := by simp [hl]
    obtain ⟨r1, e1, ⟨e2, p2⟩ | ⟨e2, hlim, x, e3, p2⟩⟩ := step i ws[i] acc hw p
    · obtain ⟨acc', p', k⟩ := ih (i + 1) acc (by omega) p2
      refine ⟨acc', p', fun n hn => ?_⟩
      cases n with
      | zero => omega
      | succ n =>
        simp only [lcLoop, nL, hw, e1, e2, Re.noex, Re.bind]
        exact k n (by omega)
    · obtain ⟨acc', p', k⟩ := ih (i + 1) (acc ++ [x]) (by omega) p2
      refine ⟨acc', p', fun n hn => ?_⟩
      cases n with
      | zero => omega
      | succ n =>
        simp only [lcLoop, nL, hw, e1, e2, e3, Re.noex, Re.bind, if_true, if_pos hlim]
        exact k n (by omega)
theorem lc_run {tg : XG} {c : XT} {e : XE} {ws : List W} {r : Env} {h : Sto} (P : Nat → List W → Prop) (h0 : P 0 [])
    (step : ∀ i w acc, ws[i]? = some w → P i acc → ∃ r1, tg w r = some r1 ∧ ((c r1 h = .ok false h ∧ P (i + 1) acc) ∨ (c r1 h = .ok true h ∧ acc.length < lim ∧ ∃ x, e r1 h = .ok x h ∧ P (i + 1) (acc ++ [x])))) :
    ∃ acc', P ws.length acc' ∧ lcLoop (nL ws) tg c e (ws.length + 1) 0 [] r h = .ok acc' h := by
  obtain ⟨acc', p, k⟩ := lc_go P step ws.length 0 [] (by omega) h0
  exact ⟨acc', p, k _ (Nat.lt_succ_self _)⟩
theorem cut_take {α : Type} {xs : List α} {k : Nat} : cut xs none (some (k : Int)) = xs.take k := by
  unfold cut
  rw [HT.sIx_nat, HT.sIx_none]
  by_cases h : k ≤ xs.length
  · simp [Nat.min_eq_left h]
  · rw [Nat.min_eq_right (by omega)]
    simp [List.take_of_length_le (show xs.length ≤ k by omega)]
theorem cut_drop {α : Type} {xs : List α} {k : Nat} : cut xs (some (k : Int)) none = xs.drop k := by
  unfold cut
  rw [HT.sIx_nat, HT.sIx_none]
  by_cases h : k ≤ xs.length
  · rw [Nat.min_eq_left h, List.take_of_length_le (by simp)]
  · rw [Nat.min_eq_right (by omega), List.drop_of_length_le (show xs.length ≤ k by omega)]
    simp
end
end Xs

/-! XsR: dict comprehensions; tuples backwards. -/
namespace Xs
noncomputable section
open PySem PySem.Spec PyProof.Rows L2
def dcLoop (nxt : Nxt) (tg : XG) (c : XT) (ke ve : XE) : Nat → Nat → List (Key × W) → Env → Sto → Re (List (Key × W))
  | 0, _, _, _, _ => .stuck
  | n + 1, i, acc, r, h => match nxt i h with
    | none => .stuck
    | some none => .ok acc h
    | some (some w) => match tg w r with
      | none => .stuck
      | some r1 => (c r1 h).noex.bind fun t h1 => if t = true then
          (ke r1 h1).noex.bind fun y h2 => match y.key? with
            | none => .stuck
            | some k => (ve r1 h2).noex.bind fun x h3 => if acc.length < lim then dcLoop nxt tg c ke ve n (i + 1) (Xs.put acc k x) r h3 else .stuck
        else dcLoop nxt tg c ke ve n (i + 1) acc r h1
def xDcs (src : XI) (tg : XG) (c : XT) (ke ve : XE) (own : List Nat) (r : Env) (h : Sto) : Re (List (Key × W)) := (src r h).bind fun p h1 => dcLoop p.2 tg c ke ve p.1 0 [] (wipeR r own) h1
/-- a dict that stays -/
def xDc (src : XI) (tg : XG) (c : XT) (ke ve : XE) (own : List Nat) : XE := fun r h => (xDcs src tg c ke ve own r h).bind fun ws h1 => match pureK ws with
  | some ds => .ok (.f ds) h1
  | none => .stuck
section
variable {X : Cx} {g : G} {Z : WX} {pos : Pos} {H H' : Hp} {M M' : Mu} {fl : List Nat} {h : Sto} {v u : V} {w y : W} {σ : L2.St} {Q : VK} {r : Env}
theorem RWk.length {κ : Type} {vs : List (κ × V)} {ws : List (κ × W)} (q : RWk g H M vs ws) : vs.length = ws.length := by
  induction q with
  | nil => rfl
  | cons _ _ ih => simp [ih]
structure WkD (H : Hp) (M : Mu) (p : Addr) (vs : List (Key × V)) : Prop where
  at_ : H p = some (.dK vs)
  b : M.B p
  m : p ∉ M.m
theorem WkD.exw {p : Addr} {vs ys : List (Key × V)} (k : WkD H M p vs) : Exw H M (upd H p (.dK ys)) M := by
  have e0 := k.at_
  refine ⟨fun _ _ e => e, fun a o e n => ⟨?_, n⟩, fun a xs e => ?_, fun a o u e => ?_⟩
  · rw [upd_ne (fun z => n (by rw [z]; exact k.b))]; exact e
  · rw [upd_ne (fun z => by rw [z, e0] at e; cases e)]; exact e
  · rw [upd_ne (fun z => by rw [z, e0] at e; cases e)]; exact e
theorem RH.wkD {p : Addr} {vs ys : List (Key × V)} (q : RH g H M fl h) (k : WkD H M p vs) : RH g (upd H p (.dK ys)) M fl h :=
  ⟨q.nd, q.sub, q.len, fun n a o e1 e2 => by
    obtain ⟨u, h1, h2⟩ := q.ev n a o e1 e2
    exact ⟨u, by rw [upd_ne (fun z => k.m (by rw [← z]; exact List.mem_of_getElem? e1))]; exact h1, h2.mw k.exw⟩, q.cl, q.fle⟩
theorem Ext.wkD {H1 : Hp} {M1 : Mu} {p : Addr} {ys : List (Key × V)} (x : Ext H1 M1 H M) (hp : H1 p = none) : Ext H1 M1 (upd H p (.dK ys)) M := by
  have ne : ∀ a o, H1 a = some o → a ≠ p := fun a o e => ne_of_none e hp
  exact ⟨x.pre, fun a o e n => ⟨by rw [upd_ne (ne a o e)]; exact (x.old a o e n).1, (x.old a o e n).2⟩, x.bb, fun a xs e => by rw [upd_ne (ne a _ e)]; exact x.tup a xs e, fun a o u e => by rw [upd_ne (ne a _ e)]; exact x.frz a o u e,
    fun a o e => let ⟨o', e'⟩ := x.dom a o e; ⟨o', by rw [upd_ne (ne a o e)]; exact e'⟩⟩
theorem WkD.ext {p : Addr} {vs : List (Key × V)} (k : WkD H M p vs) (x : Ext H M H' M') : WkD H' M' p vs := let ⟨e, n⟩ := x.old p _ k.at_ k.m; ⟨e, (x.bb p _ k.at_).mp k.b, n⟩
/-- the end: it stays from now on -/
theorem WkD.fz {H1 : Hp} {M1 : Mu} {p : Addr} {vs : List (Key × V)} (k : WkD H M p vs) (x : Ext H1 M1 H M) (hp : H1 p = none) (q : RH g H M fl h) : Ext H1 M1 H (M.fz p) ∧ RH g H (M.fz p) fl h ∧ Exw H M H (M.fz p) := by
  have e : Exw H M H (M.fz p) := ⟨fun _ _ e => e, fun a o e n => ⟨e, fun z => n z.1⟩, fun _ _ e => e, fun _ _ _ e => e⟩
  refine ⟨⟨x.pre, x.old, fun a o e => (x.bb a o e).trans ⟨fun z => ⟨z, ne_of_none e hp⟩, fun z => z.1⟩, x.tup, x.frz, x.dom⟩, ⟨q.nd, fun a ha => ⟨q.sub a ha, fun z => k.m (by rw [← z]; exact ha)⟩, q.len, fun n a o e1 e2 => ?_, q.cl, q.fle⟩, e⟩
  obtain ⟨u, h1, h2⟩ := q.ev n a o e1 e2
  exact ⟨u, h1, h2.mw e⟩
theorem start_wkD {H1 : Hp} {M1 : Mu} {D : Addr} (rh1 : RH g H1 M1 fl h) (hD : H1 D = none) : Ext H1 M1 (upd H1 D (.dK [])) ⟨fun a => M1.B a ∨ a = D, M1.m⟩ ∧ RH g (upd H1 D (.dK [])) ⟨fun a => M1.B a ∨ a = D, M1.m⟩ fl h ∧ WkD (upd H1 D (.dK [])) ⟨fun a => M1.B a ∨ a = D, M1.m⟩ D [] := by
  have ne : ∀ a o, H1 a = some o → a ≠ D := fun a o e => ne_of_none e hD
  have x : Ext H1 M1 (upd H1 D (.dK [])) ⟨fun a => M1.B a ∨ a = D, M1.m⟩ := ⟨fun _ _ e => e, fun a o e n => ⟨by rw [upd_ne (ne a o e)]; exact e, n⟩, fun a o e => ⟨.inl, fun z => z.elim id fun z => absurd z (ne a o e)⟩,
    fun a xs e => by rw [upd_ne (ne a _ e)]; exact e, fun a o u e => by rw [upd_ne (ne a _ e)]; exact e, fun a o e => ⟨o, by rw [upd_ne (ne a o e)]; exact e⟩⟩
  refine ⟨x, rh1.ext x rfl (fun a ha => .inl (rh1.sub a ha)) fun a ha => ?_, upd_same, .inr rfl, fun ha => ?_⟩
  · obtain ⟨o, u, e, _⟩ := rh1.mem ha
    rw [upd_ne (ne a u e)]
  · obtain ⟨o, u, e, _⟩ := rh1.mem ha
    exact ne D u e rfl
/-- the turns, walked: E what is wanted of the list at the end -/
theorem dc_walk {nxt : Nxt} {J : It} {xg : XG} {xc : XT} {xk xe : XE} {own : List Nat} {H1 : Hp} {M1 : Mu} {h1 : Sto} {m0 : Nat} {E : Re (List (Key × W)) → Prop} {Z0 : WX} (rs : RS g H1 M1 σ r) (rh1 : RH g H1 M1 fl h1) (ok : ItOk g J nxt H1 M1)
    (p : E (dcLoop nxt xg xc xk xe m0 0 [] (wipeR r own) h1)) (st : ¬ E .stuck)
    (fin : ∀ ws h2 D H2 M2 (vs : List (Key × V)), H1 D = none → Ext H1 M1 H2 M2 → RH g H2 M2 fl h2 → WkD H2 M2 D vs → RWk g H2 M2 vs ws → E (.ok ws h2) → Q (.ref D) H2) (D : Addr) (hD : H1 D = none) :
    ∃ W : Nat → Nat → Hp → Prop, (∃ m, W 0 m (upd H1 D (.dK []))) ∧ ∀ i m H, W i m H →
      (J.stop i H ∧ Q (.ref D) H) ∨ (J.go i H ∧ ∃ Nx : Hp → Prop, (∀ H', Nx H' → ∃ m', m' < m ∧ W (i + 1) m' H') ∧ ∀ x H', J.yld i H x H' → rdG g own xg x (L2.wipe σ own) H' fun σ2 H2 => L2.wipe σ2 own = L2.wipe σ own ∧ rdT g Z0 xc σ2 H2 fun b H3 =>
        if b = true then rdE g Z0 xk σ2 H3 fun y H4 => rdE g Z0 xe σ2 H4 fun z H5 => ∃ kvs k, y = kV k ∧ H5 D = some (.dK kvs) ∧ kvs.length < sizeLine ∧ Nx (upd H5 D (.dK (putK kvs k z))) else Nx H3) := by
  obtain ⟨x0, rh0, k0⟩ := start_wkD rh1 hD
  refine ⟨fun i m H' => ∃ h' M' acc vs, Ext H1 M1 H' M' ∧ RH g H' M' fl h' ∧ WkD H' M' D vs ∧ RWk g H' M' vs acc ∧ E (dcLoop nxt xg xc xk xe m i acc (wipeR r own) h'), ⟨m0, h1, _, [], [], x0, rh0, k0, .nil, p⟩, ?_⟩
  rintro i m H' ⟨h', M', acc, vs, x', rh', k', rv', p'⟩
  obtain ⟨s1, s2⟩ := ok fl i H' M' h' x' rh'
  have rs' : RS g H' M' (L2.wipe σ own) (wipeR r own) := (rs.mono x' rh1.sub).wipe own
  cases m with
  | zero => exact (st p').elim
  | succ m =>
    simp only [dcLoop] at p'
    cases e : nxt i h' with
    | none => rw [e] at p'; exact (st p').elim
    | some o =>
      rw [e] at p'
      cases o with
      | none => exact .inl ⟨s1 e, fin acc h' D H' M' vs hD x' rh' k' rv' p'⟩
      | some w =>
        obtain ⟨go, s3⟩ := s2 w e
        simp only at p'
        cases e2 : xg w (wipeR r own) with
        | none => rw [e2] at p'; exact (st p').elim
        | some r1 =>
          rw [e2] at p'
          simp only at p'
          refine .inr ⟨go, fun H2 => ∃ h2 M2 acc2 vs2, Ext H1 M1 H2 M2 ∧ RH g H2 M2 fl h2 ∧ WkD H2 M2 D vs2 ∧ RWk g H2 M2 vs2 acc2 ∧ E (dcLoop nxt xg xc xk xe m (i + 1) acc2 (wipeR r own) h2), fun H2 z => ⟨m, Nat.lt_succ_self m, z⟩, fun y H2 yd => ?_⟩
          obtain ⟨M2, x2, rh2, rw2⟩ := s3 y H2 yd
          refine ⟨wipeR r own, h', M2, fl, w, rs'.mono x2 rh'.sub, rh2, rw2, r1, e2, fun σ3 rs3 hw => ⟨hw.trans (wipe_idem own), ?_⟩⟩
          refine ⟨r1, h', M2, fl, rs3, rh2, ?_⟩
          cases e3 : xc r1 h' with
          | exc _ _ => rw [e3] at p'; exact (st p').elim
          | stuck => rw [e3] at p'; exact (st p').elim
          | ok t h3 =>
            rw [e3] at p'
            intro b H3 M3 x3 rh3 rb
            have rb : b = t := rb
            subst rb
            cases b with
            | false => exact ⟨h3, M3, acc, vs, (x'.trans x2).trans x3, rh3, (k'.ext x2).ext x3, RWk.mono x3 rh2.sub (RWk.mono x2 rh'.sub rv'), p'⟩
            | true =>
              have p' : E ((xk r1 h3).noex.bind fun y h2 => match y.key? with | none => .stuck | some k => (xe r1 h2).noex.bind fun x h4 => if acc.length < lim then dcLoop nxt xg xc xk xe m (i + 1) (Xs.put acc k x) (wipeR r own) h4 else .stuck) := p'
              simp only [if_true]
              refine ⟨r1, h3, M3, fl, rs3.mono x3 rh2.sub, rh3, ?_⟩
              cases e4 : xk r1 h3 with
              | exc _ _ => rw [e4] at p'; exact (st p').elim
              | stuck => rw [e4] at p'; exact (st p').elim
              | ok y h4 =>
                rw [e4] at p'
                intro yv H4 M4 x4 rh4 ry
                have p' : E (match y.key? with | none => .stuck | some k => (xe r1 h4).noex.bind fun x h4 => if acc.length < lim then dcLoop nxt xg xc xk xe m (i + 1) (Xs.put acc k x) (wipeR r own) h4 else .stuck) := p'
                cases ek : y.key? with
                | none => rw [ek] at p'; exact (st p').elim
                | some k =>
                  rw [ek] at p'
                  have hy := W.key?_some ek ry
                  refine ⟨r1, h4, M4, fl, (rs3.mono x3 rh2.sub).mono x4 rh3.sub, rh4, ?_⟩
                  cases e5 : xe r1 h4 with
                  | exc _ _ => rw [e5] at p'; exact (st p').elim
                  | stuck => rw [e5] at p'; exact (st p').elim
                  | ok z h5 =>
                    rw [e5] at p'
                    intro zv H5 M5 x5 rh5 rz
                    have p' : E (if acc.length < lim then dcLoop nxt xg xc xk xe m (i + 1) (Xs.put acc k z) (wipeR r own) h5 else .stuck) := p'
                    have k5 := (((k'.ext x2).ext x3).ext x4).ext x5
                    have rv5 := RWk.mono x5 rh4.sub (RWk.mono x4 rh3.sub (RWk.mono x3 rh2.sub (RWk.mono x2 rh'.sub rv')))
                    by_cases hl : acc.length < lim
                    · rw [if_pos hl] at p'
                      have ew : Exw H5 M5 (upd H5 D (.dK (putK vs k zv))) M5 := k5.exw
                      refine ⟨vs, k, hy, k5.at_, by rw [RWk.length rv5, ← lim_line]; exact hl, h5, M5, Xs.put acc k z, putK vs k zv, ((((x'.trans x2).trans x3).trans x4).trans x5).wkD hD, rh5.wkD k5, ⟨upd_same, k5.b, k5.m⟩, RWk.mw ew (RWk.put rv5 k rz), p'⟩
                    · rw [if_neg hl] at p'
                      exact (st p').elim

theorem se_dc {kx vx tg iter : Expr} {ifs : List Expr} {scope : Scope} {own : List (Str × Nat)} {src : XI} {xg : XG} {xc : XT} {xk xe : XE} {Z0 : WX} (hc : X.calm = true) (hN : X.N.Nodup) (hi : PI X tg iter (rdI g Z src)) (ok : BlkOk X.N X.env.scope scope own)
    (hg : ∀ (s : Shared) (H : Hp) (C : Addr) (cl : List (Str × Addr)) (fp : List Addr), PG (X.blk s H scope (compEnvC scope cl C X.env) fp) tg (rdG g (own.map (·.2)) xg)) (ht : ∀ (s : Shared) (H : Hp) (C : Addr) (cl : List (Str × Addr)) (fp : List Addr), PTs (X.blk s H scope (compEnvC scope cl C X.env) fp) ifs (rdT g Z0 xc))
    (hk : ∀ (s : Shared) (H : Hp) (C : Addr) (cl : List (Str × Addr)) (fp : List Addr), PE (X.blk s H scope (compEnvC scope cl C X.env) fp) kx (rdE g Z0 xk))
    (he : ∀ (s : Shared) (H : Hp) (C : Addr) (cl : List (Str × Addr)) (fp : List Addr), PE (X.blk s H scope (compEnvC scope cl C X.env) fp) vx (rdE g Z0 xe)) (hs : ∀ x, foldedSetIterable iter X.env x = pure x := by intro _; rfl) :
    PE X (.DictComp kx vx [⟨tg, iter, ifs, 0⟩] scope pos) (rdE g Z (xDc src xg xc xk xe (own.map (·.2)))) :=
  PE.imp (pe_dc hc hN hi ok hg ht hk he hs) fun σ H Q ⟨r, h, M, fl, rs, rh, p⟩ => ⟨r, h, M, fl, rs, rh, Po.bind (Po.assoc p) fun a h1 J H1 M1 e1 rh1 ok1 p1 D hD =>
    dc_walk (E := fun x => Po g Z σ fl (RW g) H1 M1 Q (x.bind fun ws h1 => match pureK ws with | some ds => .ok (.f ds) h1 | none => .stuck)) (rs.mono e1 rh.sub) rh1 ok1 p1 (fun z => z) (fun ws h2 D H2 M2 vs hD x2 rh2 k2 rv p2 => by
      have p2 : Po g Z σ fl (RW g) H1 M1 Q (match pureK ws with | some ds => .ok (.f ds) h2 | none => .stuck) := p2
      cases e : pureK ws with
      | none => rw [e] at p2; exact p2.elim
      | some ds =>
        rw [e] at p2
        obtain ⟨x3, rh3, ew⟩ := k2.fz x2 hD rh2
        rw [pureK_some e] at rv
        exact p2 _ _ _ x3 rh3 (.f ⟨k2.at_, fun z => z.2 rfl⟩ ((RWk.toD rv).mw ew.d))) D hD⟩
end
/-! ### t[::-1] -/
section
variable {prog : Program} {w : World} {A : Around} {E : Value → Shared → Prop} {s : Shared}
theorem sliceApplied_rev {sl : Addr} {vl vu vs : Value} {n : Nat} {Q : Int × Int × Nat → Shared → Prop} (hs : s.heap.IsSliceOf sl vl vu vs) (pl : IsPart vl none) (pu : IsPart vu none) (ps : IsPart vs (some (-1)))
    (h : Q ((n : Int) - 1, -1, n) s) : wpAny (model prog w) A (Builtin.Slice.sliceApplied (.ref sl) (pure (n : Int))) Q E s := by
  obtain ⟨os, hos, hcs, hds⟩ := id hs
  unfold Builtin.Slice.sliceApplied Builtin.Slice.sliceFields
  refine wpAny_bind (wpAny_bind (wpAny_field hos hds (x := vl) rfl (wpAny_bind (wpAny_field hos hds (x := vu) rfl (wpAny_bind (wpAny_field hos hds (x := vs) rfl (wpAny_pure ?_)))))))
  refine wpAny_bind (HT.slicePart_ ps ?_)
  show wpAny _ _ (if ((-1 : Int) == 0) = true then _ else _) _ _ s
  rw [if_neg (by decide)]
  refine wpAny_bind (HT.slicePart_ pl (wpAny_bind (HT.slicePart_ pu (wpAny_bind (wpAny_pure ?_)))))
  have e : Builtin.Slice.slicePlaces ((n : Int) - 1) (-1) (-1) = n := by
    unfold Builtin.Slice.slicePlaces
    have h1 : ¬ ((-1 : Int) > 0) := by omega
    rw [if_neg h1]
    split
    · rw [show (- -1 : Int) = 1 by decide, Int.ediv_one]
      omega
    · omega
  show wpAny _ _ (pure ((n : Int) - 1, (-1 : Int), Builtin.Slice.slicePlaces ((n : Int) - 1) (-1) (-1))) _ _ s
  rw [e]
  exact wpAny_pure h
theorem rev_pick (xs : Array Value) : ((List.range xs.size).filterMap fun (m : Nat) => xs[(((xs.size : Int) - 1) + (m : Int) * (-1)).toNat]?).toArray = xs.toList.reverse.toArray := by
  rw [← PySem.W.krv_all xs, ← List.filterMap_reverse, ← PySem.W.krv_range, List.filterMap_map]
  congr 1
  have key : ∀ l : List Nat, (∀ m ∈ l, m < xs.size) → l.filterMap (fun (m : Nat) => xs[(((xs.size : Int) - 1) + (m : Int) * (-1)).toNat]?) = l.filterMap ((fun x => xs[x]?) ∘ fun k => xs.size - 1 - k) := by
    intro l hl
    induction l with
    | nil => rfl
    | cons m l ih =>
      have h1 : (((xs.size : Int) - 1) + (m : Int) * (-1)).toNat = xs.size - 1 - m := by have := hl m (by simp); omega
      rw [List.filterMap_cons, List.filterMap_cons, ih fun k hk => hl k (by simp [hk])]
      simp only [h1, Function.comp]
  exact key _ fun m hm => List.mem_range.mp hm
theorem getItem_tuple_rev {t sl : Addr} {items : Array Value} {vl vu vs : Value} {Q : Value → Shared → Prop} (ht : IsTup s.heap t items) (hs : s.heap.IsSliceOf sl vl vu vs) (pl : IsPart vl none) (pu : IsPart vu none) (ps : IsPart vs (some (-1)))
    (h : Q (.ref s.heap.objs.size) { s with heap := s.heap.push { cls := .type "tuple", data := .seq items.toList.reverse.toArray } })
    (hsz : items.size ≤ sizeLine) : wpAny (model prog w) A (getItem (.ref t) (.ref sl)) Q E s := by
  have htake : sizeOk (.seq items.toList.reverse.toArray) := by
    show items.toList.reverse.toArray.size ≤ sizeLine
    rw [List.size_toArray, List.length_reverse, Array.length_toList]
    exact hsz
  obtain ⟨os, hos, hcs, hds⟩ := id hs
  have hTs : s.TypeIs (.ref sl) "slice" := ⟨os, hos, hcs⟩
  unfold getItem
  try with_reducible refine wpAny_holding ?_
  first | refine wpAny_bind (wpAny_pure ?_) | skip
  refine wpAny_bind (wpAny_sequenceKey ht.typeIs (by decide) ?_)
  refine wpAny_bind (wpAny_callSpecial?_slot (name := Str.ofString "__getitem__") ht.typeIs PyProof.Rows.slot_tuple_getitem
    (wpAny_call_entry PyProof.Rows.slot_tuple_getitem ht.typeIs PyProof.Rows.entry_tuple_getitem ?_ (PyProof.Rows.args_tuple_getitem _ _)))
  show wpAny _ _ (Builtin.Tuple.tupleItemsOf (.ref t) >>= _) _ _ s
  refine wpAny_bind (PyProof.Rows.tupleItemsOf_ ht ?_)
  refine wpAny_bind (wpAny_typeOf hTs ?_)
  rw [if_pos (by decide)]
  refine wpAny_bind (sliceApplied_rev hs pl pu ps ?_)
  have hno : ¬ ((((items.size : Int) - 1) == 0 && (-1 : Int) == 1 && items.size == items.size) = true) := by
    rw [show ((-1 : Int) == 1) = false by decide, Bool.and_false, Bool.false_and]
    exact Bool.false_ne_true
  show wpAny _ _ (if (((items.size : Int) - 1) == 0 && (-1 : Int) == 1 && items.size == items.size) = true then _ else _) _ _ s
  rw [if_neg hno, rev_pick]
  first
    | exact wpAny_bind (m := Builtin.Tuple.tupleExact _) (wpAny_newObj_type (wpAny_pure ⟨_, rfl, wpAny_pure h⟩) htake)
    | exact wpAny_bind (m := Builtin.Tuple.tupleExact _) (wpAny_newObj_type (wpAny_bind (wpAny_pure (wpAny_pure ⟨_, rfl, wpAny_pure h⟩))) htake)
    | exact wpAny_bind (wpAny_bind (m := Builtin.Tuple.tupleExact _) (wpAny_newObj_type (wpAny_pure (wpAny_pure ⟨_, rfl, wpAny_pure h⟩)) htake))
    | exact wpAny_bind (wpAny_bind (m := Builtin.Tuple.tupleExact _) (wpAny_newObj_type (wpAny_pure ⟨_, rfl, wpAny_pure h⟩) htake))
end
def tRevT (K : PySem.W.Frag) (te : TE) : TE := fun σ H Q => te σ H fun x H1 => ∃ a xs, x = .ref a ∧ SqT K H1 a xs ∧ ∀ p, H1 p = none → Q (.ref p) (upd H1 p (.tup xs.reverse))
section
variable {X : Cx} {g : G} {Z : WX} {xa : XE} {pos : Pos}
theorem pe_revT {e : Expr} {te : TE} {k : Nat} {p1 p2 p3 : Pos} (he : PE X e te) : PE X (.Subscript e (.Slice none none (some (.UnaryOp .USub (.Constant (.int 1) k p1) p2)) p3) pos) (tRevT X.K te) := by
  refine ⟨fun pins s σ H Q I h => ?_⟩
  refine Subscript_ (thn (he.run pins s σ H _ I h) fun v s1 ⟨x, H1, I1, r1, q1⟩ => ?_)
  obtain ⟨a, xs, ex, hx, q⟩ := q1
  subst ex
  cases r1
  have hst : PO X (some (.UnaryOp .USub (.Constant (.int 1) k p1) p2)) (tPart (tUn (rU fun i => .int (-i)) (tC (.int 1)))) := po_some (pe_un un_neg pe_int)
  refine wpAny_Slice (thn (po_none.run pins s1 σ H1 (fun o H2 => o = none ∧ H2 = H1) I1 ⟨rfl, rfl⟩) fun vl s2 ⟨l, H2, I2, pl, el, e2⟩ => ?_)
  subst el e2
  refine thn (po_none.run pins s2 σ H2 (fun o H3 => o = none ∧ H3 = H2) I2 ⟨rfl, rfl⟩) fun vu s3 ⟨u, H3, I3, pu, eu, e3⟩ => ?_
  subst eu e3
  refine thn (hst.run pins s3 σ H3 (fun o H4 => o = some (-1) ∧ H4 = H3) I3 ⟨1, rfl, -1, rfl, rfl, rfl⟩) fun vs s4 ⟨o, H4, I4, ps, eo, e4⟩ => ?_
  subst eo e4
  have I5 : Inv X pins σ H4 { s4 with heap := s4.heap.push { cls := .type "slice", data := .fields #[vl, vu, vs] } } := I4.kept (t' := s4.toks) fun b ob q => Heap.get?_push_of_some _ q
  obtain ⟨its, r, ht, hz⟩ := I5.tuple hx
  have hlen := r.length
  show wpAny (model X.prog X.w) X.A (subscriptTail e (.Slice none none (some (.UnaryOp .USub (.Constant (.int 1) k p1) p2)) p3) (.ref a) (.ref s4.heap.objs.size)) (EP X pins σ Q) X.xe { s4 with heap := s4.heap.push { cls := .type "slice", data := .fields #[vl, vu, vs] } }
  refine tail_any (ops := [.ref a, .ref s4.heap.objs.size]) ht.typeIs (PyProof.Rows.slot_tuple_getitem.lookup) ?_ (by with_unfolding_all rfl)
  refine getItem_tuple_rev ht (Heap.IsSliceOf.new _ vl vu vs) pl pu ps ?_ (by rw [List.size_toArray]; omega)
  refine ⟨.ref _, _, I5.laid (t' := s4.toks) (o := .tup xs.reverse) (fun b ob q => Heap.get?_push_of_some _ q) (Nat.le_refl _) ?_, rfl, q _ (I5.hok.fresh (Nat.le_refl _))⟩
  exact ⟨by rw [List.length_reverse]; exact hz, _, r.reverse, IsTup.new _ _⟩
@[simp] def fRevT (w : W) (h : Sto) : Re W := match w.tup? with
  | some ds => .ok (.d (.tup ds.reverse)) h
  | none => .stuck
theorem se_revT {e : Expr} {n : Nat} {p1 p2 p3 : Pos} (ha : PE X e (rdE g Z xa)) (hK : X.K = g.K := by rfl) : PE X (.Subscript e (.Slice none none (some (.UnaryOp .USub (.Constant (.int 1) n p1) p2)) p3) pos) (rdE g Z (xUn fRevT xa)) :=
  PE.imp (pe_revT ha) fun σ H Q ⟨r, h, M, fl, rs, rh, p⟩ => ⟨r, h, M, fl, rs, rh, Po.bind p fun w h1 v H1 M1 e1 rh1 rw1 p1 => by
    simp only [fRevT] at p1
    cases e : w.tup? with
    | none => rw [e] at p1; exact p1.elim
    | some ds =>
      rw [e] at p1
      rw [W.tup?_some e] at rw1
      obtain ⟨a, xs, rfl, ht, hd⟩ := rw1.tup_inv
      exact ⟨a, xs, rfl, by rw [hK]; exact ht, fun q hq => po_tup rh1 p1 (RDs.rev hd) hq⟩⟩
end
section
variable {X : Cx} {g : G} {Z : WX} {pos : Pos}
theorem sw_trueD {kx vx : Expr} {gs : List Comprehension} {scope : Scope} {pos py : Pos} {y : Str} {l : Nat} {env : PySem.Env} (hk : env.scope.kind = .function) (hy : env.scope.names.lookup y = some .local) (hl : (py.line == pos.line) = true)
    (ha : (scope.names.any fun (n, k) => n == y && (k == .local || k == .cell)) = false) : swapsWith (.DictComp kx vx gs scope pos) (some (.Name y py)) l env = pure true := by
  have ky : env.kindOf y = some .local := hy
  have hb : env.blockKind = .function := by unfold PySem.Env.blockKind; rw [hk]; rfl
  unfold swapsWith
  simp only [hb, ky, ha, Expr.pos, hl]
  rfl
theorem ps_setDc {i : Nat} {y : Str} {py : Pos} {kx vx tg iter : Expr} {ifs : List Expr} {scope : Scope} {own : List (Str × Nat)} {pos spos : Pos} {wi : TI} {g : TG} {tt : TT} {tk tv : TE} (hc : X.calm = true) (hN : X.N.Nodup) (hy : X.N[i]? = some y) (hyl : X.env.scope.names.lookup y = some .local)
    (hsw : swapsWith (.DictComp kx vx [⟨tg, iter, ifs, 0⟩] scope pos) (some (.Name y py)) spos.line X.env = pure true) (hi : PI X tg iter wi) (ok : BlkOk X.N X.env.scope scope own)
    (hg : ∀ (s : Shared) (H : Hp) (C : Addr) (cl : List (Str × Addr)) (fp : List Addr), PG (X.blk s H scope (compEnvC scope cl C X.env) fp) tg g) (ht : ∀ (s : Shared) (H : Hp) (C : Addr) (cl : List (Str × Addr)) (fp : List Addr), PTs (X.blk s H scope (compEnvC scope cl C X.env) fp) ifs tt)
    (hk : ∀ (s : Shared) (H : Hp) (C : Addr) (cl : List (Str × Addr)) (fp : List Addr), PE (X.blk s H scope (compEnvC scope cl C X.env) fp) kx tk)
    (he : ∀ (s : Shared) (H : Hp) (C : Addr) (cl : List (Str × Addr)) (fp : List Addr), PE (X.blk s H scope (compEnvC scope cl C X.env) fp) vx tv) (hs : ∀ x, foldedSetIterable iter X.env x = pure x := by intro _; rfl) :
    PS X (.Assign [.Name y py] (.DictComp kx vx [⟨tg, iter, ifs, 0⟩] scope pos) spos) (tAsg (tDc wi g tt tk tv (own.map (·.2))) (gName i)) := by
  refine ⟨fun pins s σ H D I h => ?_⟩
  rw [exec_Assign_Name_used _ _ _ _ hsw]
  refine wpAny_bind (wpAny_standAt (wpAny_bind ?_))
  show wpAny _ X.A (do let _ ← comprehension (.DictComp kx vx [⟨tg, iter, ifs, 0⟩] scope pos) scope X.env _ newDict false (eval iter X.env) (some (assign (.Name y py) X.env))) _ _ s
  have h : tDc wi g tt tk tv (own.map (·.2)) σ H (fun x H1 => gName i x σ H1 D.nx) := h
  refine wpAny_bind (thn (dc_core (Qf := fun _ s' => SP X pins D .next s') hc hN I hi ok hg ht hk he hs h fun L C s' m H' I' q hn f => ?_) fun _ s' hq => wpAny_pure (wpAny_pure hq))
  show wpAny _ _ (assign (.Name y py) X.env (.ref L)) _ _ _
  refine wpAny_assign_Name (store_ok2 (v := V.ref L) I' hN hy (.inl hyl) rfl (fun s2 I2 ⟨a, sb, ha⟩ => ?_) (.inr hyl))
  obtain ⟨f0, f1, f2, f3, f4, f5⟩ := f
  have haC : C ≠ a := by
    rcases ha with z | z
    · rw [z]; exact f1
    · exact fun e => f4 y a z e.symm
  refine ⟨m, hn.sameBut sb haC, fun h3 sb3 => ?_⟩
  exact ⟨_, H', I2.turned (t' := s2.toks) (fun b o hb e => (sb3.2 b hb).trans e) f0 f1 f3 f4 f5, q⟩
theorem ss_setDc {i : Nat} {y : Str} {py spos : Pos} {kx vx tg iter : Expr} {ifs : List Expr} {scope : Scope} {own : List (Str × Nat)} {src : XI} {xg : XG} {xc : XT} {xk xe : XE} {Z0 : WX} (hc : X.calm = true) (hN : X.N.Nodup) (hi : PI X tg iter (rdI g Z src)) (ok : BlkOk X.N X.env.scope scope own)
    (hg : ∀ (s : Shared) (H : Hp) (C : Addr) (cl : List (Str × Addr)) (fp : List Addr), PG (X.blk s H scope (compEnvC scope cl C X.env) fp) tg (rdG g (own.map (·.2)) xg)) (ht : ∀ (s : Shared) (H : Hp) (C : Addr) (cl : List (Str × Addr)) (fp : List Addr), PTs (X.blk s H scope (compEnvC scope cl C X.env) fp) ifs (rdT g Z0 xc))
    (hk : ∀ (s : Shared) (H : Hp) (C : Addr) (cl : List (Str × Addr)) (fp : List Addr), PE (X.blk s H scope (compEnvC scope cl C X.env) fp) kx (rdE g Z0 xk))
    (he : ∀ (s : Shared) (H : Hp) (C : Addr) (cl : List (Str × Addr)) (fp : List Addr), PE (X.blk s H scope (compEnvC scope cl C X.env) fp) vx (rdE g Z0 xe))
    (hsw : swapsWith (.DictComp kx vx [⟨tg, iter, ifs, 0⟩] scope pos) (some (.Name y py)) spos.line X.env = pure true) (hy : X.N[i]? = some y := by rfl) (hyl : X.env.scope.names.lookup y = some .local := by rfl) (hs : ∀ x, foldedSetIterable iter X.env x = pure x := by intro _; rfl) :
    PS X (.Assign [.Name y py] (.DictComp kx vx [⟨tg, iter, ifs, 0⟩] scope pos) spos) (rdS g Z (sSet i (xDc src xg xc xk xe (own.map (·.2))))) :=
  PS.imp (ps_setDc (i := i) hc hN hy hyl hsw hi ok hg ht hk he hs) fun D' σ H ⟨r, h, M, fl, rs, rh, p⟩ => ⟨r, h, M, fl, rs, rh, by
    have p : PoS g Z fl H M D' (((src r h).bind fun p h1 => (dcLoop p.2 xg xc xk xe p.1 0 [] (wipeR r (own.map (·.2))) h1).bind fun ws h1 => match pureK ws with | some ds => .ok (.f ds) h1 | none => .stuck).then r fun w h1 => .nx (r.set i (some w)) h1) := by
      rw [← Re.bind_assoc]
      exact p
    refine Po.bind (k := fun p h1 => (dcLoop p.2 xg xc xk xe p.1 0 [] (wipeR r (own.map (·.2))) h1).bind fun ws h1 => match pureK ws with | some ds => .ok (.f ds) h1 | none => .stuck) (R2 := RW g) (Q := fun v H1 => D'.nx (σ.set i (some v)) H1) (Po.then (k := fun w h1 => Fl.nx (r.set i (some w)) h1) rs rh.sub p fun x h1 v H1 M1 e1 rs1 rh1 rx p1 => p1 _ H1 M1 (Ext.refl H1 M1) (rs1.set rx) rh1) fun a h1 J H1 M1 e1 rh1 ok1 p1 D hD => ?_
    exact dc_walk (Q := fun v H1 => D'.nx (σ.set i (some v)) H1) (E := fun x => Po g Z σ fl (RW g) H1 M1 (fun v H1 => D'.nx (σ.set i (some v)) H1) (x.bind fun ws h1 => match pureK ws with | some ds => .ok (.f ds) h1 | none => .stuck)) (rs.mono e1 rh.sub) rh1 ok1 p1 (fun z => z) (fun ws h2 D H2 M2 vs hD x2 rh2 k2 rv p2 => by
      have p2 : Po g Z σ fl (RW g) H1 M1 (fun v H1 => D'.nx (σ.set i (some v)) H1) (match pureK ws with | some ds => .ok (.f ds) h2 | none => .stuck) := p2
      cases e : pureK ws with
      | none => rw [e] at p2; exact p2.elim
      | some ds =>
        rw [e] at p2
        obtain ⟨x3, rh3, ew⟩ := k2.fz x2 hD rh2
        rw [pureK_some e] at rv
        exact p2 _ _ _ x3 rh3 (.f ⟨k2.at_, fun z => z.2 rfl⟩ ((RWk.toD rv).mw ew.d))) D hD⟩
end
/-! ### plain laws of loops that may end in a return -/
theorem for_ret_go {tg : XG} {body : XS} {ws : List W} (P : Nat → Env → Sto → Prop) (R : W → Sto → Prop)
    (step : ∀ i w r h, ws[i]? = some w → P i r h → ∃ r1, tg w r = some r1 ∧ ((∃ r2 h2, body r1 h = .nx r2 h2 ∧ P (i + 1) r2 h2) ∨ ∃ z h2, body r1 h = .rt z h2 ∧ R z h2)) : ∀ (m i : Nat) (r : Env) (h : Sto), i + m = ws.length → P i r h →
    (∃ r' h', P ws.length r' h' ∧ ∀ n, m < n → forLoop (nL ws) tg body n i r h = .nx r' h') ∨ ∃ z h', R z h' ∧ ∀ n, m < n → forLoop (nL ws) tg body n i r h = .rt z h' := by
  intro m
  induction m with
  | zero =>
    intro i r h hi p
    refine .inl ⟨r, h, by rw [← hi]; exact p, fun n hn => ?_⟩
    cases n with
    | zero => omega
    | succ n =>
      have : ws[i]? = none := by simp; omega
      simp [forLoop, this]
  | succ m ih =>
    intro i r h hi p
    have hl : i < ws.length := by omega
    have hw : ws[i]? = some ws[i] := by simp [hl]
    obtain ⟨r1, e1, ⟨r2, h2, e2, p2⟩ | ⟨z, h2, e2, q⟩⟩ := step i ws[i] r h hw p
    · rcases ih (i + 1) r2 h2 (by omega) p2 with ⟨r', h', p', k⟩ | ⟨z, h', p', k⟩
      · refine .inl ⟨r', h', p', fun n hn => ?_⟩
        cases n with
        | zero => omega
        | succ n =>
          simp only [forLoop, nL, hw, e1, e2]
          exact k n (by omega)
      · refine .inr ⟨z, h', p', fun n hn => ?_⟩
        cases n with
        | zero => omega
        | succ n =>
          simp only [forLoop, nL, hw, e1, e2]
          exact k n (by omega)
    · refine .inr ⟨z, h2, q, fun n hn => ?_⟩
      cases n with
      | zero => omega
      | succ n => simp only [forLoop, nL, hw, e1, e2]
theorem for_ret {tg : XG} {body : XS} {ws : List W} {r : Env} {h : Sto} (P : Nat → Env → Sto → Prop) (R : W → Sto → Prop) (h0 : P 0 r h)
    (step : ∀ i w r h, ws[i]? = some w → P i r h → ∃ r1, tg w r = some r1 ∧ ((∃ r2 h2, body r1 h = .nx r2 h2 ∧ P (i + 1) r2 h2) ∨ ∃ z h2, body r1 h = .rt z h2 ∧ R z h2)) :
    (∃ r' h', P ws.length r' h' ∧ forLoop (nL ws) tg body (ws.length + 1) 0 r h = .nx r' h') ∨ ∃ z h', R z h' ∧ forLoop (nL ws) tg body (ws.length + 1) 0 r h = .rt z h' := by
  rcases for_ret_go P R step ws.length 0 r h (by omega) h0 with ⟨r', h', p, k⟩ | ⟨r', h', p, k⟩
  · exact .inl ⟨r', h', p, k _ (Nat.lt_succ_self _)⟩
  · exact .inr ⟨r', h', p, k _ (Nat.lt_succ_self _)⟩
/-- while, with a measure -/
theorem while_ret {c : XT} {body : XS} (P : Nat → Env → Sto → Prop) (Dn : Env → Sto → Prop) (R : W → Sto → Prop)
    (step : ∀ m r h, P m r h → (∃ h1, c r h = .ok false h1 ∧ Dn r h1) ∨ ∃ h1, c r h = .ok true h1 ∧ ((∃ r2 h2 m', body r h1 = .nx r2 h2 ∧ m' < m ∧ P m' r2 h2) ∨ ∃ z h2, body r h1 = .rt z h2 ∧ R z h2)) : ∀ (n m : Nat) (r : Env) (h : Sto), m < n → P m r h →
    (∃ r' h', Dn r' h' ∧ whileLoop c body n r h = .nx r' h') ∨ ∃ z h', R z h' ∧ whileLoop c body n r h = .rt z h' := by
  intro n
  induction n with
  | zero => intro m r h hm; omega
  | succ n ih =>
    intro m r h hm p
    rcases step m r h p with ⟨h1, e, d⟩ | ⟨h1, e, ⟨r2, h2, m', e2, hm', p2⟩ | ⟨z, h2, e2, q⟩⟩
    · exact .inl ⟨r, h1, d, by simp [whileLoop, e]⟩
    · rcases ih m' r2 h2 (by omega) p2 with ⟨r', h', d, k⟩ | ⟨z, h', d, k⟩
      · exact .inl ⟨r', h', d, by simp [whileLoop, e, e2, k]⟩
      · exact .inr ⟨z, h', d, by simp [whileLoop, e, e2, k]⟩
    · exact .inr ⟨z, h2, q, by simp [whileLoop, e, e2]⟩
/-- a comprehension's list, filtered and mapped -/
theorem lc_exact {tg : XG} {c : XT} {e : XE} {α : Type} {xs : List α} {inj : α → W} {p : α → Bool} {f : α → W} {r : Env} {h : Sto} (hx : xs.length ≤ 16000000)
    (step : ∀ x ∈ xs, ∃ r1, tg (inj x) r = some r1 ∧ c r1 h = .ok (p x) h ∧ (p x = true → e r1 h = .ok (f x) h)) :
    lcLoop (nL (xs.map inj)) tg c e (xs.length + 1) 0 [] r h = .ok ((xs.filter p).map f) h := by
  obtain ⟨acc, h1, h2⟩ := lc_run (tg := tg) (c := c) (e := e) (ws := xs.map inj) (r := r) (h := h) (fun i acc => acc = ((xs.take i).filter p).map f) rfl (by
    intro i w acc hw ha
    simp only [List.getElem?_map, Option.map_eq_some_iff] at hw
    obtain ⟨x, hx1, rfl⟩ := hw
    obtain ⟨r1, e1, e2, e3⟩ := step x (List.mem_of_getElem? hx1)
    have ht : xs.take (i + 1) = xs.take i ++ [x] := by rw [List.take_succ, hx1]; rfl
    refine ⟨r1, e1, ?_⟩
    cases hp : p x with
    | false => exact .inl ⟨by rw [e2, hp], by rw [ha, ht, List.filter_append]; simp [hp]⟩
    | true =>
      refine .inr ⟨by rw [e2, hp], lt_lim ?_, f x, e3 hp, by rw [ha, ht, List.filter_append]; simp [hp]⟩
      rw [ha, List.length_map]
      exact Nat.le_trans (List.length_filter_le _ _) (by rw [List.length_take]; omega))
  rw [List.length_map] at h1 h2
  rw [List.take_length] at h1
  rw [h2, h1]
theorem dc_go {tg : XG} {c : XT} {ke ve : XE} {ws : List W} {r : Env} {h : Sto} (P : Nat → List (Key × W) → Prop)
    (step : ∀ i w acc, ws[i]? = some w → P i acc → ∃ r1, tg w r = some r1 ∧ c r1 h = .ok true h ∧ acc.length < lim ∧ ∃ y k x, ke r1 h = .ok y h ∧ y.key? = some k ∧ ve r1 h = .ok x h ∧ P (i + 1) (Xs.put acc k x)) : ∀ (m i : Nat) (acc : List (Key × W)), i + m = ws.length → P i acc →
    ∃ acc', P ws.length acc' ∧ ∀ n, m < n → dcLoop (nL ws) tg c ke ve n i acc r h = .ok acc' h := by
  intro m
  induction m with
  | zero =>
    intro i acc hi p
    refine ⟨acc, by rw [← hi]; exact p, fun n hn => ?_⟩
    cases n with
    | zero => omega
    | succ n =>
      have : ws[i]? = none := by simp; omega
      simp [dcLoop, this]
  | succ m ih =>
    intro i acc hi p
    have hl : i < ws.length := by omega
    have hw : ws[i]? = some ws[i] := by simp [hl]
    obtain ⟨r1, e1, e2, hlim, y, k, x, e3, e4, e5, p2⟩ := step i ws[i] acc hw p
    obtain ⟨acc', p', kk⟩ := ih (i + 1) _ (by omega) p2
    refine ⟨acc', p', fun n hn => ?_⟩
    cases n with
    | zero => omega
    | succ n =>
      simp only [dcLoop, nL, hw, e1, e2, e3, e4, e5, Re.noex, Re.bind, if_true, if_pos hlim]
      exact kk n (by omega)
end
end Xs

/-! XsS: sorted, of any data that can be compared. -/
namespace Xs
noncomputable section
open PySem PySem.Spec PyProof.Rows L2
/-- every two can be compared; none is None, none a tuple (or all are tuples with an item) -/
def D.sortable (ds : List D) : Prop := PySem.W.AllAlike (D.pys ds) ∧ PySem.W.Sortable (D.pys ds)
theorem pys_map : ∀ ds : List D, D.pys ds = ds.map D.py
  | [] => rfl
  | d :: ds => by rw [D.pys, pys_map ds]; rfl
def sortD (ds : List D) : List D := ds.mergeSort (PySem.W.dataLe false D.py)
open Classical in
def fSorted (w : W) (h : Sto) : Re W := match lstOf h w with
  | some ws => match pureL ws with
    | some ds => if D.sortable ds ∧ ds.length ≤ lim ∧ D.depths ds ≤ 60 then .ok (.d (.lst (sortD ds))) h else .stuck
    | none => .stuck
  | none => .stuck
section
variable {X : Cx} {g : G} {Z : WX} {H : Hp} {M : Mu} {fl : List Nat} {h : Sto} {v u : V} {w y : W} {σ : L2.St} {Q : VK}
theorem depth_le {ds : List D} {d : D} (h : d ∈ ds) : d.depth ≤ D.depths ds := by
  induction ds with
  | nil => cases h
  | cons x xs ih =>
    simp only [D.depths]
    rcases List.mem_cons.mp h with rfl | h
    · omega
    · have := ih h; omega
theorem RDs.zip {B : Addr → Prop} : ∀ {vs : List V} {ds : List D}, RDs g H B vs ds → (vs.zip ds).map (·.1) = vs ∧ (vs.zip ds).map (·.2) = ds ∧ ∀ b ∈ vs.zip ds, RD g H B b.1 b.2
  | _, _, .nil => ⟨rfl, rfl, fun b hb => nomatch hb⟩
  | _, _, .cons a b => by
    obtain ⟨h1, h2, h3⟩ := RDs.zip b
    refine ⟨by simp [h1], by simp [h2], fun z hz => ?_⟩
    rw [List.zip_cons_cons] at hz
    rcases List.mem_cons.mp hz with rfl | hz
    · exact a
    · exact h3 z hz
theorem RDs.of_all {B : Addr → Prop} : ∀ {bs : List (V × D)}, (∀ b ∈ bs, RD g H B b.1 b.2) → RDs g H B (bs.map (·.1)) (bs.map (·.2))
  | [], _ => .nil
  | b :: bs, h => .cons (h b (by simp)) (RDs.of_all fun z hz => h z (by simp [hz]))
theorem each_vals : ∀ {bs : List (V × D)} {us : List Value}, PySem.W.EachIs (fun u (b : V × D) => RelV b.1 u) us bs → Vals (bs.map (·.1)) us
  | _, _, .nil => .nil
  | _, _, .cons a b => .cons a (each_vals b)
theorem vals_each : ∀ {bs : List (V × D)} {us : List Value}, Vals (bs.map (·.1)) us → PySem.W.EachIs (fun u (b : V × D) => RelV b.1 u) us bs
  | [], _, .nil => .nil
  | _ :: _, _, .cons a b => .cons a (vals_each b)
theorem each_and {α β : Type} {R S : α → β → Prop} : ∀ {as : List α} {bs : List β}, PySem.W.EachIs R as bs → (∀ a b, b ∈ bs → R a b → S a b) → PySem.W.EachIs S as bs
  | _, _, .nil, _ => .nil
  | _, _, .cons a b, h => .cons (h _ _ (by simp) a) (each_and b fun x y hy r => h x y (by simp [hy]) r)
/-- the rule over the abstract heap -/
theorem call_sortD (hu : X.A.units + 100 < cLine) : CallR X (.builtin "sorted") (fun xs H Q => ∃ (a : Addr) (bs : List (V × D)), xs = [.ref a] ∧ SqL X.K H a (bs.map (·.1)) ∧ (∀ b ∈ bs, Dp X.K H b.1 b.2.py) ∧ D.sortable (bs.map (·.2)) ∧ bs.length ≤ sizeLine ∧ D.depths (bs.map (·.2)) ≤ 60 ∧
    ∀ p, H p = none → Q (.ref p) (upd H p (.lst ((bs.mergeSort (PySem.W.dataLe false fun b : V × D => b.2.py)).map (·.1))))) := by
  intro pins s σ H xs us Q I r h
  obtain ⟨a, bs, rfl, ha, hd, hs, hl, hdp, q⟩ := h
  obtain ⟨its, rv, hL, hz⟩ := I.list ha
  rw [Vals.ref1 r]
  have e1 := vals_each rv
  have e2 : PySem.W.EachIs (fun u (b : V × D) => ∃ as, Reads s.heap u b.2.py as) its bs := each_and e1 fun u b hb hr => Dp.reads I _ _ _ (hd b hb) hr
  have em : bs.map (fun b : V × D => b.2.py) = D.pys (bs.map (·.2)) := by rw [pys_map, List.map_map]; rfl
  refine PySem.W.sorted_data (enc := fun b : V × D => b.2.py) (R := fun u (b : V × D) => RelV b.1 u) hL.isList e1 e2 (by rw [em]; exact hs.1) (by rw [em]; exact hs.2) hl (fun b hb => ?_) fun out ho eo => ?_
  · have h1 : b.2.py.depth ≤ 60 := by
      rw [D.depth_py]
      exact Nat.le_trans (depth_le (List.mem_map.mpr ⟨b, hb, rfl⟩)) hdp
    omega
  · obtain ⟨ep, he'⟩ := PyProof.Rows.sortedAll_at s.heap its (List.toArray out)
    have vv := each_vals eo
    have hlen : ((bs.mergeSort (PySem.W.dataLe false fun b : V × D => b.2.py)).map (·.1)).length ≤ sizeLine := by
      rw [List.length_map, List.length_mergeSort]
      exact hl
    exact ⟨.ref _, _, I.laid (t' := s.toks) (o := .lst ((bs.mergeSort (PySem.W.dataLe false fun b : V × D => b.2.py)).map (·.1))) (fun _ _ => PyProof.Rows.sortedAll_old) (Nat.le_succ _) ⟨hlen, out, ep, vv, he'⟩, rfl, q _ (I.hok.fresh (Nat.le_succ _))⟩
theorem c_sorted (hu : X.A.units + 100 < cLine) (hK : X.K = g.K := by rfl) : Fn1 X g Z (.builtin "sorted") (f1 fSorted) := Fn1.one (call_sortD hu) fun {σ H M fl h v w Q} rh rw1 p => by
  simp only [fSorted] at p
  cases e : lstOf h w with
  | none => rw [e] at p; exact p.elim
  | some ws =>
    rw [e] at p
    obtain ⟨a, xs, rfl, sq, hd⟩ := lstOf_sq rh rw1 e
    simp only at p
    cases e2 : pureL ws with
    | none => rw [e2] at p; exact p.elim
    | some ds =>
      rw [e2] at p
      rw [pureL_some e2] at hd
      have hd := RWs.toD hd
      simp only at p
      split at p
      · rename_i hc
        obtain ⟨h1, h2, h3⟩ := hc
        obtain ⟨z1, z2, z3⟩ := RDs.zip hd
        refine ⟨a, xs.zip ds, rfl, by rw [z1, hK]; exact sq, fun b hb => by rw [hK]; exact (z3 b hb).dp, by rw [z2]; exact h1, ?_, by rw [z2]; exact h3, fun q hq => ?_⟩
        · rw [← lim_line]
          have : (xs.zip ds).length = ds.length := by
            have := congrArg List.length z2
            rwa [List.length_map] at this
          omega
        · have hr := RDs.of_all (bs := (xs.zip ds).mergeSort (PySem.W.dataLe false fun b : V × D => b.2.py)) fun b hb => z3 b (List.mem_mergeSort.mp hb)
          have hm : ((xs.zip ds).mergeSort (PySem.W.dataLe false fun b : V × D => b.2.py)).map (·.2) = sortD ds := by
            unfold sortD
            have e := List.map_mergeSort (r := PySem.W.dataLe false fun b : V × D => b.2.py) (s := PySem.W.dataLe false D.py) (f := fun b : V × D => b.2) (l := xs.zip ds) (fun _ _ _ _ => rfl)
            rw [e, z2]
          rw [hm] at hr
          exact po_lst rh p hr hq
      · exact p.elim
end
end
end Xs

namespace Lk12
noncomputable section
open PySem PySem.Spec PyProof.Rows L2 Xs
def top (i : Nat) : Stmt := PySem.Challenge.pw_remoteviews_k12_few_moves.main.body.getD i (.Pass ⟨0, 0, 0, 0⟩)
theorem bt_int : bootBuiltins "int" = some (.type "int") := by decide +kernel
theorem bt_isinstance : bootBuiltins "isinstance" = some (.builtin "isinstance") := by decide +kernel
theorem bt_len : bootBuiltins "len" = some (.builtin "len") := by decide +kernel
theorem bt_list : bootBuiltins "list" = some (.type "list") := by decide +kernel
theorem bt_max : bootBuiltins "max" = some (.builtin "max") := by decide +kernel
theorem bt_range : bootBuiltins "range" = some (.type "range") := by decide +kernel
theorem bt_repr : bootBuiltins "repr" = some (.builtin "repr") := by decide +kernel
theorem bt_reversed : bootBuiltins "reversed" = some (.type "reversed") := by decide +kernel
theorem bt_sorted : bootBuiltins "sorted" = some (.builtin "sorted") := by decide +kernel
theorem bt_tuple : bootBuiltins "tuple" = some (.type "tuple") := by decide +kernel
abbrev st__law_cell : Stmt := top 4
def b__law_cell : XS := (sSeq (sIf (xTest (xBin fLt (xVar 1) (xApp (f1 fLen) (xCons (xVar 0) xNil)))) (sRet (xBin fIx (xVar 0) (xVar 1))) sSkip)
    (sRet (xC (.int 0))))
def F__law_cell : List W → Sto → Re W := fnI 2 2 b__law_cell
theorem sc__law_cell : FnScope ["_law_script", "_law_k"] ["_law_script", "_law_k"] (defScope st__law_cell) := ⟨rfl, rfl, rfl, by decide +kernel, rfl, by decide +kernel, by decide +kernel⟩
abbrev st__law_digits : Stmt := top 7
def l1__law_digits : XS := (sIf (xTest (xBin fGt (xVar 5) (xC (.int 0)))) (sSeq (sDrop (xBm "list" fAppend (xVar 3) (xCons (xBin fMod (xApp (f1 fInt) (xCons (xVar 5) xNil)) (xC (.int 1000))) xNil)))
    (sSet 5 (xBin fDiv (xVar 5) (xC (.int 1000))))) sSkip)
def l2__law_digits : XS := (sSeq (sSet 7 (xBin fMod (xApp (f1 fInt) (xCons (xBin fAddI (xBin fAddI (xBin fMul (xVar 7) (xC (.int 16807))) (xBin fMul (xC (.int 7)) (xVar 6))) (xC (.int 1))) xNil)) (xC (.int 2147483647))))
    (sDrop (xBm "list" fAppend (xVar 3) (xCons (xBin fMod (xApp (f1 fInt) (xCons (xBin fDiv (xVar 7) (xC (.int 997))) xNil)) (xC (.int 1000))) xNil))))
def l3__law_digits : XS := (sSeq (sSet 5 (xApp F__law_cell (xCons (xVar 0) (xCons (xVar 4) xNil))))
    (sSeq (sIf (xTest (xBin fLt (xVar 5) (xC (.int 0)))) (sSet 5 (xBin fSub (xC (.int 1)) (xBin fMul (xC (.int 2)) (xVar 5)))) sSkip)
    (sIf (xTest (xBin fGe (xVar 5) (xBin fPow (xC (.int 10)) (xC (.int 18))))) (sFor (iRange1 (xCons (xC (.int 60)) xNil)) (gN 6) l1__law_digits) (sSeq (sSet 7 (xBin fMod (xApp (f1 fInt) (xCons (xBin fAddI (xBin fAddI (xBin fMul (xVar 5) (xC (.int 48271))) (xBin fMul (xVar 4) (xC (.int 69621)))) (xC (.int 11))) xNil)) (xC (.int 2147483647))))
    (sFor (iRange1 (xCons (xC (.int 12)) xNil)) (gN 6) l2__law_digits)))))
def b__law_digits : XS := (sSeq (sSet 3 (xApp mkNew xNil))
    (sSeq (sFor (iRange2 (xCons (xVar 1) (xCons (xVar 2) xNil))) (gN 4) l3__law_digits)
    (sRet (xVar 3))))
def F__law_digits : List W → Sto → Re W := fnI 3 8 b__law_digits
theorem sc__law_digits : FnScope ["_law_script", "_law_first", "_law_last", "_law_digits_here", "_law_k", "_law_cell_here", "_law_turn", "_law_seed"] ["_law_script", "_law_first", "_law_last"] (defScope st__law_digits) := ⟨rfl, rfl, rfl, by decide +kernel, rfl, by decide +kernel, by decide +kernel⟩
abbrev st__law_rows_up : Stmt := top 9
def l1__law_rows_up : XS := (sSet 1 (xBin fAddL (xVar 1) (xLc (iSeq (xVar 1)) (gN 3) (xOr (xTest (xBin fEq (xApp (f1 fLen) (xCons (xVar 3) xNil)) (xC (.int 0)))) (xTest (xBin fLt (xBin fIx (xVar 0) (xBin fIx (xVar 3) (xUn fNeg (xC (.int 1))))) (xBin fIx (xVar 0) (xVar 2))))) (xBin fAddL (xVar 3) (xApp mkLst (xCons (xVar 2) xNil))) [3])))
def b__law_rows_up : XS := (sSeq (sSet 1 (xApp mkLst (xCons (xApp mkLst xNil) xNil)))
    (sSeq (sFor (iRange1 (xCons (xApp (f1 fLen) (xCons (xVar 0) xNil)) xNil)) (gN 2) l1__law_rows_up)
    (sRet (xVar 1))))
def F__law_rows_up : List W → Sto → Re W := fnT 1 4 true b__law_rows_up
theorem sc__law_rows_up : FnScope ["_law_places", "_law_found", "_law_k", "_law_row"] ["_law_places"] (defScope st__law_rows_up) := ⟨rfl, rfl, rfl, by decide +kernel, rfl, by decide +kernel, by decide +kernel⟩
abbrev st__law_draw : Stmt := top 8
def b__law_draw : XS := (sSeq (sSet 2 (xBin fIx (xVar 0) (xC (.int 1))))
    (sSeq (sPut (xVar 0) (xC (.int 1)) (xBin fAddI (xVar 2) (xC (.int 1))))
    (sSeq (sIf (xTest (xBin fLt (xVar 2) (xApp (f1 fLen) (xCons (xBin fIx (xVar 0) (xC (.int 0))) xNil)))) (sRet (xBin fMod (xApp (f1 fInt) (xCons (xBin fIx (xBin fIx (xVar 0) (xC (.int 0))) (xVar 2)) xNil)) (xVar 1))) sSkip)
    (sRet (xBin fMod (xApp (f1 fInt) (xCons (xBin fAddI (xBin fMul (xVar 2) (xC (.int 7))) (xC (.int 3))) xNil)) (xVar 1))))))
def F__law_draw : List W → Sto → Re W := fnT 2 3 true b__law_draw
theorem sc__law_draw : FnScope ["_law_box", "_law_many", "_law_at"] ["_law_box", "_law_many"] (defScope st__law_draw) := ⟨rfl, rfl, rfl, by decide +kernel, rfl, by decide +kernel, by decide +kernel⟩
abbrev st__law_list_is : Stmt := top 5
def b__law_list_is : XS := (sRet (xAndV (xApp (f2 fIsi) (xCons (xVar 0) (xCons (xTy "list") xNil))) (xBin (fEqT false) (xApp (f1 fRepr) (xCons (xVar 0) xNil)) (xApp (f1 fRepr) (xCons (xApp (f1 fList) (xCons (xVar 1) xNil)) xNil)))))
def F__law_list_is : List W → Sto → Re W := fnI 2 2 b__law_list_is
theorem sc__law_list_is : FnScope ["_law_actual", "_law_due"] ["_law_actual", "_law_due"] (defScope st__law_list_is) := ⟨rfl, rfl, rfl, by decide +kernel, rfl, by decide +kernel, by decide +kernel⟩
abbrev st_staying : Stmt := top 1
def l1_staying : XS := (sIf (xAnd (xTest (xBin fEq (xBin fIx (xVar 1) (xVar 2)) (xVar 5))) (xOr (xNot (xTruth (xVar 4))) (xTest (xBin fGt (xBin fIx (xVar 0) (xVar 2)) (xBin fIx (xVar 0) (xBin fIx (xVar 4) (xUn fNeg (xC (.int 1))))))))) (sSeq (sDrop (xBm "list" fAppend (xVar 4) (xCons (xVar 2) xNil)))
    (sAug 5 fSub (xC (.int 1)))) sSkip)
def l2_staying : XS := (sIf (xTest (xBin fGt (xBin fIx (xVar 0) (xVar 3)) (xBin fIx (xVar 0) (xVar 2)))) (sPut (xVar 1) (xVar 2) (xApp (f2 fMax2) (xCons (xBin fIx (xVar 1) (xVar 2)) (xCons (xBin fAddI (xBin fIx (xVar 1) (xVar 3)) (xC (.int 1))) xNil)))) sSkip)
def l3_staying : XS := (sFor (iRange2 (xCons (xBin fAddI (xVar 2) (xC (.int 1))) (xCons (xApp (f1 fLen) (xCons (xVar 0) xNil)) xNil))) (gN 3) l2_staying)
def b_staying : XS := (sSeq (sSet 1 (xBin fRepN (xApp mkLst (xCons (xC (.int 1)) xNil)) (xApp (f1 fLen) (xCons (xVar 0) xNil))))
    (sSeq (sFor (iRevRange1 (xApp (f1 fLen) (xCons (xVar 0) xNil))) (gN 2) l3_staying)
    (sSeq (sSet 4 (xApp mkNew xNil))
    (sSeq (sSet 5 (xIf (xTruth (xVar 1)) (xApp (f1 fMax) (xCons (xVar 1) xNil)) (xC (.int 0))))
    (sSeq (sFor (iRange1 (xCons (xApp (f1 fLen) (xCons (xVar 0) xNil)) xNil)) (gN 2) l1_staying)
    (sRet (xVar 4)))))))
def F_staying : List W → Sto → Re W := fnI 1 6 b_staying
theorem sc_staying : FnScope ["places", "sizes", "at", "behind", "found", "left"] ["places"] (defScope st_staying) := ⟨rfl, rfl, rfl, by decide +kernel, rfl, by decide +kernel, by decide +kernel⟩
abbrev st_law : Stmt := top 10
def l1_law : XS := (sSeq (sSet 5 (xBin fAddI (xApp F__law_draw (xCons (xVar 1) (xCons (xC (.int 30)) xNil))) (xBin fMul (xBin fMul (xC (.int 2)) (xApp (f1 fInt) (xCons (xVar 4) xNil))) (xApp F__law_draw (xCons (xVar 1) (xCons (xC (.int 2)) xNil))))))
    (sIf (xTest (xBin (fInL true) (xVar 5) (xVar 3))) (sDrop (xBm "list" fAppend (xVar 3) (xCons (xVar 5) xNil))) sSkip))
def l2_law : XS := (sSeq (sSet 3 (xApp mkNew xNil))
    (sSeq (sFor (iRange1 (xCons (xApp F__law_draw (xCons (xVar 1) (xCons (xC (.int 10)) xNil))) xNil)) (gN 4) l1_law)
    (sSeq (sSet 6 (xApp F__law_rows_up (xCons (xVar 3) xNil)))
    (sSeq (sSet 7 (xApp (f1 fMax) (xCons (xLc (iSeq (xVar 6)) (gN 9) xYes (xApp (f1 fLen) (xCons (xVar 9) xNil)) [9]) xNil)))
    (sSeq (sSet 8 (xBin fIx (xApp (f1 fSorted) (xCons (xLc (iSeq (xVar 6)) (gN 9) (xTest (xBin fEq (xApp (f1 fLen) (xCons (xVar 9) xNil)) (xVar 7))) (xVar 9) [9]) xNil)) (xC (.int 0))))
    (sIf (xNot (xTest (xApp F__law_list_is (xCons (xApp F_staying (xCons (xApp (f1 fTuple) (xCons (xVar 3) xNil)) xNil)) (xCons (xVar 8) xNil))))) (sRet (xC (.bl false))) sSkip))))))
def b_law : XS := (sSeq (sSet 1 (xApp mkNew (xCons (xApp F__law_digits (xCons (xVar 0) (xCons (xC (.int 0)) (xCons (xC (.int 20)) xNil)))) (xCons (xC (.int 0)) xNil))))
    (sSeq (sFor (iRange1 (xCons (xC (.int 4)) xNil)) (gN 2) l2_law)
    (sRet (xC (.bl true)))))
def F_law : List W → Sto → Re W := fnI 1 10 b_law
theorem sc_law : FnScope ["_law_script", "_law_box", "_law_turn", "_law_places", "_law_k", "_law_place", "_law_rows", "_law_size", "_law_due", "_law_row"] ["_law_script"] (defScope st_law) := ⟨rfl, rfl, rfl, by decide +kernel, rfl, by decide +kernel, by decide +kernel⟩
structure Txt (K : PySem.W.Frag) (mg : Str → Option Value) where
  a__law_cell : Addr
  fd__law_cell : FuncData
  g__law_cell : mg "_law_cell" = some (.ref a__law_cell)
  k__law_cell : PySem.W.keepIn K (.ref a__law_cell) = true
  F__law_cell : Fun K "_law_cell" "_law_cell" st__law_cell a__law_cell fd__law_cell
  b__law_cell : Binds K fd__law_cell ["_law_script", "_law_k"] []
  a__law_digits : Addr
  fd__law_digits : FuncData
  g__law_digits : mg "_law_digits" = some (.ref a__law_digits)
  k__law_digits : PySem.W.keepIn K (.ref a__law_digits) = true
  F__law_digits : Fun K "_law_digits" "_law_digits" st__law_digits a__law_digits fd__law_digits
  b__law_digits : Binds K fd__law_digits ["_law_script", "_law_first", "_law_last"] []
  a__law_rows_up : Addr
  fd__law_rows_up : FuncData
  g__law_rows_up : mg "_law_rows_up" = some (.ref a__law_rows_up)
  k__law_rows_up : PySem.W.keepIn K (.ref a__law_rows_up) = true
  F__law_rows_up : Fun K "_law_rows_up" "_law_rows_up" st__law_rows_up a__law_rows_up fd__law_rows_up
  b__law_rows_up : Binds K fd__law_rows_up ["_law_places"] []
  a__law_draw : Addr
  fd__law_draw : FuncData
  g__law_draw : mg "_law_draw" = some (.ref a__law_draw)
  k__law_draw : PySem.W.keepIn K (.ref a__law_draw) = true
  F__law_draw : Fun K "_law_draw" "_law_draw" st__law_draw a__law_draw fd__law_draw
  b__law_draw : Binds K fd__law_draw ["_law_box", "_law_many"] []
  a__law_list_is : Addr
  fd__law_list_is : FuncData
  g__law_list_is : mg "_law_list_is" = some (.ref a__law_list_is)
  k__law_list_is : PySem.W.keepIn K (.ref a__law_list_is) = true
  F__law_list_is : Fun K "_law_list_is" "_law_list_is" st__law_list_is a__law_list_is fd__law_list_is
  b__law_list_is : Binds K fd__law_list_is ["_law_actual", "_law_due"] []
  a_staying : Addr
  fd_staying : FuncData
  g_staying : mg "staying" = some (.ref a_staying)
  k_staying : PySem.W.keepIn K (.ref a_staying) = true
  F_staying : Fun K "staying" "staying" st_staying a_staying fd_staying
  b_staying : Binds K fd_staying ["places"] []
  a_law : Addr
  fd_law : FuncData
  g_law : mg "law" = some (.ref a_law)
  k_law : PySem.W.keepIn K (.ref a_law) = true
  F_law : Fun K "law" "law" st_law a_law fd_law
  b_law : Binds K fd_law ["_law_script"] []
  n_int : mg "int" = none
  n_isinstance : mg "isinstance" = none
  n_len : mg "len" = none
  n_list : mg "list" = none
  n_max : mg "max" = none
  n_range : mg "range" = none
  n_repr : mg "repr" = none
  n_reversed : mg "reversed" = none
  n_sorted : mg "sorted" = none
  n_tuple : mg "tuple" = none
abbrev gOf (K : PySem.W.Frag) : G := ⟨K, fun _ => none, fun _ => none, none⟩
section
variable {P : Program} {w : World} {K : PySem.W.Frag} {mg : Str → Option Value} {base : Heap}
theorem ok__law_cell (T : Txt K mg) : FnG P w K mg base 1 T.a__law_cell T.fd__law_cell ["_law_script", "_law_k"] (spF (gOf K) F__law_cell) :=
  fngI T.F__law_cell sc__law_cell fun cdv A outer s H E hr hgd =>
    (sss_cons (ss_if (st_cmp o_lt (se_var (i := 1)) (se_callB c_len (sa_cons (se_var (i := 0)) sa_nil) T.n_len bt_len)) (sss_one (ss_ret (se_ix (hr.u (by decide)) (se_var (i := 0)) (se_var (i := 1))))) sss_nil)
      (sss_one (ss_ret se_int)))
theorem ok__law_digits (T : Txt K mg) : FnG P w K mg base 2 T.a__law_digits T.fd__law_digits ["_law_script", "_law_first", "_law_last"] (spF (gOf K) F__law_digits) :=
  fngI T.F__law_digits sc__law_digits fun cdv A outer s H E hr hgd =>
    (sss_cons (ss_set (i := 3) sc__law_digits.nd (se_new sa_nil))
      (sss_cons (ss_for ownsE rfl (si_range2 T.n_range (sa_cons (se_var (i := 1)) (sa_cons (se_var (i := 2)) sa_nil))) (sg_name (i := 4) (own := [4]) sc__law_digits.nd) (sss_cons (ss_set (i := 5) sc__law_digits.nd (se_call (ok__law_cell T) (hr.mono (by decide)) hgd T.b__law_cell takesE T.g__law_cell T.k__law_cell (sa_cons (se_var (i := 0)) (sa_cons (se_var (i := 4)) sa_nil))))
      (sss_cons (ss_if (st_cmp o_lt (se_var (i := 5)) se_int) (sss_one (ss_set (i := 5) sc__law_digits.nd (se_bin o_sub se_int (se_bin o_mul se_int (se_var (i := 5)))))) sss_nil)
      (sss_one (ss_if (st_cmp o_ge (se_var (i := 5)) (se_bin o_pow se_int se_int)) (sss_one (ss_for ownsE rfl (si_range1 T.n_range (sa_cons se_int sa_nil)) (sg_name (i := 6) (own := [6]) sc__law_digits.nd) (sss_one (ss_if (st_cmp o_gt (se_var (i := 5)) se_int) (sss_cons (ss_expr (se_bm PySem.F.plainAttrs_list PySem.F.slot_list_append PySem.F.type_list_append m_append (se_var (i := 3)) (sa_cons (se_bin o_mod (se_callTy c_int (sa_cons (se_var (i := 5)) sa_nil) T.n_int bt_int) se_int) sa_nil)))
      (sss_one (ss_set (i := 5) sc__law_digits.nd (se_bin o_div (se_var (i := 5)) se_int)))) sss_nil)))) (sss_cons (ss_set (i := 7) sc__law_digits.nd (se_bin o_mod (se_callTy c_int (sa_cons (se_bin o_add (se_bin o_add (se_bin o_mul (se_var (i := 5)) se_int) (se_bin o_mul (se_var (i := 4)) se_int)) se_int) sa_nil) T.n_int bt_int) se_int))
      (sss_one (ss_for ownsE rfl (si_range1 T.n_range (sa_cons se_int sa_nil)) (sg_name (i := 6) (own := [6]) sc__law_digits.nd) (sss_cons (ss_set (i := 7) sc__law_digits.nd (se_bin o_mod (se_callTy c_int (sa_cons (se_bin o_add (se_bin o_add (se_bin o_mul (se_var (i := 7)) se_int) (se_bin o_mul se_int (se_var (i := 6)))) se_int) sa_nil) T.n_int bt_int) se_int))
      (sss_one (ss_expr (se_bm PySem.F.plainAttrs_list PySem.F.slot_list_append PySem.F.type_list_append m_append (se_var (i := 3)) (sa_cons (se_bin o_mod (se_callTy c_int (sa_cons (se_bin o_div (se_var (i := 7)) se_int) sa_nil) T.n_int bt_int) se_int) sa_nil)))))))))))))
      (sss_one (ss_ret (se_var (i := 3))))))
theorem ok__law_rows_up (T : Txt K mg) : FnG P w K mg base 1 T.a__law_rows_up T.fd__law_rows_up ["_law_places"] (spF (gOf K) F__law_rows_up) :=
  fngT T.F__law_rows_up sc__law_rows_up fun cdv A outer s H E hr hgd =>
    (sss_cons (ss_set (i := 1) sc__law_rows_up.nd (se_lst (sa_cons (se_lst sa_nil) sa_nil)))
      (sss_cons (ss_for ownsE rfl (si_range1 T.n_range (sa_cons (se_callB c_len (sa_cons (se_var (i := 0)) sa_nil) T.n_len bt_len) sa_nil)) (sg_name (i := 2) (own := [2]) sc__law_rows_up.nd) (sss_one (ss_set (i := 1) sc__law_rows_up.nd (se_bin o_addL (se_var (i := 1)) (se_lc (own := [(("_law_row" : Str), 3)]) (Z0 := fun _ _ _ _ => False) rfl sc__law_rows_up.nd (si_seq (se_var (i := 1))) (blkOk_by (by show blkC ["_law_places", "_law_found", "_law_k", "_law_row"] (defScope st__law_rows_up) _ [(("_law_row" : Str), 3)] = true; decide +kernel)) (fun _ _ _ _ _ => (sg_name (i := 3) (own := [3]) sc__law_rows_up.nd)) (fun _ _ _ _ _ => (sts_one (st_w (sw_or (st_cmp (o_eq (hr.u (by decide))) (se_callB c_len (sa_cons (se_var (i := 3)) sa_nil) T.n_len bt_len) se_int) (sw_or1 (st_cmp o_lt (se_ix (hr.u (by decide)) (se_var (i := 0)) (se_ix (hr.u (by decide)) (se_var (i := 3)) (se_neg se_int))) (se_ix (hr.u (by decide)) (se_var (i := 0)) (se_var (i := 2))))))))) (fun _ _ _ _ _ => (se_bin o_addL (se_var (i := 3)) (se_lst (sa_cons (se_var (i := 2)) sa_nil)))))))))
      (sss_one (ss_ret (se_var (i := 1))))))
theorem ok__law_draw (T : Txt K mg) : FnG P w K mg base 1 T.a__law_draw T.fd__law_draw ["_law_box", "_law_many"] (spF (gOf K) F__law_draw) :=
  fngT T.F__law_draw sc__law_draw fun cdv A outer s H E hr hgd =>
    (sss_cons (ss_set (i := 2) sc__law_draw.nd (se_ix (hr.u (by decide)) (se_var (i := 0)) se_int))
      (sss_cons (ss_put (hr.u (by decide)) (se_var (i := 0)) se_int (se_bin o_add (se_var (i := 2)) se_int))
      (sss_cons (ss_if (st_cmp o_lt (se_var (i := 2)) (se_callB c_len (sa_cons (se_ix (hr.u (by decide)) (se_var (i := 0)) se_int) sa_nil) T.n_len bt_len)) (sss_one (ss_ret (se_bin o_mod (se_callTy c_int (sa_cons (se_ix (hr.u (by decide)) (se_ix (hr.u (by decide)) (se_var (i := 0)) se_int) (se_var (i := 2))) sa_nil) T.n_int bt_int) (se_var (i := 1))))) sss_nil)
      (sss_one (ss_ret (se_bin o_mod (se_callTy c_int (sa_cons (se_bin o_add (se_bin o_mul (se_var (i := 2)) se_int) se_int) sa_nil) T.n_int bt_int) (se_var (i := 1))))))))
theorem ok__law_list_is (T : Txt K mg) : FnG P w K mg base 1 T.a__law_list_is T.fd__law_list_is ["_law_actual", "_law_due"] (spF (gOf K) F__law_list_is) :=
  fngI T.F__law_list_is sc__law_list_is fun cdv A outer s H E hr hgd =>
    (sss_one (ss_ret (se_and (se_callB c_isi (sa_cons (se_var (i := 0)) (sa_cons (se_ty T.n_list bt_list) sa_nil)) T.n_isinstance bt_isinstance) (se_one (se_cmp o_eqT (se_callB (c_repr hgd (hr.u (by decide))) (sa_cons (se_var (i := 0)) sa_nil) T.n_repr bt_repr) (se_callB (c_repr hgd (hr.u (by decide))) (sa_cons (se_callTy c_list (sa_cons (se_var (i := 1)) sa_nil) T.n_list bt_list) sa_nil) T.n_repr bt_repr))))))
theorem ok_staying (T : Txt K mg) : FnG P w K mg base 1 T.a_staying T.fd_staying ["places"] (spF (gOf K) F_staying) :=
  fngI T.F_staying sc_staying fun cdv A outer s H E hr hgd =>
    (sss_cons (ss_set (i := 1) sc_staying.nd (se_bin o_repN (se_lst (sa_cons se_int sa_nil)) (se_callB c_len (sa_cons (se_var (i := 0)) sa_nil) T.n_len bt_len)))
      (sss_cons (ss_for ownsE rfl (si_revRange1 T.n_range T.n_reversed (se_callB c_len (sa_cons (se_var (i := 0)) sa_nil) T.n_len bt_len)) (sg_name (i := 2) (own := [2]) sc_staying.nd) (sss_one (ss_for ownsE rfl (si_range2 T.n_range (sa_cons (se_bin o_add (se_var (i := 2)) se_int) (sa_cons (se_callB c_len (sa_cons (se_var (i := 0)) sa_nil) T.n_len bt_len) sa_nil))) (sg_name (i := 3) (own := [3]) sc_staying.nd) (sss_one (ss_if (st_cmp o_gt (se_ix (hr.u (by decide)) (se_var (i := 0)) (se_var (i := 3))) (se_ix (hr.u (by decide)) (se_var (i := 0)) (se_var (i := 2)))) (sss_one (ss_put (hr.u (by decide)) (se_var (i := 1)) (se_var (i := 2)) (se_callB (c_max2 rfl) (sa_cons (se_ix (hr.u (by decide)) (se_var (i := 1)) (se_var (i := 2))) (sa_cons (se_bin o_add (se_ix (hr.u (by decide)) (se_var (i := 1)) (se_var (i := 3))) se_int) sa_nil)) T.n_max bt_max))) sss_nil)))))
      (sss_cons (ss_set (i := 4) sc_staying.nd (se_new sa_nil))
      (sss_cons (ss_set (i := 5) sc_staying.nd (se_if (st_truth (se_var (i := 1))) (se_callB (c_max rfl) (sa_cons (se_var (i := 1)) sa_nil) T.n_max bt_max) se_int))
      (sss_cons (ss_for ownsE rfl (si_range1 T.n_range (sa_cons (se_callB c_len (sa_cons (se_var (i := 0)) sa_nil) T.n_len bt_len) sa_nil)) (sg_name (i := 2) (own := [2]) sc_staying.nd) (sss_one (ss_if (st_w (sw_and (st_cmp (o_eq (hr.u (by decide))) (se_ix (hr.u (by decide)) (se_var (i := 1)) (se_var (i := 2))) (se_var (i := 5))) (sw_and1 (st_w (sw_or (st_not (st_truth (se_var (i := 4)))) (sw_or1 (st_cmp o_gt (se_ix (hr.u (by decide)) (se_var (i := 0)) (se_var (i := 2))) (se_ix (hr.u (by decide)) (se_var (i := 0)) (se_ix (hr.u (by decide)) (se_var (i := 4)) (se_neg se_int)))))))))) (sss_cons (ss_expr (se_bm PySem.F.plainAttrs_list PySem.F.slot_list_append PySem.F.type_list_append m_append (se_var (i := 4)) (sa_cons (se_var (i := 2)) sa_nil)))
      (sss_one (ss_aug (i := 5) sc_staying.nd i_sub se_int))) sss_nil)))
      (sss_one (ss_ret (se_var (i := 4)))))))))
theorem ok_law (T : Txt K mg) : FnG P w K mg base 3 T.a_law T.fd_law ["_law_script"] (spF (gOf K) F_law) :=
  fngI T.F_law sc_law fun cdv A outer s H E hr hgd =>
    (sss_cons (ss_set (i := 1) sc_law.nd (se_new (sa_cons (se_call (ok__law_digits T) (hr.mono (by decide)) hgd T.b__law_digits takesE T.g__law_digits T.k__law_digits (sa_cons (se_var (i := 0)) (sa_cons se_int (sa_cons se_int sa_nil)))) (sa_cons se_int sa_nil))))
      (sss_cons (ss_for ownsE rfl (si_range1 T.n_range (sa_cons se_int sa_nil)) (sg_name (i := 2) (own := [2]) sc_law.nd) (sss_cons (ss_set (i := 3) sc_law.nd (se_new sa_nil))
      (sss_cons (ss_for ownsE rfl (si_range1 T.n_range (sa_cons (se_call (ok__law_draw T) (hr.mono (by decide)) hgd T.b__law_draw takesE T.g__law_draw T.k__law_draw (sa_cons (se_var (i := 1)) (sa_cons se_int sa_nil))) sa_nil)) (sg_name (i := 4) (own := [4]) sc_law.nd) (sss_cons (ss_set (i := 5) sc_law.nd (se_bin o_add (se_call (ok__law_draw T) (hr.mono (by decide)) hgd T.b__law_draw takesE T.g__law_draw T.k__law_draw (sa_cons (se_var (i := 1)) (sa_cons se_int sa_nil))) (se_bin o_mul (se_bin o_mul se_int (se_callTy c_int (sa_cons (se_var (i := 4)) sa_nil) T.n_int bt_int)) (se_call (ok__law_draw T) (hr.mono (by decide)) hgd T.b__law_draw takesE T.g__law_draw T.k__law_draw (sa_cons (se_var (i := 1)) (sa_cons se_int sa_nil))))))
      (sss_one (ss_if (st_cmp o_niL (se_var (i := 5)) (se_var (i := 3))) (sss_one (ss_expr (se_bm PySem.F.plainAttrs_list PySem.F.slot_list_append PySem.F.type_list_append m_append (se_var (i := 3)) (sa_cons (se_var (i := 5)) sa_nil)))) sss_nil))))
      (sss_cons (ss_set (i := 6) sc_law.nd (se_call (ok__law_rows_up T) (hr.mono (by decide)) hgd T.b__law_rows_up takesE T.g__law_rows_up T.k__law_rows_up (sa_cons (se_var (i := 3)) sa_nil)))
      (sss_cons (ss_set (i := 7) sc_law.nd (se_callB (c_max rfl) (sa_cons (se_lc (own := [(("_law_row" : Str), 9)]) (Z0 := fun _ _ _ _ => False) rfl sc_law.nd (si_seq (se_var (i := 6))) (blkOk_by (by show blkC ["_law_script", "_law_box", "_law_turn", "_law_places", "_law_k", "_law_place", "_law_rows", "_law_size", "_law_due", "_law_row"] (defScope st_law) _ [(("_law_row" : Str), 9)] = true; decide +kernel)) (fun _ _ _ _ _ => (sg_name (i := 9) (own := [9]) sc_law.nd)) (fun _ _ _ _ _ => sts_nil) (fun _ _ _ _ _ => (se_callB c_len (sa_cons (se_var (i := 9)) sa_nil) T.n_len bt_len))) sa_nil) T.n_max bt_max))
      (sss_cons (ss_set (i := 8) sc_law.nd (se_ix (hr.u (by decide)) (se_callB (c_sorted (hr.u (by decide))) (sa_cons (se_lc (own := [(("_law_row" : Str), 9)]) (Z0 := fun _ _ _ _ => False) rfl sc_law.nd (si_seq (se_var (i := 6))) (blkOk_by (by show blkC ["_law_script", "_law_box", "_law_turn", "_law_places", "_law_k", "_law_place", "_law_rows", "_law_size", "_law_due", "_law_row"] (defScope st_law) _ [(("_law_row" : Str), 9)] = true; decide +kernel)) (fun _ _ _ _ _ => (sg_name (i := 9) (own := [9]) sc_law.nd)) (fun _ _ _ _ _ => (sts_one (st_cmp (o_eq (hr.u (by decide))) (se_callB c_len (sa_cons (se_var (i := 9)) sa_nil) T.n_len bt_len) (se_var (i := 7))))) (fun _ _ _ _ _ => (se_var (i := 9)))) sa_nil) T.n_sorted bt_sorted) se_int))
      (sss_one (ss_if (st_not (st_val (se_call (ok__law_list_is T) (hr.mono (by decide)) hgd T.b__law_list_is takesE T.g__law_list_is T.k__law_list_is (sa_cons (se_call (ok_staying T) (hr.mono (by decide)) hgd T.b_staying takesE T.g_staying T.k_staying (sa_cons (se_callTy c_tuple (sa_cons (se_var (i := 3)) sa_nil) T.n_tuple bt_tuple) sa_nil)) (sa_cons (se_var (i := 8)) sa_nil))))) (sss_one (ss_ret se_bl)) sss_nil))))))))
      (sss_one (ss_ret se_bl))))
end
theorem all_mk {P : Program} {w : World} {K : PySem.W.Frag} {h : Heap} {mg : Str → Option Value} {fa : Addr} (X : K.In h) (G : h.Ns mainGlobals mg) (hfa : mg "law" = some (.ref fa))
    {a0 : Addr} {od0 an0 : Option Addr} {sl0 : Array (Option Value)} {oc0 kV0 dc0 pm0 cd0 ct0 : Value}
    (A0 : PySem.W.nsIn K mainGlobals "_law_cell" = some (some (.ref a0))) (l0 : K.lookup a0 = some ⟨oc0, od0, .func (PySem.W.fnOf "_law_cell" "_law_cell" (defArgs st__law_cell) (defBody st__law_cell) (defScope st__law_cell) .none kV0 dc0 pm0 an0 cd0 ct0), sl0⟩) (c0 : PySem.W.codeIn K cd0 "_law_cell" = true) (k0 : PySem.W.keepIn K (.ref a0) = true)
    {a1 : Addr} {od1 an1 : Option Addr} {sl1 : Array (Option Value)} {oc1 kV1 dc1 pm1 cd1 ct1 : Value}
    (A1 : PySem.W.nsIn K mainGlobals "_law_digits" = some (some (.ref a1))) (l1 : K.lookup a1 = some ⟨oc1, od1, .func (PySem.W.fnOf "_law_digits" "_law_digits" (defArgs st__law_digits) (defBody st__law_digits) (defScope st__law_digits) .none kV1 dc1 pm1 an1 cd1 ct1), sl1⟩) (c1 : PySem.W.codeIn K cd1 "_law_digits" = true) (k1 : PySem.W.keepIn K (.ref a1) = true)
    {a2 : Addr} {od2 an2 : Option Addr} {sl2 : Array (Option Value)} {oc2 kV2 dc2 pm2 cd2 ct2 : Value}
    (A2 : PySem.W.nsIn K mainGlobals "_law_rows_up" = some (some (.ref a2))) (l2 : K.lookup a2 = some ⟨oc2, od2, .func (PySem.W.fnOf "_law_rows_up" "_law_rows_up" (defArgs st__law_rows_up) (defBody st__law_rows_up) (defScope st__law_rows_up) .none kV2 dc2 pm2 an2 cd2 ct2), sl2⟩) (c2 : PySem.W.codeIn K cd2 "_law_rows_up" = true) (k2 : PySem.W.keepIn K (.ref a2) = true)
    {a3 : Addr} {od3 an3 : Option Addr} {sl3 : Array (Option Value)} {oc3 kV3 dc3 pm3 cd3 ct3 : Value}
    (A3 : PySem.W.nsIn K mainGlobals "_law_draw" = some (some (.ref a3))) (l3 : K.lookup a3 = some ⟨oc3, od3, .func (PySem.W.fnOf "_law_draw" "_law_draw" (defArgs st__law_draw) (defBody st__law_draw) (defScope st__law_draw) .none kV3 dc3 pm3 an3 cd3 ct3), sl3⟩) (c3 : PySem.W.codeIn K cd3 "_law_draw" = true) (k3 : PySem.W.keepIn K (.ref a3) = true)
    {a4 : Addr} {od4 an4 : Option Addr} {sl4 : Array (Option Value)} {oc4 kV4 dc4 pm4 cd4 ct4 : Value}
    (A4 : PySem.W.nsIn K mainGlobals "_law_list_is" = some (some (.ref a4))) (l4 : K.lookup a4 = some ⟨oc4, od4, .func (PySem.W.fnOf "_law_list_is" "_law_list_is" (defArgs st__law_list_is) (defBody st__law_list_is) (defScope st__law_list_is) .none kV4 dc4 pm4 an4 cd4 ct4), sl4⟩) (c4 : PySem.W.codeIn K cd4 "_law_list_is" = true) (k4 : PySem.W.keepIn K (.ref a4) = true)
    {a5 : Addr} {od5 an5 : Option Addr} {sl5 : Array (Option Value)} {oc5 kV5 dc5 pm5 cd5 ct5 : Value}
    (A5 : PySem.W.nsIn K mainGlobals "staying" = some (some (.ref a5))) (l5 : K.lookup a5 = some ⟨oc5, od5, .func (PySem.W.fnOf "staying" "staying" (defArgs st_staying) (defBody st_staying) (defScope st_staying) .none kV5 dc5 pm5 an5 cd5 ct5), sl5⟩) (c5 : PySem.W.codeIn K cd5 "staying" = true) (k5 : PySem.W.keepIn K (.ref a5) = true)
    {a6 : Addr} {od6 an6 : Option Addr} {sl6 : Array (Option Value)} {oc6 kV6 dc6 pm6 cd6 ct6 : Value}
    (A6 : PySem.W.nsIn K mainGlobals "law" = some (some (.ref a6))) (l6 : K.lookup a6 = some ⟨oc6, od6, .func (PySem.W.fnOf "law" "law" (defArgs st_law) (defBody st_law) (defScope st_law) .none kV6 dc6 pm6 an6 cd6 ct6), sl6⟩) (c6 : PySem.W.codeIn K cd6 "law" = true) (k6 : PySem.W.keepIn K (.ref a6) = true)
    (z_int : PySem.W.nsIn K mainGlobals "int" = some none)
    (z_isinstance : PySem.W.nsIn K mainGlobals "isinstance" = some none)
    (z_len : PySem.W.nsIn K mainGlobals "len" = some none)
    (z_list : PySem.W.nsIn K mainGlobals "list" = some none)
    (z_max : PySem.W.nsIn K mainGlobals "max" = some none)
    (z_range : PySem.W.nsIn K mainGlobals "range" = some none)
    (z_repr : PySem.W.nsIn K mainGlobals "repr" = some none)
    (z_reversed : PySem.W.nsIn K mainGlobals "reversed" = some none)
    (z_sorted : PySem.W.nsIn K mainGlobals "sorted" = some none)
    (z_tuple : PySem.W.nsIn K mainGlobals "tuple" = some none) :
    ∃ (fd : FuncData) (g : Xs.G), g.K = K ∧ (∀ (s : Shared) (u : Value), BindsTo s fd ⟨[u], []⟩ [("_law_script", u)]) ∧ ∀ base : Heap, K.In base → base.Ns mainGlobals mg → FnG P w K mg base 3 fa fd ["_law_script"] (spF g F_law) := by
  have e := hfa.symm.trans (PySem.W.mg_of X G A6)
  cases e
  let T : Txt K mg := {
    a__law_cell := a0, fd__law_cell := _, g__law_cell := PySem.W.mg_of X G A0, k__law_cell := k0, F__law_cell := fun_mk (st := st__law_cell) l0 c0 k0, b__law_cell := (fun_mk (st := st__law_cell) l0 c0 k0).binds (ps := ["_law_script", "_law_k"]) fun _ _ _ _ _ _ us hl => match us, hl with | [_, _], _ => rfl,
    a__law_digits := a1, fd__law_digits := _, g__law_digits := PySem.W.mg_of X G A1, k__law_digits := k1, F__law_digits := fun_mk (st := st__law_digits) l1 c1 k1, b__law_digits := (fun_mk (st := st__law_digits) l1 c1 k1).binds (ps := ["_law_script", "_law_first", "_law_last"]) fun _ _ _ _ _ _ us hl => match us, hl with | [_, _, _], _ => rfl,
    a__law_rows_up := a2, fd__law_rows_up := _, g__law_rows_up := PySem.W.mg_of X G A2, k__law_rows_up := k2, F__law_rows_up := fun_mk (st := st__law_rows_up) l2 c2 k2, b__law_rows_up := (fun_mk (st := st__law_rows_up) l2 c2 k2).binds (ps := ["_law_places"]) fun _ _ _ _ _ _ us hl => match us, hl with | [_], _ => rfl,
    a__law_draw := a3, fd__law_draw := _, g__law_draw := PySem.W.mg_of X G A3, k__law_draw := k3, F__law_draw := fun_mk (st := st__law_draw) l3 c3 k3, b__law_draw := (fun_mk (st := st__law_draw) l3 c3 k3).binds (ps := ["_law_box", "_law_many"]) fun _ _ _ _ _ _ us hl => match us, hl with | [_, _], _ => rfl,
    a__law_list_is := a4, fd__law_list_is := _, g__law_list_is := PySem.W.mg_of X G A4, k__law_list_is := k4, F__law_list_is := fun_mk (st := st__law_list_is) l4 c4 k4, b__law_list_is := (fun_mk (st := st__law_list_is) l4 c4 k4).binds (ps := ["_law_actual", "_law_due"]) fun _ _ _ _ _ _ us hl => match us, hl with | [_, _], _ => rfl,
    a_staying := a5, fd_staying := _, g_staying := PySem.W.mg_of X G A5, k_staying := k5, F_staying := fun_mk (st := st_staying) l5 c5 k5, b_staying := (fun_mk (st := st_staying) l5 c5 k5).binds (ps := ["places"]) fun _ _ _ _ _ _ us hl => match us, hl with | [_], _ => rfl,
    a_law := fa, fd_law := _, g_law := PySem.W.mg_of X G A6, k_law := k6, F_law := fun_mk (st := st_law) l6 c6 k6, b_law := (fun_mk (st := st_law) l6 c6 k6).binds (ps := ["_law_script"]) fun _ _ _ _ _ _ us hl => match us, hl with | [_], _ => rfl,
    n_int := PySem.W.mg_none_of X G z_int,
    n_isinstance := PySem.W.mg_none_of X G z_isinstance,
    n_len := PySem.W.mg_none_of X G z_len,
    n_list := PySem.W.mg_none_of X G z_list,
    n_max := PySem.W.mg_none_of X G z_max,
    n_range := PySem.W.mg_none_of X G z_range,
    n_repr := PySem.W.mg_none_of X G z_repr,
    n_reversed := PySem.W.mg_none_of X G z_reversed,
    n_sorted := PySem.W.mg_none_of X G z_sorted,
    n_tuple := PySem.W.mg_none_of X G z_tuple }
  exact ⟨T.fd_law, gOf K, rfl, fun s v => .of_eq rfl, fun base _ _ => ok_law T⟩
end
end Lk12

namespace Lk12
noncomputable section
open PySem L2 Xs
def inn (xs : List Int) (t : Nat) (s : List Int) (b : Nat) : List Int := if gi xs t < gi xs b then s.set t (if gi s t < gi s b + 1 then gi s b + 1 else gi s t) else s
def rowk (xs : List Int) (t : Nat) (i : Nat) (s : List Int) : List Int := itr (fun j s => inn xs t s (t + 1 + j)) i s
theorem inn_len {xs t s b} : (inn xs t s b).length = s.length := by unfold inn; split <;> simp
theorem rowk_len {xs t i s} : (rowk xs t i s).length = s.length := itr_inv (fun z : List Int => z.length = s.length) rfl fun i a _ h => by rw [inn_len]; exact h
def szs (xs : List Int) : List Int := itr (fun j s => rowk xs (xs.length - 1 - j) j s) xs.length (List.replicate xs.length 1)
def okk (xs : List Int) (f : List Int) (k : Nat) : Bool := match f.getLast? with
  | none => true
  | some z => decide (gi xs z.toNat < gi xs k)
def stp (xs sz : List Int) (k : Nat) (p : List Int × Int) : List Int × Int := if gi sz k = p.2 ∧ okk xs p.1 k = true then (p.1 ++ [(k : Int)], p.2 - 1) else p
abbrev tI (xs : List Int) : W := .d (.tup (xs.map .int))
abbrev lI (xs : List Int) : W := .d (.lst (xs.map .int))
theorem staying_in {xs : List Int} {t m : Nat} {s : List Int} {x y z : Option W} (hs : s.length = xs.length) (hm : t + 1 + m = xs.length) :
    ∃ x', forLoop (nL (upInts (t + 1 : Nat) m)) (gN 3) l2_staying (m + 1) 0 [some (tI xs), some (.l 0), some (.d (.int t)), x, y, z] ⟨[.lst (wI s)], true⟩ = .nx [some (tI xs), some (.l 0), some (.d (.int t)), x', y, z] ⟨[.lst (wI (rowk xs t m s))], true⟩ := by
  obtain ⟨r', h', ⟨x', rfl, rfl⟩, e⟩ := for_run (tg := gN 3) (ws := upInts (t + 1 : Nat) m) (r := [some (tI xs), some (.l 0), some (.d (.int t)), x, y, z]) (h := ⟨[.lst (wI s)], true⟩) (body := l2_staying)
    (fun i r h => ∃ x', r = [some (tI xs), some (.l 0), some (.d (.int t)), x', y, z] ∧ h = ⟨[.lst (wI (rowk xs t i s))], true⟩) ⟨x, rfl, rfl⟩ (by
    rintro i w r h hw ⟨x', rfl, rfl⟩
    obtain ⟨hi, rfl⟩ := upInts_get hw
    have h1 : ((t + 1 : Nat) : Int) + i = ((t + 1 + i : Nat) : Int) := by omega
    rw [h1]
    obtain ⟨b, hb⟩ : ∃ b, b = t + 1 + i := ⟨_, rfl⟩
    have hr : rowk xs t (i + 1) s = inn xs t (rowk xs t i s) b := by rw [hb]; rfl
    rw [hr, ← hb]
    have hl : (rowk xs t i s).length = xs.length := rowk_len.trans hs
    generalize rowk xs t i s = s' at hl
    have a1 : b < xs.length := by omega
    have a2 : t < xs.length := by omega
    have a3 : t < s'.length := by omega
    have a4 : b < s'.length := by omega
    refine ⟨_, [some (tI xs), some (.l 0), some (.d (.int t)), some (.d (.int (b : Int))), y, z], ⟨[.lst (wI (inn xs t s' b))], true⟩, rfl, ?_, ⟨_, rfl, rfl⟩⟩
    by_cases hc : gi xs t < gi xs b
    · simp [l2_staying, a1, a2, a3, a4, hc, inn, ixN_nat]
    · simp [l2_staying, a1, a2, a3, a4, hc, inn])
  exact ⟨x', by simpa using e⟩
theorem staying_out {xs : List Int} {x y u z : Option W} (hn : xs.length ≤ 1000) :
    ∃ x' y', forLoop (nL (intsDown xs.length xs.length)) (gN 2) l3_staying (xs.length + 1) 0 [some (tI xs), some (.l 0), x, y, u, z] ⟨[.lst (wI (List.replicate xs.length 1))], true⟩ = .nx [some (tI xs), some (.l 0), x', y', u, z] ⟨[.lst (wI (szs xs))], true⟩ := by
  have len : ∀ i, (itr (fun j s => rowk xs (xs.length - 1 - j) j s) i (List.replicate xs.length 1)).length = xs.length := fun i => itr_inv (fun z : List Int => z.length = xs.length) (by simp) fun i a _ h => rowk_len.trans h
  obtain ⟨r', h', ⟨x', y', rfl, rfl⟩, e⟩ := for_run (tg := gN 2) (ws := intsDown xs.length xs.length) (r := [some (tI xs), some (.l 0), x, y, u, z]) (h := ⟨[.lst (wI (List.replicate xs.length 1))], true⟩) (body := l3_staying)
    (fun i r h => ∃ x' y', r = [some (tI xs), some (.l 0), x', y', u, z] ∧ h = ⟨[.lst (wI (itr (fun j s => rowk xs (xs.length - 1 - j) j s) i (List.replicate xs.length 1)))], true⟩) ⟨x, y, rfl, rfl⟩ (by
    rintro i w r h hw ⟨x', y', rfl, rfl⟩
    obtain ⟨hi, rfl⟩ := intsDown_get hw
    have h1 : ((xs.length : Nat) : Int) - 1 - i = ((xs.length - 1 - i : Nat) : Int) := by omega
    rw [h1]
    have hl := len i
    generalize hz : itr (fun j s => rowk xs (xs.length - 1 - j) j s) i (List.replicate xs.length 1) = s' at hl
    have hr : itr (fun j s => rowk xs (xs.length - 1 - j) j s) (i + 1) (List.replicate xs.length 1) = rowk xs (xs.length - 1 - i) i s' := by rw [← hz]; rfl
    rw [hr]
    obtain ⟨t, ht⟩ : ∃ t, t = xs.length - 1 - i := ⟨_, rfl⟩
    rw [← ht]
    obtain ⟨q, e⟩ := staying_in (t := t) (m := i) (x := y') (y := u) (z := z) hl (by omega)
    refine ⟨_, [some (tI xs), some (.l 0), some (.d (.int t)), q, u, z], ⟨[.lst (wI (rowk xs t i s'))], true⟩, rfl, ?_, ⟨_, _, rfl, rfl⟩⟩
    rw [← e]
    have h2 : ((xs.length : Nat) - ((t + 1 : Nat) : Int)).toNat = i := by omega
    unfold l3_staying
    have k := sFor_up2 (a := (xCons (xBin fAddI (xVar 2) (xC (.int 1))) (xCons (xApp (f1 fLen) (xCons (xVar 0) xNil)) xNil))) (tg := gN 3) (b := l2_staying) (r := [some (tI xs), some (.l 0), some (.d (.int t)), y', u, z]) (h := ⟨[.lst (wI s')], true⟩) (h1 := ⟨[.lst (wI s')], true⟩) (i := (t + 1 : Nat)) (j := (xs.length : Nat)) (by simp) (small_nat (by omega)) (small_nat (by omega))
    rw [h2] at k
    exact k)
  exact ⟨x', y', by simpa [szs] using e⟩
/-- what was found: indices -/
def Fnd (n : Nat) (f : List Int) : Prop := ∀ z ∈ f, ∃ k : Nat, k < n ∧ z = (k : Int)
def pk (xs sz : List Int) (i : Nat) (l0 : Int) : List Int × Int := itr (stp xs sz) i ([], l0)
theorem pk_inv {xs sz : List Int} {n i : Nat} {l0 : Int} (hi : i ≤ n) : Fnd n (pk xs sz i l0).1 ∧ (pk xs sz i l0).1.length ≤ i := by
  induction i with
  | zero => exact ⟨fun z hz => (nomatch hz), Nat.le_refl _⟩
  | succ i ih =>
    obtain ⟨h1, h2⟩ := ih (by omega)
    show Fnd n (stp xs sz i (pk xs sz i l0)).1 ∧ _
    have : (pk xs sz (i + 1) l0) = stp xs sz i (pk xs sz i l0) := rfl
    rw [this]
    unfold stp
    split
    · refine ⟨fun z hz => ?_, by simp; omega⟩
      rcases List.mem_append.mp hz with hz | hz
      · exact h1 z hz
      · exact ⟨i, by omega, by simpa using hz⟩
    · exact ⟨h1, by omega⟩
theorem staying_pick {xs sz : List Int} {l0 : Int} {x y : Option W} (hn : xs.length ≤ 1000) (hs : sz.length = xs.length) :
    ∃ r', forLoop (nL (upInts 0 xs.length)) (gN 2) l1_staying (xs.length + 1) 0 [some (tI xs), some (.l 0), x, y, some (.l 1), some (.d (.int l0))] ⟨[.lst (wI sz), .lst (wI [])], true⟩ = .nx r' ⟨[.lst (wI sz), .lst (wI (pk xs sz xs.length l0).1)], true⟩ ∧ r'[4]? = some (some (.l 1)) := by
  obtain ⟨r', h', ⟨x', rfl, rfl⟩, e⟩ := for_run (tg := gN 2) (ws := upInts 0 xs.length) (r := [some (tI xs), some (.l 0), x, y, some (.l 1), some (.d (.int l0))]) (h := ⟨[.lst (wI sz), .lst (wI [])], true⟩) (body := l1_staying)
    (fun i r h => ∃ x', r = [some (tI xs), some (.l 0), x', y, some (.l 1), some (.d (.int (pk xs sz i l0).2))] ∧ h = ⟨[.lst (wI sz), .lst (wI (pk xs sz i l0).1)], true⟩) ⟨x, rfl, rfl⟩ (by
    rintro i w r h hw ⟨x', rfl, rfl⟩
    obtain ⟨hi, rfl⟩ := upInts_get hw
    obtain ⟨hf, hl⟩ := pk_inv (xs := xs) (sz := sz) (l0 := l0) (n := xs.length) (i := i) (by omega)
    have hr : pk xs sz (i + 1) l0 = stp xs sz i (pk xs sz i l0) := rfl
    rw [hr]
    generalize pk xs sz i l0 = p at hf hl
    obtain ⟨f, l⟩ := p
    simp only [Int.zero_add] at *
    refine ⟨_, [some (tI xs), some (.l 0), some (.d (.int (i : Nat))), y, some (.l 1), some (.d (.int (stp xs sz i (f, l)).2))], ⟨[.lst (wI sz), .lst (wI (stp xs sz i (f, l)).1)], true⟩, rfl, ?_, ⟨_, rfl, rfl⟩⟩
    have a1 : i < xs.length := hi
    have a2 : i < sz.length := by omega
    have a3 : f.length < lim := lt_lim (by omega)
    rcases List.eq_nil_or_concat f with rfl | ⟨f', z, rfl⟩
    · by_cases hc : gi sz i = l
      · simp [l1_staying, a1, a2, hc, stp, okk, a3]
      · simp [l1_staying, a1, a2, hc, stp, okk]
    · obtain ⟨k, hk, rfl⟩ := hf z (by simp)
      simp only [List.concat_eq_append, List.length_append, List.length_cons, List.length_nil] at *
      by_cases hc : gi sz i = l
      · by_cases hd : gi xs k < gi xs i
        · have a4 : f'.length + 1 < lim := lt_lim (by omega)
          simp [l1_staying, a1, a2, hc, stp, okk, hk, hd, a4]
        · simp [l1_staying, a1, a2, hc, stp, okk, hk, hd]
      · simp [l1_staying, a1, a2, hc, stp, okk])
  exact ⟨_, by simpa using e, rfl⟩

theorem szs_len {xs : List Int} : (szs xs).length = xs.length := itr_inv (fun z : List Int => z.length = xs.length) (by simp) fun i a _ h => rowk_len.trans h
theorem maxI_pos {s : List Int} (h : ∀ z ∈ s, 1 ≤ z) (hs : s ≠ []) : maxI (0 :: s) = maxI s := by
  obtain ⟨n, r, rfl⟩ := List.exists_cons_of_ne_nil hs
  have h1 := h n (by simp)
  unfold maxI
  show r.foldl _ (if n > 0 then n else 0) = _
  rw [if_pos (by omega)]
def l0 (xs : List Int) : Int := if xs = [] then 0 else maxI (szs xs)
def stay (xs : List Int) : List Int := (pk xs (szs xs) xs.length (l0 xs)).1
theorem staying_eq {xs : List Int} {h : Sto} (hn : xs.length ≤ 1000) : F_staying [tI xs] h = .ok (lI (stay xs)) h := by
  obtain ⟨x1, y1, e1⟩ := staying_out (xs := xs) (x := none) (y := none) (u := none) (z := none) hn
  obtain ⟨r2, e2, e3⟩ := staying_pick (xs := xs) (sz := szs xs) (l0 := l0 xs) (x := x1) (y := y1) hn szs_len
  have a1 := sFor_down (a := xApp (f1 fLen) (xCons (xVar 0) xNil)) (tg := gN 2) (b := l3_staying) (r := [some (tI xs), some (.l 0), none, none, none, none]) (h := ⟨[.lst (wI (List.replicate xs.length 1))], true⟩) (h1 := ⟨[.lst (wI (List.replicate xs.length 1))], true⟩) (n := xs.length) (by simp) (by omega)
  have a2 := sFor_up1 (a := xCons (xApp (f1 fLen) (xCons (xVar 0) xNil)) xNil) (tg := gN 2) (b := l1_staying) (r := [some (tI xs), some (.l 0), x1, y1, some (.l 1), some (.d (.int (l0 xs)))]) (h := ⟨[.lst (wI (szs xs)), .lst (wI [])], true⟩) (h1 := ⟨[.lst (wI (szs xs)), .lst (wI [])], true⟩) (n := xs.length) (by simp) (by omega)
  rw [e1] at a1
  rw [e2] at a2
  have b1 : xs.length < 2 ^ 62 := by omega
  have b2 : repL [D.int 1] (xs.length : Int) = (List.replicate xs.length 1).map .int := by simp
  have c1 : sSet 1 (xBin fRepN (xApp mkLst (xCons (xC (.int 1)) xNil)) (xApp (f1 fLen) (xCons (xVar 0) xNil))) [some (tI xs), none, none, none, none, none] ⟨[], true⟩ = .nx [some (tI xs), some (.l 0), none, none, none, none] ⟨[.lst (wI (List.replicate xs.length 1))], true⟩ := by
    have b3 : repOk 1 (xs.length : Int) = true := repOk_nat (le_lim (by omega)) (by omega)
    simp [b3]
  have c2 : (sSet 5 (xIf (xTruth (xVar 1)) (xApp (f1 fMax) (xCons (xVar 1) xNil)) (xC (.int 0)))) [some (tI xs), some (.l 0), x1, y1, some (.l 1), none] ⟨[.lst (wI (szs xs)), .lst (wI [])], true⟩ = .nx [some (tI xs), some (.l 0), x1, y1, some (.l 1), some (.d (.int (l0 xs)))] ⟨[.lst (wI (szs xs)), .lst (wI [])], true⟩ := by
    have hz := szs_len (xs := xs)
    by_cases hx : xs = []
    · subst hx
      simp [szs, itr, l0]
    · have h1 : szs xs ≠ [] := fun e => hx (by rw [e] at hz; exact List.eq_nil_of_length_eq_zero hz.symm)
      have h2 : 0 < (szs xs).length := List.length_pos_iff.mpr h1
      simp [l0, hx, h1, h2]
  have c3 : (sSet 4 (xApp mkNew xNil)) [some (tI xs), some (.l 0), x1, y1, none, none] ⟨[.lst (wI (szs xs))], true⟩ = .nx [some (tI xs), some (.l 0), x1, y1, some (.l 1), none] ⟨[.lst (wI (szs xs)), .lst (wI [])], true⟩ := by
    simp [wI]
  refine fnI_go rfl rfl ?_
  show closeI h (b_staying [some (tI xs), none, none, none, none, none] ⟨[], true⟩) = _
  unfold b_staying
  rw [seq_nx c1, seq_nx a1, seq_nx c3, seq_nx c2, seq_nx a2]
  simp [e3, stay]

theorem inn_pos {xs s : List Int} {t b : Nat} (h : ∀ z ∈ s, 1 ≤ z) : ∀ z ∈ inn xs t s b, 1 ≤ z := by
  have g0 : ∀ k, 0 ≤ gi s k := fun k => by
    unfold gi
    by_cases hk : k < s.length
    · have := h s[k] (List.getElem_mem hk)
      simp [List.getD, hk]
      omega
    · simp [List.getD, hk]
  intro z hz
  unfold inn at hz
  split at hz
  · rcases List.mem_or_eq_of_mem_set hz with hz | hz
    · exact h z hz
    · have := g0 b
      rw [hz]
      split <;> omega
  · exact h z hz
theorem szs_pos {xs : List Int} : ∀ z ∈ szs xs, 1 ≤ z := itr_inv (fun s : List Int => ∀ z ∈ s, 1 ≤ z) (fun z hz => by rw [(List.mem_replicate.mp hz).2]; decide) fun j a _ h => itr_inv (fun s : List Int => ∀ z ∈ s, 1 ≤ z) h fun i a _ h => inn_pos h
theorem gi_mem {s : List Int} {k : Nat} (h : k < s.length) : gi s k ∈ s := by
  unfold gi
  simp [List.getD, h]

theorem is_eq {xs : List Int} {h : Sto} (hr : ∀ z ∈ xs, 0 ≤ z ∧ z < 1000) (hl : xs.length ≤ 1000) : F__law_list_is [lI xs, lI xs] h = .ok (.d (.bl true)) h := by
  refine fnI_go rfl rfl ?_
  show closeI h (b__law_list_is [some (lI xs), some (lI xs)] ⟨[], true⟩) = _
  have a1 : D.roks (xs.map .int) = true := by
    clear hl
    induction xs with
    | nil => rfl
    | cons z zs ih =>
      obtain ⟨h1, h2⟩ := hr z (by simp)
      simp only [List.map_cons, D.roks, D.rok, Bool.and_eq_true, decide_eq_true_eq]
      refine ⟨?_, ih fun y hy => hr y (by simp [hy])⟩
      have : z.natAbs < 1000 := by omega
      have h3 : z.natAbs.log2 ≤ z.natAbs := Nat.log2_le_self _
      omega
  have a2 : D.depths (xs.map .int) ≤ 0 := by
    clear hl hr a1
    induction xs with
    | nil => simp
    | cons z zs ih => simpa using ih
  have a3 : D.costs (xs.map .int) ≤ 1923 * xs.length := by
    clear hl hr a1 a2
    induction xs with
    | nil => simp
    | cons z zs ih => simp at ih ⊢; omega
  have a4 : D.costs (xs.map .int) + 3 ≤ lim := le_lim (by omega)
  have a5 : D.depths (xs.map .int) = 0 := by omega
  simp [b__law_list_is, a1, a4, a5]

theorem stay_ok {xs : List Int} (hl : xs.length ≤ 1000) : (∀ z ∈ stay xs, 0 ≤ z ∧ z < 1000) ∧ (stay xs).length ≤ 1000 := by
  obtain ⟨h1, h2⟩ := pk_inv (xs := xs) (sz := szs xs) (l0 := l0 xs) (n := xs.length) (i := xs.length) (Nat.le_refl _)
  refine ⟨fun z hz => ?_, Nat.le_trans h2 hl⟩
  obtain ⟨k, hk, rfl⟩ := h1 z hz
  omega

/-! ### what the table of sizes says -/
theorem gi_set {s : List Int} {t b : Nat} {v : Int} (h : t < s.length) : gi (s.set t v) b = if t = b then v else gi s b := by
  unfold gi
  by_cases e : t = b
  · subst e
    simp [List.getD, h]
  · simp [List.getD, List.getElem?_set_ne e, e]
theorem rowk_ne {xs s : List Int} {t i b : Nat} (ht : t < s.length) (hb : b ≠ t) : gi (rowk xs t i s) b = gi s b := by
  induction i with
  | zero => rfl
  | succ i ih =>
    show gi (inn xs t (rowk xs t i s) (t + 1 + i)) b = _
    rw [← ih]
    unfold inn
    split
    · rw [gi_set (by rw [rowk_len]; exact ht), if_neg (fun z => hb z.symm)]
    · rfl
theorem rowk_at {xs s : List Int} {t i : Nat} (ht : t < s.length) (h1 : gi s t = 1) :
    1 ≤ gi (rowk xs t i s) t ∧ (∀ j, j < i → gi xs t < gi xs (t + 1 + j) → gi s (t + 1 + j) + 1 ≤ gi (rowk xs t i s) t) ∧ (gi (rowk xs t i s) t = 1 ∨ ∃ j, j < i ∧ gi xs t < gi xs (t + 1 + j) ∧ gi (rowk xs t i s) t = gi s (t + 1 + j) + 1) := by
  induction i with
  | zero => exact ⟨by show 1 ≤ gi s t; omega, fun j hj => absurd hj (Nat.not_lt_zero j), .inl h1⟩
  | succ i ih =>
    obtain ⟨a1, a2, a3⟩ := ih
    have e : rowk xs t (i + 1) s = inn xs t (rowk xs t i s) (t + 1 + i) := rfl
    have hb : gi (rowk xs t i s) (t + 1 + i) = gi s (t + 1 + i) := rowk_ne ht (by omega)
    by_cases hc : gi xs t < gi xs (t + 1 + i)
    · have v : gi (rowk xs t (i + 1) s) t = if gi (rowk xs t i s) t < gi s (t + 1 + i) + 1 then gi s (t + 1 + i) + 1 else gi (rowk xs t i s) t := by
        rw [e]
        unfold inn
        rw [if_pos hc, gi_set (by rw [rowk_len]; exact ht), if_pos rfl, hb]
      rw [v]
      by_cases hd : gi (rowk xs t i s) t < gi s (t + 1 + i) + 1
      · rw [if_pos hd]
        refine ⟨by omega, fun j hj hx => ?_, .inr ⟨i, Nat.lt_succ_self i, hc, rfl⟩⟩
        by_cases hji : j = i
        · subst hji; omega
        · have := a2 j (by omega) hx
          omega
      · rw [if_neg hd]
        refine ⟨a1, fun j hj hx => ?_, ?_⟩
        · by_cases hji : j = i
          · subst hji; omega
          · exact a2 j (by omega) hx
        · rcases a3 with a3 | ⟨j, h1, h2, h3⟩
          · exact .inl a3
          · exact .inr ⟨j, by omega, h2, h3⟩
    · have v : gi (rowk xs t (i + 1) s) t = gi (rowk xs t i s) t := by
        rw [e]
        unfold inn
        rw [if_neg hc]
      rw [v]
      refine ⟨a1, fun j hj hx => ?_, ?_⟩
      · by_cases hji : j = i
        · subst hji; exact absurd hx hc
        · exact a2 j (by omega) hx
      · rcases a3 with a3 | ⟨j, h1, h2, h3⟩
        · exact .inl a3
        · exact .inr ⟨j, by omega, h2, h3⟩
/-- the sizes: of the longest row from each index on -/
structure Sz (xs : List Int) (L : Nat → Int) (lo : Nat) : Prop where
  pos : ∀ t, lo ≤ t → t < xs.length → 1 ≤ L t
  up : ∀ t b, lo ≤ t → t < b → b < xs.length → gi xs t < gi xs b → L b + 1 ≤ L t
  dn : ∀ t, lo ≤ t → t < xs.length → L t = 1 ∨ ∃ b, t < b ∧ b < xs.length ∧ gi xs t < gi xs b ∧ L t = L b + 1
theorem szs_go {xs : List Int} {j : Nat} (hj : j ≤ xs.length) :
    Sz xs (gi (itr (fun j s => rowk xs (xs.length - 1 - j) j s) j (List.replicate xs.length 1))) (xs.length - j) ∧ (∀ t, t < xs.length - j → gi (itr (fun j s => rowk xs (xs.length - 1 - j) j s) j (List.replicate xs.length 1)) t = 1) ∧
      (itr (fun j s => rowk xs (xs.length - 1 - j) j s) j (List.replicate xs.length 1)).length = xs.length := by
  induction j with
  | zero =>
    refine ⟨⟨fun t a b => by omega, fun t b a c d => by omega, fun t a b => by omega⟩, fun t ht => ?_, by simp [itr]⟩
    simp only [itr]
    unfold gi
    simp [List.getD]
    rw [List.getElem?_replicate]
    rw [if_pos (by omega)]
    rfl
  | succ j ih =>
    obtain ⟨a1, a2, a3⟩ := ih (by omega)
    generalize hs : itr (fun j s => rowk xs (xs.length - 1 - j) j s) j (List.replicate xs.length 1) = s at a1 a2 a3
    have e : itr (fun j s => rowk xs (xs.length - 1 - j) j s) (j + 1) (List.replicate xs.length 1) = rowk xs (xs.length - 1 - j) j s := by rw [← hs]; rfl
    rw [e]
    obtain ⟨t0, ht0⟩ : ∃ t0, t0 = xs.length - 1 - j := ⟨_, rfl⟩
    rw [← ht0]
    have hlo : xs.length - (j + 1) = t0 := by omega
    rw [hlo]
    have hl0 : t0 < s.length := by omega
    obtain ⟨b1, b2, b3⟩ := rowk_at (xs := xs) (i := j) hl0 (a2 t0 (by omega))
    have ne : ∀ b, b ≠ t0 → gi (rowk xs t0 j s) b = gi s b := fun b hb => rowk_ne hl0 hb
    refine ⟨⟨fun t h1 h2 => ?_, fun t b h1 h2 h3 h4 => ?_, fun t h1 h2 => ?_⟩, fun t ht => ?_, by rw [rowk_len]; exact a3⟩
    · by_cases z : t = t0
      · rw [z]; exact b1
      · rw [ne t z]; exact a1.pos t (by omega) h2
    · have nb : b ≠ t0 := by omega
      rw [ne b nb]
      by_cases z : t = t0
      · subst z
        have := b2 (b - (t + 1)) (by omega) (by rw [show t + 1 + (b - (t + 1)) = b by omega]; exact h4)
        rw [show t + 1 + (b - (t + 1)) = b by omega] at this
        exact this
      · rw [ne t z]
        exact a1.up t b (by omega) h2 h3 h4
    · by_cases z : t = t0
      · subst z
        rcases b3 with b3 | ⟨k, k1, k2, k3⟩
        · exact .inl b3
        · exact .inr ⟨t + 1 + k, by omega, by omega, k2, by rw [ne (t + 1 + k) (by omega)]; exact k3⟩
      · rw [ne t z]
        rcases a1.dn t (by omega) h2 with q | ⟨b, c1, c2, c3, c4⟩
        · exact .inl q
        · exact .inr ⟨b, c1, c2, c3, by rw [ne b (by omega)]; exact c4⟩
    · rw [ne t (by omega)]
      exact a2 t (by omega)
theorem szs_sz (xs : List Int) : Sz xs (gi (szs xs)) 0 := by
  have := (szs_go (xs := xs) (j := xs.length) (Nat.le_refl _)).1
  rw [Nat.sub_self] at this
  exact this
/-! ### rows that ascend -/
def Up (xs : List Int) (row : List Nat) : Prop := row.Pairwise (fun a b => a < b ∧ gi xs a < gi xs b) ∧ ∀ a ∈ row, a < xs.length
theorem Up.tail {xs : List Int} {a : Nat} {row : List Nat} (h : Up xs (a :: row)) : Up xs row := ⟨(List.pairwise_cons.mp h.1).2, fun b hb => h.2 b (by simp [hb])⟩
theorem Up.right {xs : List Int} {a b : List Nat} (h : Up xs (a ++ b)) : Up xs b := ⟨(List.pairwise_append.mp h.1).2.1, fun c hc => h.2 c (by simp [hc])⟩
theorem up_le {xs : List Int} {t : Nat} {row : List Nat} (h : Up xs (t :: row)) : (row.length : Int) + 1 ≤ gi (szs xs) t := by
  have S := szs_sz xs
  induction row generalizing t with
  | nil =>
    have := S.pos t (Nat.zero_le _) (h.2 t (by simp))
    simpa using this
  | cons b row ih =>
    have h1 := ih h.tail
    have h2 := (List.pairwise_cons.mp h.1).1 b (by simp)
    have h3 := S.up t b (Nat.zero_le _) h2.1 (h.2 b (by simp)) h2.2
    simp only [List.length_cons]
    omega
theorem up_top {xs : List Int} {m : Int} (hm : ∀ t, t < xs.length → gi (szs xs) t ≤ m) : ∀ (n : Nat) (q1 : List Nat) (k : Nat) (q2 : List Nat), q1.length = n → Up xs (q1 ++ k :: q2) → gi (szs xs) k + q1.length ≤ m := by
  have S := szs_sz xs
  intro n
  induction n with
  | zero =>
    intro q1 k q2 hn h
    have : q1 = [] := List.eq_nil_of_length_eq_zero hn
    subst this
    have := hm k (h.2 k (by simp))
    simpa using this
  | succ n ih =>
    intro q1 k q2 hn h
    rcases List.eq_nil_or_concat q1 with rfl | ⟨q, p, rfl⟩
    · simp at hn
    · simp only [List.concat_eq_append, List.append_assoc, List.singleton_append, List.length_append, List.length_cons, List.length_nil] at *
      have h1 := ih q p (k :: q2) (by omega) h
      have h2 := (List.pairwise_cons.mp h.right.1).1 k (by simp)
      have h3 := S.up p k (Nat.zero_le _) h2.1 (h.2 k (by simp)) h2.2
      omega
theorem up_eq {xs : List Int} {m : Nat} (hm : ∀ t, t < xs.length → gi (szs xs) t ≤ m) {q1 q2 : List Nat} {k : Nat} (h : Up xs (q1 ++ k :: q2)) (hl : (q1 ++ k :: q2).length = m) : gi (szs xs) k = m - q1.length := by
  have h1 := up_top hm _ q1 k q2 rfl h
  have h2 := up_le h.right
  simp only [List.length_append, List.length_cons] at hl
  omega
/-! ### the row that is picked -/
abbrev castN (r : List Nat) : List Int := r.map fun k : Nat => (k : Int)
structure Gd (xs : List Int) (m : Nat) (i : Nat) (l : Int) (r : List Nat) : Prop where
  up : Up xs r
  lt : ∀ a ∈ r, a < i
  len : l = (m : Int) - r.length
  last : ∀ r' k, r = r' ++ [k] → gi (szs xs) k = l + 1
  first : ∀ r1 k r2, r = r1 ++ k :: r2 → ∀ k', k' < xs.length → (∀ p r0, r1 = r0 ++ [p] → p < k' ∧ gi xs p < gi xs k') → gi (szs xs) k' = (m : Int) - r1.length → k ≤ k'
  non : ∀ k', k' < i → (∀ p r0, r = r0 ++ [p] → p < k' ∧ gi xs p < gi xs k') → gi (szs xs) k' = l → False
theorem okk_iff {xs : List Int} {r : List Nat} {i : Nat} : okk xs (castN r) i = true ↔ ∀ p r0, r = r0 ++ [p] → gi xs p < gi xs i := by
  rcases List.eq_nil_or_concat r with rfl | ⟨r0, p, rfl⟩
  · simp [okk]
  · simp only [List.concat_eq_append, okk, castN, List.map_append, List.map_cons, List.map_nil, List.getLast?_append, List.getLast?_singleton, Option.some_or, Int.toNat_natCast, decide_eq_true_eq]
    constructor
    · intro h p' r0' e
      have := List.append_inj' e rfl
      simp at this
      rw [← this.2]
      exact h
    · intro h
      exact h p r0 rfl
theorem gd_go {xs : List Int} {m : Nat} (hpos : ∀ z ∈ szs xs, 1 ≤ z) {i : Nat} (hi : i ≤ xs.length) : ∃ r, (pk xs (szs xs) i m).1 = castN r ∧ Gd xs m i (pk xs (szs xs) i m).2 r := by
  induction i with
  | zero =>
    refine ⟨[], rfl, ⟨⟨List.Pairwise.nil, fun a ha => nomatch ha⟩, fun a ha => (nomatch ha), by show (m : Int) = m - 0; omega, fun r' k e => ?_, fun r1 k r2 e => ?_, fun k' h => absurd h (Nat.not_lt_zero _)⟩⟩
    · have := congrArg List.length e
      simp at this
    · have := congrArg List.length e
      simp at this
  | succ i ih =>
    obtain ⟨r, ef, G⟩ := ih (by omega)
    have e : pk xs (szs xs) (i + 1) m = stp xs (szs xs) i (pk xs (szs xs) i m) := rfl
    rw [e]
    generalize pk xs (szs xs) i m = p at ef G
    obtain ⟨f, l⟩ := p
    simp only at ef G
    subst ef
    by_cases hc : gi (szs xs) i = l ∧ okk xs (castN r) i = true
    · have es : stp xs (szs xs) i (castN r, l) = (castN (r ++ [i]), l - 1) := by
        unfold stp
        rw [if_pos hc]
        simp [castN]
      rw [es]
      have hx := okk_iff.mp hc.2
      have key : ∀ p r0, r = r0 ++ [p] → p < i ∧ gi xs p < gi xs i := fun p r0 e => ⟨G.lt p (by rw [e]; simp), hx p r0 e⟩
      refine ⟨r ++ [i], rfl, ⟨⟨?_, fun a ha => ?_⟩, fun a ha => ?_, ?_, fun r' k e => ?_, fun r1 k r2 e k' h1 h2 h3 => ?_, fun k' h1 h2 h3 => ?_⟩⟩
      · rw [List.pairwise_append]
        refine ⟨G.up.1, List.pairwise_singleton _ _, fun a ha b hb => ?_⟩
        have hb : b = i := by simpa using hb
        subst hb
        refine ⟨G.lt a ha, ?_⟩
        rcases List.eq_nil_or_concat r with rfl | ⟨r0, p, rfl⟩
        · cases ha
        · simp only [List.concat_eq_append] at *
          have k1 := (key p r0 rfl).2
          rcases List.mem_append.mp ha with ha | ha
          · have := ((List.pairwise_append.mp G.up.1).2.2 a ha p (by simp)).2
            omega
          · have : a = p := by simpa using ha
            rw [this]; exact k1
      · rcases List.mem_append.mp ha with ha | ha
        · exact G.up.2 a ha
        · have : a = i := by simpa using ha
          omega
      · rcases List.mem_append.mp ha with ha | ha
        · have := G.lt a ha; omega
        · have : a = i := by simpa using ha
          omega
      · have := G.len
        simp
        omega
      · have := List.append_inj' e rfl
        simp at this
        rw [← this.2]
        have := hc.1
        show gi (szs xs) i = l - 1 + 1
        omega
      · rcases List.eq_nil_or_concat r2 with rfl | ⟨r3, z, rfl⟩
        · have e' := List.append_inj' e rfl
          simp at e'
          obtain ⟨e1, e2⟩ := e'
          subst e1 e2
          by_cases hk : k' < i
          · exact (G.non k' hk h2 (by rw [h3, G.len])).elim
          · omega
        · have e' : r ++ [i] = (r1 ++ k :: r3) ++ [z] := by rw [e]; simp
          have e'' := List.append_inj' e' rfl
          exact G.first r1 k r3 e''.1 k' h1 h2 h3
      · have := (h2 i r rfl).1
        omega
    · have es : stp xs (szs xs) i (castN r, l) = (castN r, l) := by
        unfold stp
        rw [if_neg hc]
      rw [es]
      refine ⟨r, rfl, ⟨G.up, fun a ha => by have := G.lt a ha; omega, G.len, G.last, G.first, fun k' h1 h2 h3 => ?_⟩⟩
      by_cases hk : k' < i
      · exact G.non k' hk h2 h3
      · have : k' = i := by omega
        subst this
        exact hc ⟨h3, okk_iff.mpr fun p r0 e => (h2 p r0 e).2⟩
theorem l0_nat (xs : List Int) : ∃ m : Nat, (m : Int) = l0 xs ∧ (∀ t, t < xs.length → gi (szs xs) t ≤ m) ∧ (0 < xs.length → ∃ t, t < xs.length ∧ gi (szs xs) t = m) := by
  by_cases hx : xs = []
  · subst hx
    exact ⟨0, by simp [l0], fun t ht => by simp at ht, fun h => by simp at h⟩
  · have hz := szs_len (xs := xs)
    have hne : szs xs ≠ [] := fun e => hx (by rw [e] at hz; exact List.eq_nil_of_length_eq_zero hz.symm)
    obtain ⟨n, r, e⟩ := List.exists_cons_of_ne_nil hne
    have ms := maxI_spec n r
    rw [← e] at ms
    have h1 := szs_pos (xs := xs) _ ms.1
    refine ⟨(maxI (szs xs)).toNat, by simp [l0, hx]; omega, fun t ht => ?_, fun _ => ?_⟩
    · have := ms.2 _ (gi_mem (by omega : t < (szs xs).length))
      omega
    · obtain ⟨t, ht, e2⟩ := List.getElem_of_mem ms.1
      refine ⟨t, by omega, ?_⟩
      unfold gi
      simp [List.getD, ht]
      rw [e2]
      omega
/-- lexicographic: q is not ahead of r -/
def notAhead : List Nat → List Nat → Prop
  | k' :: q, k :: r => k < k' ∨ (k = k' ∧ notAhead q r)
  | [], r => r = []
  | _ :: _, [] => True
theorem stay_row (xs : List Int) : ∃ r, stay xs = castN r ∧ Up xs r ∧ (∀ q, Up xs q → q.length ≤ r.length) ∧ ∀ q, Up xs q → q.length = r.length → notAhead q r := by
  obtain ⟨m, hm, hm1, hm2⟩ := l0_nat xs
  obtain ⟨r, er, G⟩ := gd_go (xs := xs) (m := m) szs_pos (Nat.le_refl _)
  have S := szs_sz xs
  have es : stay xs = castN r := by
    unfold stay
    rw [← hm]
    exact er
  generalize (pk xs (szs xs) xs.length m).2 = l at G
  have hlen := G.len
  -- no row is longer than m
  have top : ∀ q, Up xs q → (q.length : Int) ≤ m := fun q hq => by
    cases q with
    | nil => simp
    | cons a q =>
      have h1 := up_le hq
      have h2 := hm1 a (hq.2 a (by simp))
      simp
      omega
  have full : r.length = m := by
    have h1 := top r G.up
    by_cases hl : l = 0
    · omega
    · exfalso
      rcases List.eq_nil_or_concat r with rfl | ⟨r0, p, rfl⟩
      · have hx : 0 < xs.length := by
          by_cases hx : 0 < xs.length
          · exact hx
          · have : xs = [] := List.eq_nil_of_length_eq_zero (by omega)
            subst this
            simp [l0] at hm
            simp at hlen
            omega
        obtain ⟨t, ht, et⟩ := hm2 hx
        exact G.non t ht (fun p r0 e => by have := congrArg List.length e; simp at this) (by rw [et, hlen]; simp)
      · simp only [List.concat_eq_append] at *
        have h2 := G.last r0 p rfl
        have hp : p < xs.length := G.up.2 p (by simp)
        rcases S.dn p (Nat.zero_le _) hp with h3 | ⟨b, b1, b2, b3, b4⟩
        · omega
        · refine G.non b b2 (fun p' r0' e => ?_) (by omega)
          have e' := List.append_inj' e rfl
          simp at e'
          rw [← e'.2]
          exact ⟨b1, b3⟩
  refine ⟨r, es, G.up, fun q hq => by have := top q hq; omega, fun q hq hql => ?_⟩
  have go : ∀ (rest r1 qrest : List Nat), r = r1 ++ rest → q = r1 ++ qrest → notAhead qrest rest := by
    intro rest
    induction rest with
    | nil =>
      intro r1 qrest h1 h2
      have := congrArg List.length h1
      have := congrArg List.length h2
      simp at *
      have : qrest = [] := List.eq_nil_of_length_eq_zero (by omega)
      subst this
      rfl
    | cons k rest ih =>
      intro r1 qrest h1 h2
      cases qrest with
      | nil =>
        have := congrArg List.length h1
        have := congrArg List.length h2
        simp at *
        omega
      | cons k' qrest =>
        have hk' := up_eq (xs := xs) (m := m) hm1 (h2 ▸ hq) (by rw [← h2, hql, full])
        have hle := G.first r1 k rest h1 k' (hq.2 k' (by rw [h2]; simp)) (fun p r0 e => by
          rw [h2, e, List.append_assoc] at hq
          have := (List.pairwise_cons.mp hq.right.1).1 k' (by simp)
          exact this) hk'
        by_cases hkk : k = k'
        · subst hkk
          exact .inr ⟨rfl, ih (r1 ++ [k]) qrest (by rw [h1]; simp) (by rw [h2]; simp)⟩
        · exact .inl (by omega)
  exact go r [] q rfl rfl
/-! ### all rows -/
def okR (xs : List Int) (k : Nat) (row : List Nat) : Bool := match row.getLast? with
  | none => true
  | some p => decide (gi xs p < gi xs k)
def rowsU (xs : List Int) (n : Nat) : List (List Nat) := itr (fun k R => R ++ (R.filter (okR xs k)).map (· ++ [k])) n [[]]
theorem okR_iff {xs : List Int} {r : List Nat} {i : Nat} : okR xs i r = true ↔ ∀ p r0, r = r0 ++ [p] → gi xs p < gi xs i := by
  rcases List.eq_nil_or_concat r with rfl | ⟨r0, p, rfl⟩
  · simp [okR]
  · simp only [List.concat_eq_append, okR, List.getLast?_append, List.getLast?_singleton, Option.some_or, decide_eq_true_eq]
    constructor
    · intro h p' r0' e
      have := List.append_inj' e rfl
      simp at this
      rw [← this.2]
      exact h
    · intro h
      exact h p r0 rfl
theorem rowsU_len {xs : List Int} {n : Nat} : (rowsU xs n).length ≤ 2 ^ n := by
  induction n with
  | zero => simp [rowsU, itr]
  | succ n ih =>
    show (rowsU xs n ++ ((rowsU xs n).filter (okR xs n)).map (· ++ [n])).length ≤ _
    have := List.length_filter_le (okR xs n) (rowsU xs n)
    rw [List.length_append, List.length_map, Nat.pow_succ]
    omega
theorem rowsU_mem {xs : List Int} {n : Nat} (hn : n ≤ xs.length) (q : List Nat) : q ∈ rowsU xs n ↔ Up xs q ∧ ∀ a ∈ q, a < n := by
  induction n generalizing q with
  | zero =>
    constructor
    · intro h
      have : q = [] := by simpa [rowsU, itr] using h
      subst this
      exact ⟨⟨List.Pairwise.nil, fun a ha => nomatch ha⟩, fun a ha => nomatch ha⟩
    · rintro ⟨_, h⟩
      cases q with
      | nil => simp [rowsU, itr]
      | cons a q => exact absurd (h a (by simp)) (Nat.not_lt_zero _)
  | succ n ih =>
    have e : rowsU xs (n + 1) = rowsU xs n ++ ((rowsU xs n).filter (okR xs n)).map (· ++ [n]) := rfl
    rw [e, List.mem_append, List.mem_map]
    constructor
    · rintro (h | ⟨r, hr, rfl⟩)
      · obtain ⟨h1, h2⟩ := (ih (by omega) q).mp h
        exact ⟨h1, fun a ha => by have := h2 a ha; omega⟩
      · obtain ⟨hr1, hr2⟩ := List.mem_filter.mp hr
        obtain ⟨h1, h2⟩ := (ih (by omega) r).mp hr1
        have hx := okR_iff.mp hr2
        refine ⟨⟨?_, fun a ha => ?_⟩, fun a ha => ?_⟩
        · rw [List.pairwise_append]
          refine ⟨h1.1, List.pairwise_singleton _ _, fun a ha b hb => ?_⟩
          have hb : b = n := by simpa using hb
          subst hb
          refine ⟨h2 a ha, ?_⟩
          rcases List.eq_nil_or_concat r with rfl | ⟨r0, p, rfl⟩
          · cases ha
          · simp only [List.concat_eq_append] at *
            have k1 := hx p r0 rfl
            rcases List.mem_append.mp ha with ha | ha
            · have := ((List.pairwise_append.mp h1.1).2.2 a ha p (by simp)).2
              omega
            · have : a = p := by simpa using ha
              rw [this]; exact k1
        · rcases List.mem_append.mp ha with ha | ha
          · exact h1.2 a ha
          · have : a = n := by simpa using ha
            omega
        · rcases List.mem_append.mp ha with ha | ha
          · have := h2 a ha; omega
          · have : a = n := by simpa using ha
            omega
    · rintro ⟨h1, h2⟩
      rcases List.eq_nil_or_concat q with rfl | ⟨r, p, rfl⟩
      · exact .inl ((ih (by omega) []).mpr ⟨h1, fun a ha => nomatch ha⟩)
      · simp only [List.concat_eq_append] at *
        have hr : Up xs r := ⟨(List.pairwise_append.mp h1.1).1, fun a ha => h1.2 a (by simp [ha])⟩
        have hlt : ∀ a ∈ r, a < p ∧ gi xs a < gi xs p := fun a ha => (List.pairwise_append.mp h1.1).2.2 a ha p (by simp)
        by_cases hp : p < n
        · refine .inl ((ih (by omega) _).mpr ⟨h1, fun a ha => ?_⟩)
          rcases List.mem_append.mp ha with ha | ha
          · have := (hlt a ha).1; omega
          · have : a = p := by simpa using ha
            omega
        · have hp' : p = n := by have := h2 p (by simp); omega
          subst hp'
          refine .inr ⟨r, List.mem_filter.mpr ⟨(ih (by omega) r).mpr ⟨hr, fun a ha => (hlt a ha).1⟩, okR_iff.mpr fun z r0 e => ?_⟩, rfl⟩
          exact (hlt z (by rw [e]; simp)).2
abbrev rwD (row : List Nat) : D := .lst ((castN row).map .int)
theorem castN_app (r : List Nat) (p : Nat) : castN (r ++ [p]) = castN r ++ [(p : Int)] := by simp [castN]
theorem up_len {xs : List Int} {row : List Nat} (h : Up xs row) : row.length ≤ xs.length := by
  have go : ∀ (row : List Nat) (a : Nat), Up xs (a :: row) → a + row.length + 1 ≤ xs.length := by
    intro row
    induction row with
    | nil => intro a h; have := h.2 a (by simp); simp; omega
    | cons b row ih =>
      intro a h
      have h1 := ih b h.tail
      have h2 := ((List.pairwise_cons.mp h.1).1 b (by simp)).1
      simp
      omega
  cases row with
  | nil => simp
  | cons a row => have := go row a h; simp; omega
/-- the law's def -/
theorem rows_up_eq {xs : List Int} {p : Nat} {h : Sto} (hp : h.o[p]? = some (.lst (wI xs))) (hn : xs.length ≤ 9) : F__law_rows_up [.l p] h = .ok (.d (.lst ((rowsU xs xs.length).map rwD))) h := by
  have pw : ∀ i, i ≤ 9 → (2 : Nat) ^ i ≤ 512 := fun i hi => Nat.le_trans (Nat.pow_le_pow_right (by decide) hi) (by decide)
  obtain ⟨r', h', ⟨k', w', rfl, rfl⟩, e⟩ := for_run (tg := gN 2) (body := l1__law_rows_up) (ws := upInts 0 xs.length) (r := [some (.l p), some (.d (.lst [rwD []])), none, none]) (h := ⟨h.o, true⟩)
    (fun i r h2 => ∃ k' w', r = [some (.l p), some (.d (.lst ((rowsU xs i).map rwD))), k', w'] ∧ h2 = ⟨h.o, true⟩) ⟨none, none, rfl, rfl⟩ (by
    rintro i w r h2 hw ⟨k', w', rfl, rfl⟩
    obtain ⟨hi, rfl⟩ := upInts_get hw
    simp only [Int.zero_add]
    have hR := rowsU_len (xs := xs) (n := i)
    have hR2 := pw i (by omega)
    refine ⟨_, [some (.l p), some (.d (.lst ((rowsU xs (i + 1)).map rwD))), some (.d (.int (i : Nat))), w'], ⟨h.o, true⟩, rfl, ?_, _, _, rfl, rfl⟩
    have ec := lc_exact (tg := gN 3) (c := xOr (xTest (xBin fEq (xApp (f1 fLen) (xCons (xVar 3) xNil)) (xC (.int 0)))) (xTest (xBin fLt (xBin fIx (xVar 0) (xBin fIx (xVar 3) (xUn fNeg (xC (.int 1))))) (xBin fIx (xVar 0) (xVar 2))))) (e := xBin fAddL (xVar 3) (xApp mkLst (xCons (xVar 2) xNil))) (xs := rowsU xs i) (inj := fun r => W.d (rwD r)) (p := okR xs i) (f := fun r => W.d (rwD (r ++ [i]))) (r := [some (.l p), some (.d (.lst ((rowsU xs i).map rwD))), some (.d (.int (i : Nat))), none]) (h := ⟨h.o, true⟩) (by omega) (by
      intro row hrow
      obtain ⟨u1, u2⟩ := (rowsU_mem (by omega) row).mp hrow
      refine ⟨_, rfl, ?_, fun _ => ?_⟩
      · have a1 : i < xs.length := hi
        rcases List.eq_nil_or_concat row with rfl | ⟨r0, z, rfl⟩
        · simp [okR]
        · simp only [List.concat_eq_append] at *
          have a2 : z < xs.length := u1.2 z (by simp)
          have hnz : ¬ ((r0.length : Int) + 1 = 0) := by omega
          have e1 : (castN (r0 ++ [z])).map D.int = (castN r0 ++ [(z : Int)]).map .int := by rw [castN_app]
          have e2 : ((castN (r0 ++ [z])).map D.int).map W.d = wI (castN r0 ++ [(z : Int)]) := by rw [e1, map_d_int]
          have t1 : xTest (xBin fEq (xApp (f1 fLen) (xCons (xVar 3) xNil)) (xC (.int 0))) [some (.l p), some (.d (.lst ((rowsU xs i).map rwD))), some (.d (.int (i : Nat))), some (.d (rwD (r0 ++ [z])))] ⟨h.o, true⟩ = .ok false ⟨h.o, true⟩ := by
            simp [hnz]
          have t2 : (xBin fIx (xVar 3) (xUn fNeg (xC (.int 1)))) [some (.l p), some (.d (.lst ((rowsU xs i).map rwD))), some (.d (.int (i : Nat))), some (.d (rwD (r0 ++ [z])))] ⟨h.o, true⟩ = .ok (.d (.int z)) ⟨h.o, true⟩ := by
            simp only [xBin, xVar, xUn, xC, fNeg, W.int?, Re.bind, List.getElem?_cons_succ, List.getElem?_cons_zero, fIx, seqOf, lstOf, e2]
            simp
          have t3 : (xBin fIx (xVar 0) (xBin fIx (xVar 3) (xUn fNeg (xC (.int 1))))) [some (.l p), some (.d (.lst ((rowsU xs i).map rwD))), some (.d (.int (i : Nat))), some (.d (rwD (r0 ++ [z])))] ⟨h.o, true⟩ = .ok (.d (.int (gi xs z))) ⟨h.o, true⟩ := by
            show (Re.bind ((xVar 0) _ _) fun x h1 => (xBin fIx (xVar 3) (xUn fNeg (xC (.int 1))) [some (.l p), some (.d (.lst ((rowsU xs i).map rwD))), some (.d (.int (i : Nat))), some (.d (rwD (r0 ++ [z])))] h1).bind fun y h2 => fIx x y h2) = _
            have t0 : (xVar 0) [some (.l p), some (.d (.lst ((rowsU xs i).map rwD))), some (.d (.int (i : Nat))), some (.d (rwD (r0 ++ [z])))] ⟨h.o, true⟩ = .ok (.l p) ⟨h.o, true⟩ := by simp
            rw [t0, Re.bind, t2, Re.bind]
            simp only [fIx, seqOf, lstOf, hp, W.int?]
            rw [atI_wI a2]
          have t4 : (xBin fIx (xVar 0) (xVar 2)) [some (.l p), some (.d (.lst ((rowsU xs i).map rwD))), some (.d (.int (i : Nat))), some (.d (rwD (r0 ++ [z])))] ⟨h.o, true⟩ = .ok (.d (.int (gi xs i))) ⟨h.o, true⟩ := by
            simp only [xBin, xVar, Re.bind, List.getElem?_cons_succ, List.getElem?_cons_zero, fIx, seqOf, lstOf, hp, W.int?]
            rw [atI_wI a1]
          have t5 : xTest (xBin fLt (xBin fIx (xVar 0) (xBin fIx (xVar 3) (xUn fNeg (xC (.int 1))))) (xBin fIx (xVar 0) (xVar 2))) [some (.l p), some (.d (.lst ((rowsU xs i).map rwD))), some (.d (.int (i : Nat))), some (.d (rwD (r0 ++ [z])))] ⟨h.o, true⟩ = .ok (decide (gi xs z < gi xs i)) ⟨h.o, true⟩ := by
            show (xBin fLt (xBin fIx (xVar 0) (xBin fIx (xVar 3) (xUn fNeg (xC (.int 1))))) (xBin fIx (xVar 0) (xVar 2)) _ _).bind _ = _
            rw [xBin, t3]
            simp only [Re.bind, t4, fLt, i2, W.int?]
          show xOr _ _ [some (.l p), some (.d (.lst ((rowsU xs i).map rwD))), some (.d (.int (i : Nat))), some (.d (rwD (r0 ++ [z])))] _ = _
          rw [xOr]
          simp only [t1, Re.bind, Bool.false_eq_true, if_false, t5]
          simp [okR]
      · have l1 : row.length + 1 ≤ lim := by
          have : row.length ≤ 512 := by
            have := up_len u1
            omega
          exact le_lim (by omega)
        have e1 : (castN (row ++ [i])).map D.int = (castN row).map D.int ++ [.int (i : Nat)] := by rw [castN_app]; simp
        simp [l1, e1])
    have hw : (rowsU xs i).map rwD ++ ((rowsU xs i).filter (okR xs i)).map (fun r => rwD (r ++ [i])) = (rowsU xs (i + 1)).map rwD := by
      show _ = (rowsU xs i ++ ((rowsU xs i).filter (okR xs i)).map (· ++ [i])).map rwD
      simp
    have e3 : ((rowsU xs i).map rwD).map W.d = (rowsU xs i).map fun r => W.d (rwD r) := by simp
    have e4 : pureL (((rowsU xs i).filter (okR xs i)).map fun r => W.d (rwD (r ++ [i]))) = some (((rowsU xs i).filter (okR xs i)).map fun r => rwD (r ++ [i])) := by
      have : (((rowsU xs i).filter (okR xs i)).map fun r => W.d (rwD (r ++ [i]))) = (((rowsU xs i).filter (okR xs i)).map fun r => rwD (r ++ [i])).map W.d := by simp
      rw [this, pureL_map]
    have hf := List.length_filter_le (okR xs i) (rowsU xs i)
    have l2 : ((rowsU xs i).map rwD).length + (((rowsU xs i).filter (okR xs i)).map fun r => rwD (r ++ [i])).length ≤ lim := le_lim (by simp; omega)
    have e6 : xLc (iSeq (xVar 1)) (gN 3) (xOr (xTest (xBin fEq (xApp (f1 fLen) (xCons (xVar 3) xNil)) (xC (.int 0)))) (xTest (xBin fLt (xBin fIx (xVar 0) (xBin fIx (xVar 3) (xUn fNeg (xC (.int 1))))) (xBin fIx (xVar 0) (xVar 2))))) (xBin fAddL (xVar 3) (xApp mkLst (xCons (xVar 2) xNil))) [3] [some (.l p), some (.d (.lst ((rowsU xs i).map rwD))), some (.d (.int (i : Nat))), w'] ⟨h.o, true⟩ = .ok (.d (.lst (((rowsU xs i).filter (okR xs i)).map fun r => rwD (r ++ [i])))) ⟨h.o, true⟩ := by
      rw [xLc]
      unfold xLcs
      simp only [iSeq, xVar, List.getElem?_cons_succ, List.getElem?_cons_zero, Re.bind, iterOf, List.length_map, e3]
      show (Re.bind (lcLoop (nL ((rowsU xs i).map fun r => W.d (rwD r))) (gN 3) _ _ ((rowsU xs i).length + 1) 0 [] [some (.l p), some (.d (.lst ((rowsU xs i).map rwD))), some (.d (.int (i : Nat))), none] ⟨h.o, true⟩) _) = _
      rw [ec]
      simp only [Re.bind, e4]
    unfold l1__law_rows_up
    simp only [gN, List.set_cons_succ, List.set_cons_zero]
    rw [sSet, xBin]
    simp only [xVar, List.getElem?_cons_succ, List.getElem?_cons_zero, Re.bind, e6, fAddL, ldOf, if_pos l2, hw, Re.then, List.set_cons_succ, List.set_cons_zero])
  show closeT true h.o.length h.c (b__law_rows_up [some (.l p), none, none, none] ⟨h.o, true⟩) = _
  have c1 : sSet 1 (xApp mkLst (xCons (xApp mkLst xNil) xNil)) [some (.l p), none, none, none] ⟨h.o, true⟩ = .nx [some (.l p), some (.d (.lst [rwD []])), none, none] ⟨h.o, true⟩ := by
    simp [pureL]
  have c2 := sFor_up1 (a := (xCons (xApp (f1 fLen) (xCons (xVar 0) xNil)) xNil)) (tg := gN 2) (b := l1__law_rows_up) (r := [some (.l p), some (.d (.lst [rwD []])), none, none]) (h := ⟨h.o, true⟩) (h1 := ⟨h.o, true⟩) (n := xs.length) (by simp [hp]) (by omega)
  simp only [upInts_length] at e
  rw [e] at c2
  unfold b__law_rows_up
  rw [seq_nx c1, seq_nx c2]
  simp
/-! ### the least of the longest -/
open PySem.W in
theorem lt_rows : ∀ (r q : List Nat), q.length = r.length → notAhead q r → PyProof.Rows.lexLt PyProof.Rows.itemOrd (keyToksAll (D.pys ((castN r).map .int))) (keyToksAll (D.pys ((castN q).map .int))) = false → q = r
  | [], [], _, _, _ => rfl
  | [], _ :: _, h, _, _ => by simp at h
  | _ :: _, [], h, _, _ => by simp at h
  | k :: r, k' :: q, h, hn, hl => by
    simp only [castN, List.map_cons, D.pys, D.py] at hl
    by_cases e : k = k'
    · subst e
      rw [dataLt_all_yes (by simp [alike]) (by simp [PyData.eqv])] at hl
      rcases hn with hn | ⟨_, hn⟩
      · omega
      · rw [lt_rows r q (by simpa using h) hn hl]
    · have h2 : k < k' := by
        rcases hn with hn | ⟨hn, _⟩
        · exact hn
        · exact absurd hn e
      rw [dataLt_all_no (by simp [alike]) (by simp [PyData.eqv]; omega), dataLt_int] at hl
      simp at hl
      omega
open PySem.W in
theorem alike_ints : ∀ (r q : List Int), alikeAll (D.pys (r.map .int)) (D.pys (q.map .int)) = true
  | [], _ => by simp [D.pys, alikeAll]
  | _ :: _, [] => by simp [D.pys, alikeAll]
  | a :: r, b :: q => by
    have := alike_ints r q
    simp [D.pys, D.py, alikeAll, alike, this]
theorem rows_sortable (G : List (List Nat)) : D.sortable (G.map rwD) := by
  refine ⟨fun d hd d' hd' => ?_, .inr fun d hd => ?_⟩
  · rw [pys_map] at hd hd'
    simp only [List.map_map, List.mem_map, Function.comp] at hd hd'
    obtain ⟨r, _, rfl⟩ := hd
    obtain ⟨q, _, rfl⟩ := hd'
    simp only [D.py, PySem.W.alike]
    exact alike_ints _ _
  · rw [pys_map] at hd
    simp only [List.map_map, List.mem_map, Function.comp] at hd
    obtain ⟨r, _, rfl⟩ := hd
    exact ⟨by simp [D.py], fun xs => by simp [D.py]⟩
theorem sort_head {G : List (List Nat)} {r : List Nat} (hr : r ∈ G) (hl : ∀ q ∈ G, q.length = r.length ∧ notAhead q r) : ∃ rest, sortD (G.map rwD) = rwD r :: rest := by
  have T := PySem.W.sortLe_total (PyProof.Rows.listOrd PyProof.Rows.itemOrd) false fun d : D => PySem.W.keyToks d.py
  have hp := List.pairwise_mergeSort (le := PySem.W.dataLe false D.py) (fun a b c => T.trans a b c) (fun a b => (Bool.or_eq_true _ _).mpr (T.total a b)) (G.map rwD)
  have hm : rwD r ∈ sortD (G.map rwD) := List.mem_mergeSort.mpr (List.mem_map.mpr ⟨r, hr, rfl⟩)
  unfold sortD at hm ⊢
  cases hs : (G.map rwD).mergeSort (PySem.W.dataLe false D.py) with
  | nil => rw [hs] at hm; cases hm
  | cons d rest =>
    rw [hs] at hm hp
    have hd : d ∈ (G.map rwD).mergeSort (PySem.W.dataLe false D.py) := by rw [hs]; simp
    obtain ⟨q, hq, rfl⟩ := List.mem_map.mp (List.mem_mergeSort.mp hd)
    refine ⟨rest, ?_⟩
    rcases List.mem_cons.mp hm with e | hm
    · rw [e]
    · have h1 := (List.pairwise_cons.mp hp).1 _ hm
      have h2 : PySem.W.dataLt (rwD r).py (rwD q).py = false := by
        have h1 : (!PySem.W.dataLt (rwD r).py (rwD q).py) = true := h1
        simpa using h1
      simp only [D.py] at h2
      rw [PySem.W.dataLt_list] at h2
      rw [lt_rows r q (hl q hq).1 (hl q hq).2 h2]
theorem maxI_is {s : List Int} {m : Int} (hm : m ∈ s) (h : ∀ z ∈ s, z ≤ m) : maxI s = m := by
  cases s with
  | nil => cases hm
  | cons n r =>
    have := maxI_spec n r
    have h1 := h _ this.1
    have h2 := this.2 _ hm
    omega
/-- the longest, the first of them -/
theorem due_eq {xs : List Int} : ∃ r : List Nat, stay xs = castN r ∧ r ∈ rowsU xs xs.length ∧ maxI ((rowsU xs xs.length).map fun q => (q.length : Int)) = r.length ∧
    ∃ rest, sortD (((rowsU xs xs.length).filter fun q => (q.length : Int) == (r.length : Int)).map rwD) = rwD r :: rest := by
  obtain ⟨r, h1, h2, h3, h4⟩ := stay_row xs
  have mem := rowsU_mem (xs := xs) (Nat.le_refl _)
  have hr : r ∈ rowsU xs xs.length := (mem r).mpr ⟨h2, h2.2⟩
  refine ⟨r, h1, hr, maxI_is (List.mem_map.mpr ⟨r, hr, rfl⟩) fun z hz => ?_, sort_head (List.mem_filter.mpr ⟨hr, by simp⟩) fun q hq => ?_⟩
  · obtain ⟨q, hq, rfl⟩ := List.mem_map.mp hz
    have := h3 q ((mem q).mp hq).1
    omega
  · obtain ⟨hq1, hq2⟩ := List.mem_filter.mp hq
    have hq2 : q.length = r.length := by simp at hq2; omega
    exact ⟨hq2, h4 q ((mem q).mp hq1).1 hq2⟩
/-! ### digits, draws -/
theorem cell_eq {ns : List Int} {k : Nat} {h : Sto} : ∃ v : Int, F__law_cell [.s (ns.map .int), .d (.int k)] h = .ok (.d (.int v)) h := by
  by_cases hk : k < ns.length
  · refine ⟨gi ns k, fnI_go rfl rfl ?_⟩
    show closeI h (b__law_cell [some (.s (ns.map .int)), some (.d (.int k))] ⟨[], true⟩) = _
    simp [b__law_cell, hk]
  · refine ⟨0, fnI_go rfl rfl ?_⟩
    show closeI h (b__law_cell [some (.s (ns.map .int)), some (.d (.int k))] ⟨[], true⟩) = _
    have : ¬ (k : Int) < ns.length := by omega
    simp [b__law_cell, hk, this]
section
variable {ns f : List Int} {k c : Int} {t sd x : Option W}
abbrev dgR (ns : List Int) (k c : Int) (t sd : Option W) : Xs.Env := [some (.s (ns.map .int)), some (.d (.int 0)), some (.d (.int 20)), some (.l 0), some (.d (.int k)), some (.d (.int c)), t, sd]
theorem dig1 (hf : f.length ≤ 100000) : ∃ c' t' f', f'.length ≤ f.length + 60 ∧ forLoop (nL (upInts 0 60)) (gN 6) l1__law_digits 61 0 (dgR ns k c t sd) ⟨[.lst (wI f)], true⟩ = .nx (dgR ns k c' t' sd) ⟨[.lst (wI f')], true⟩ := by
  obtain ⟨r', h', ⟨c', t', f', hl, rfl, rfl⟩, e⟩ := for_run (tg := gN 6) (ws := upInts 0 60) (r := dgR ns k c t sd) (h := ⟨[.lst (wI f)], true⟩) (body := l1__law_digits)
    (fun i r h => ∃ c' t' f', f'.length ≤ f.length + i ∧ r = dgR ns k c' t' sd ∧ h = ⟨[.lst (wI f')], true⟩) ⟨c, t, f, Nat.le_refl _, rfl, rfl⟩ (by
    rintro i w r h hw ⟨c', t', f', hl, rfl, rfl⟩
    obtain ⟨hi, rfl⟩ := upInts_get hw
    have a1 : f'.length < lim := lt_lim (by omega)
    by_cases hc : 0 < c'
    · exact ⟨_, dgR ns k (c' / 1000) (some (.d (.int (0 + (i : Nat))))) sd, ⟨[.lst (wI (f' ++ [c' % 1000]))], true⟩, rfl, by simp [l1__law_digits, hc, a1], _, _, _, by simp; omega, rfl, rfl⟩
    · exact ⟨_, dgR ns k c' (some (.d (.int (0 + (i : Nat))))) sd, ⟨[.lst (wI f')], true⟩, rfl, by simp [l1__law_digits, hc], _, _, f', by omega, rfl, rfl⟩)
  exact ⟨c', t', f', by simpa using hl, by simpa using e⟩
theorem dig2 {s : Int} (hf : f.length ≤ 100000) : ∃ t' s' f', f'.length ≤ f.length + 12 ∧ forLoop (nL (upInts 0 12)) (gN 6) l2__law_digits 13 0 (dgR ns k c t (some (.d (.int s)))) ⟨[.lst (wI f)], true⟩ = .nx (dgR ns k c t' (some (.d (.int s')))) ⟨[.lst (wI f')], true⟩ := by
  obtain ⟨r', h', ⟨c', t', f', hl, rfl, rfl⟩, e⟩ := for_run (tg := gN 6) (ws := upInts 0 12) (r := dgR ns k c t (some (.d (.int s)))) (h := ⟨[.lst (wI f)], true⟩) (body := l2__law_digits)
    (fun i r h => ∃ s' t' f', f'.length ≤ f.length + i ∧ r = dgR ns k c t' (some (.d (.int s'))) ∧ h = ⟨[.lst (wI f')], true⟩) ⟨s, t, f, Nat.le_refl _, rfl, rfl⟩ (by
    rintro i w r h hw ⟨s', t', f', hl, rfl, rfl⟩
    obtain ⟨hi, rfl⟩ := upInts_get hw
    have a1 : f'.length < lim := lt_lim (by omega)
    generalize (0 : Int) + (i : Nat) = j
    exact ⟨_, dgR ns k c (some (.d (.int j))) (some (.d (.int ((s' * 16807 + 7 * j + 1) % 2147483647)))), ⟨[.lst (wI (f' ++ [(s' * 16807 + 7 * j + 1) % 2147483647 / 997 % 1000]))], true⟩, rfl, by simp [l2__law_digits, a1], _, _, _, by simp; omega, rfl, rfl⟩)
  exact ⟨t', c', f', by simpa using hl, by simpa using e⟩
theorem digits_eq {h : Sto} : ∃ ds : List Int, ds.length ≤ 100000 ∧ F__law_digits [.s (ns.map .int), .d (.int 0), .d (.int 20)] h = .ok (lI ds) h := by
  obtain ⟨r', h', ⟨c', k', t', s', f', hl, rfl, rfl⟩, e⟩ := for_run (tg := gN 4) (ws := upInts 0 20) (r := [some (.s (ns.map .int)), some (.d (.int 0)), some (.d (.int 20)), some (.l 0), none, none, none, none]) (h := ⟨[.lst (wI [])], true⟩) (body := l3__law_digits)
    (fun i r h => ∃ k c t s f, List.length f ≤ 60 * i ∧ r = [some (.s (ns.map .int)), some (.d (.int 0)), some (.d (.int 20)), some (.l 0), k, c, t, s] ∧ h = ⟨[.lst (wI f)], true⟩) ⟨none, none, none, none, [], by simp, rfl, rfl⟩ (by
    rintro i w r h hw ⟨k', c', t', s', f', hl, rfl, rfl⟩
    obtain ⟨hi, rfl⟩ := upInts_get hw
    obtain ⟨v, hv⟩ := cell_eq (ns := ns) (k := i) (h := ⟨[.lst (wI f')], true⟩)
    obtain ⟨c, hc⟩ : ∃ c, c = if v < 0 then 1 - 2 * v else v := ⟨_, rfl⟩
    have s1 : sSet 5 (xApp F__law_cell (xCons (xVar 0) (xCons (xVar 4) xNil))) [some (.s (ns.map .int)), some (.d (.int 0)), some (.d (.int 20)), some (.l 0), some (.d (.int i)), c', t', s'] ⟨[.lst (wI f')], true⟩ = .nx (dgR ns i v t' s') ⟨[.lst (wI f')], true⟩ := by
      simp [hv]
    have s2 : (sIf (xTest (xBin fLt (xVar 5) (xC (.int 0)))) (sSet 5 (xBin fSub (xC (.int 1)) (xBin fMul (xC (.int 2)) (xVar 5)))) sSkip) (dgR ns i v t' s') ⟨[.lst (wI f')], true⟩ = .nx (dgR ns i c t' s') ⟨[.lst (wI f')], true⟩ := by
      by_cases hc' : v < 0
      · simp [hc, hc']
      · simp [hc, hc']
    have e30 : (0 : Int) + (i : Nat) = i := Int.zero_add _
    by_cases hq : 10 ^ 18 ≤ c
    · obtain ⟨c2, t2, f2, h2, e2⟩ := dig1 (ns := ns) (k := i) (c := c) (t := t') (sd := s') (f := f') (by omega)
      have k2 := sFor_up1 (a := (xCons (xC (.int 60)) xNil)) (tg := gN 6) (b := l1__law_digits) (r := dgR ns i c t' s') (h := ⟨[.lst (wI f')], true⟩) (h1 := ⟨[.lst (wI f')], true⟩) (n := 60) (by simp) (by decide)
      rw [e2] at k2
      refine ⟨_, dgR ns i c2 t2 s', ⟨[.lst (wI f2)], true⟩, rfl, ?_, _, _, _, _, f2, by omega, rfl, rfl⟩
      unfold l3__law_digits
      simp only [gN, List.set_cons_succ, List.set_cons_zero, e30]
      rw [seq_nx s1, seq_nx s2]
      have hq' : (1000000000000000000 : Int) ≤ c := by simpa using hq
      have tt : xTest (xBin fGe (xVar 5) (xBin fPow (xC (.int 10)) (xC (.int 18)))) (dgR ns i c t' s') ⟨[.lst (wI f')], true⟩ = .ok true ⟨[.lst (wI f')], true⟩ := by simp [hq']
      simp only [sIf, tt, Re.then, if_true]
      exact k2
    · obtain ⟨sd, hsd⟩ : ∃ sd, sd = (c * 48271 + i * 69621 + 11) % 2147483647 := ⟨_, rfl⟩
      obtain ⟨t2, s2', f2, h2, e2⟩ := dig2 (ns := ns) (k := i) (c := c) (t := t') (s := sd) (f := f') (by omega)
      have k2 := sFor_up1 (a := (xCons (xC (.int 12)) xNil)) (tg := gN 6) (b := l2__law_digits) (r := dgR ns i c t' (some (.d (.int sd)))) (h := ⟨[.lst (wI f')], true⟩) (h1 := ⟨[.lst (wI f')], true⟩) (n := 12) (by simp) (by decide)
      rw [e2] at k2
      refine ⟨_, dgR ns i c t2 (some (.d (.int s2'))), ⟨[.lst (wI f2)], true⟩, rfl, ?_, _, _, _, _, f2, by omega, rfl, rfl⟩
      unfold l3__law_digits
      simp only [gN, List.set_cons_succ, List.set_cons_zero, e30]
      rw [seq_nx s1, seq_nx s2]
      have hq' : ¬ (1000000000000000000 : Int) ≤ c := by simpa using hq
      have tt : xTest (xBin fGe (xVar 5) (xBin fPow (xC (.int 10)) (xC (.int 18)))) (dgR ns i c t' s') ⟨[.lst (wI f')], true⟩ = .ok false ⟨[.lst (wI f')], true⟩ := by simp [hq']
      simp only [sIf, tt, Re.then, if_false, Bool.false_eq_true]
      have s3 : (sSet 7 (xBin fMod (xApp (f1 fInt) (xCons (xBin fAddI (xBin fAddI (xBin fMul (xVar 5) (xC (.int 48271))) (xBin fMul (xVar 4) (xC (.int 69621)))) (xC (.int 11))) xNil)) (xC (.int 2147483647)))) (dgR ns i c t' s') ⟨[.lst (wI f')], true⟩ = .nx (dgR ns i c t' (some (.d (.int sd)))) ⟨[.lst (wI f')], true⟩ := by
        simp [hsd]
      rw [seq_nx s3]
      exact k2)
  refine ⟨f', by simp at hl; omega, fnI_go rfl rfl ?_⟩
  show closeI h (b__law_digits [some (.s (ns.map .int)), some (.d (.int 0)), some (.d (.int 20)), none, none, none, none, none] ⟨[], true⟩) = _
  have c1 : sSet 3 (xApp mkNew xNil) [some (.s (ns.map .int)), some (.d (.int 0)), some (.d (.int 20)), none, none, none, none, none] ⟨[], true⟩ = .nx [some (.s (ns.map .int)), some (.d (.int 0)), some (.d (.int 20)), some (.l 0), none, none, none, none] ⟨[.lst (wI [])], true⟩ := by
    simp [wI]
  have k := sFor_up2 (a := (xCons (xVar 1) (xCons (xVar 2) xNil))) (tg := gN 4) (b := l3__law_digits) (r := [some (.s (ns.map .int)), some (.d (.int 0)), some (.d (.int 20)), some (.l 0), none, none, none, none]) (h := ⟨[.lst (wI [])], true⟩) (h1 := ⟨[.lst (wI [])], true⟩) (i := 0) (j := 20) (by simp) (small_nat (n := 0) (by decide)) (small_nat (n := 20) (by decide))
  have e' : forLoop (nL (upInts 0 20)) (gN 4) l3__law_digits 21 0 [some (.s (ns.map .int)), some (.d (.int 0)), some (.d (.int 20)), some (.l 0), none, none, none, none] ⟨[.lst (wI [])], true⟩ = _ := e
  have k' : _ = forLoop (nL (upInts 0 20)) (gN 4) l3__law_digits 21 0 [some (.s (ns.map .int)), some (.d (.int 0)), some (.d (.int 20)), some (.l 0), none, none, none, none] ⟨[.lst (wI [])], true⟩ := k
  rw [e'] at k'
  unfold b__law_digits
  rw [seq_nx c1, seq_nx k']
  simp
/-- the box: digits and the next index; what stands behind it -/
abbrev bx (ds : List Int) (c : Nat) (rest : List O := []) : Sto := ⟨.lst [lI ds, .d (.int c)] :: rest, true⟩
theorem draw_eq {ds : List Int} {q : Nat} {m : Int} {rest : List O} (hm : 0 < m) : ∃ v : Int, 0 ≤ v ∧ v < m ∧ F__law_draw [.l 0, .d (.int m)] (bx ds q rest) = .ok (.d (.int v)) (bx ds (q + 1) rest) := by
  have go : ∀ v, closeT true (rest.length + 1) true (b__law_draw [some (.l 0), some (.d (.int m)), none] (bx ds q rest)) = .ok (.d (.int v)) (bx ds (q + 1) rest) → F__law_draw [.l 0, .d (.int m)] (bx ds q rest) = .ok (.d (.int v)) (bx ds (q + 1) rest) := fun v h => h
  by_cases hk : q < ds.length
  · refine ⟨gi ds q % m, Int.emod_nonneg _ (by omega), Int.emod_lt_of_pos _ hm, go _ ?_⟩
    simp [b__law_draw, hk, hm, atI, ixN, gi]
  · refine ⟨(q * 7 + 3) % m, Int.emod_nonneg _ (by omega), Int.emod_lt_of_pos _ hm, go _ ?_⟩
    have : ¬ (q : Int) < ds.length := by omega
    simp [b__law_draw, hk, hm, atI, ixN]
end

/-! ### the law -/
section
variable {ds : List Int}
abbrev lawR (s : W) (tn pl k pc rw' sz du ro : Option W) : Xs.Env := [some s, some (.l 0), tn, pl, k, pc, rw', sz, du, ro]
theorem set_last {a x y : O} {hs : List O} : (a :: (hs ++ [x])).set (hs.length + 1) y = a :: (hs ++ [y]) := by simp [List.set_append]
theorem get_last {a x : O} {hs : List O} : (a :: (hs ++ [x]))[hs.length + 1]? = some x := by simp
theorem places_eq {s : W} {tn k pc rw' sz du ro : Option W} {q n : Nat} {hs : List O} (hn : n ≤ 9) : ∃ (ps : List Int) (k' pc' : Option W) (q' : Nat), ps.length ≤ 9 ∧
    forLoop (nL (upInts 0 n)) (gN 4) l1_law (n + 1) 0 (lawR s tn (some (.l (hs.length + 1))) k pc rw' sz du ro) (bx ds q (hs ++ [.lst (wI [])])) = .nx (lawR s tn (some (.l (hs.length + 1))) k' pc' rw' sz du ro) (bx ds q' (hs ++ [.lst (wI ps)])) := by
  obtain ⟨r', h', ⟨ps, k', pc', q', hp, rfl, rfl⟩, e⟩ := for_run (tg := gN 4) (body := l1_law) (ws := upInts 0 n) (r := lawR s tn (some (.l (hs.length + 1))) k pc rw' sz du ro) (h := bx ds q (hs ++ [.lst (wI [])]))
    (fun i r h => ∃ (ps : List Int) (k' pc' : Option W) (q' : Nat), ps.length ≤ i ∧ r = lawR s tn (some (.l (hs.length + 1))) k' pc' rw' sz du ro ∧ h = bx ds q' (hs ++ [.lst (wI ps)])) ⟨[], k, pc, q, Nat.le_refl _, rfl, rfl⟩ (by
    rintro i w r h hw ⟨ps, k', pc', q', hp, rfl, rfl⟩
    obtain ⟨hi, rfl⟩ := upInts_get hw
    obtain ⟨a, a0, a1, ea⟩ := draw_eq (ds := ds) (q := q') (m := 30) (rest := hs ++ [.lst (wI ps)]) (by decide)
    obtain ⟨b, b0, b1, eb⟩ := draw_eq (ds := ds) (q := q' + 1) (m := 2) (rest := hs ++ [.lst (wI ps)]) (by decide)
    generalize hj : (0 : Int) + (i : Nat) = j
    have wb : w64 b = true := w64_of (by omega) (by omega)
    obtain ⟨v, hv⟩ : ∃ v, v = a + 2 * j * b := ⟨_, rfl⟩
    have s1 : sSet 5 (xBin fAddI (xApp F__law_draw (xCons (xVar 1) (xCons (xC (.int 30)) xNil))) (xBin fMul (xBin fMul (xC (.int 2)) (xApp (f1 fInt) (xCons (xVar 4) xNil))) (xApp F__law_draw (xCons (xVar 1) (xCons (xC (.int 2)) xNil))))) (lawR s tn (some (.l (hs.length + 1))) (some (.d (.int j))) pc' rw' sz du ro) (bx ds q' (hs ++ [.lst (wI ps)])) = .nx (lawR s tn (some (.l (hs.length + 1))) (some (.d (.int j))) (some (.d (.int v))) rw' sz du ro) (bx ds (q' + 1 + 1) (hs ++ [.lst (wI ps)])) := by
      simp [ea, eb, wb, hv]
    have hfl : (ps.map D.int).all D.flat = true := by simp
    have hg : (O.lst [lI ds, W.d (.int ((q' + 1 + 1 : Nat) : Int))] :: (hs ++ [.lst (wI ps)]))[hs.length + 1]? = some (.lst (wI ps)) := get_last
    obtain ⟨t, ht⟩ : ∃ t, t = (!((ps.map D.int).any fun z => z.eq (.int v))) := ⟨_, rfl⟩
    have tt : xTest (xBin (fInL true) (xVar 5) (xVar 3)) (lawR s tn (some (.l (hs.length + 1))) (some (.d (.int j))) (some (.d (.int v))) rw' sz du ro) (bx ds (q' + 1 + 1) (hs ++ [.lst (wI ps)])) = .ok t (bx ds (q' + 1 + 1) (hs ++ [.lst (wI ps)])) := by
      rw [xTest, xBin]
      simp only [xVar, List.getElem?_cons_succ, List.getElem?_cons_zero, Re.bind, fInL, sdOf, seqOf, lstOf, hg, pureL_wI, D.flat, hfl, Bool.and_self, if_true, ht]
    unfold l1_law
    cases t with
    | true =>
      have hlim : ps.length < lim := lt_lim (by omega)
      refine ⟨_, lawR s tn (some (.l (hs.length + 1))) (some (.d (.int j))) (some (.d (.int v))) rw' sz du ro, bx ds (q' + 1 + 1) (hs ++ [.lst (wI (ps ++ [v]))]), rfl, ?_, _, _, _, _, by simp; omega, rfl, rfl⟩
      simp only [gN, List.set_cons_succ, List.set_cons_zero]
      rw [seq_nx s1]
      simp only [sIf, tt, Re.then, if_true]
      have ty : tyOk "list" (W.l (hs.length + 1)) (bx ds (q' + 1 + 1) (hs ++ [.lst (wI ps)])) = true := by
        simp only [tyOk, lstOf, hg, if_true, Option.isSome]
      rw [sDrop, xBm]
      simp only [xVar, List.getElem?_cons_succ, List.getElem?_cons_zero, Re.bind, ty, if_true, xCons, xNil, fAppend, onLst, hg, wI_length, hlim, Re.then, set_last, wI_app1]
      simp
    | false =>
      refine ⟨_, lawR s tn (some (.l (hs.length + 1))) (some (.d (.int j))) (some (.d (.int v))) rw' sz du ro, bx ds (q' + 1 + 1) (hs ++ [.lst (wI ps)]), rfl, ?_, _, _, _, _, by omega, rfl, rfl⟩
      simp only [gN, List.set_cons_succ, List.set_cons_zero]
      rw [seq_nx s1]
      simp only [sIf, tt, Re.then, Bool.false_eq_true, if_false]
      rfl)
  exact ⟨ps, k', pc', q', by simp at hp; omega, by simpa using e⟩
theorem turn {s : W} {tn a b c d e f g : Option W} {q : Nat} {hs : List O} : ∃ a' b' c' d' e' f' g' q' hs', l2_law (lawR s tn a b c d e f g) (bx ds q hs) = .nx (lawR s tn a' b' c' d' e' f' g') (bx ds q' hs') := by
  obtain ⟨n, n0, n1, en⟩ := draw_eq (ds := ds) (q := q) (m := 10) (rest := hs ++ [.lst (wI [])]) (by decide)
  obtain ⟨n, rfl⟩ := Int.eq_ofNat_of_zero_le n0
  have s1 : sSet 3 (xApp mkNew xNil) (lawR s tn a b c d e f g) (bx ds q hs) = .nx (lawR s tn (some (.l (hs.length + 1))) b c d e f g) (bx ds q (hs ++ [.lst (wI [])])) := by
    simp [wI]
  obtain ⟨ps, k', pc', q', hps, e2⟩ := places_eq (ds := ds) (s := s) (tn := tn) (k := b) (pc := c) (rw' := d) (sz := e) (du := f) (ro := g) (q := q + 1) (n := n) (hs := hs) (by omega)
  have s2 := sFor_up1 (a := (xCons (xApp F__law_draw (xCons (xVar 1) (xCons (xC (.int 10)) xNil))) xNil)) (tg := gN 4) (b := l1_law) (r := lawR s tn (some (.l (hs.length + 1))) b c d e f g) (h := bx ds q (hs ++ [.lst (wI [])])) (h1 := bx ds (q + 1) (hs ++ [.lst (wI [])])) (n := n) (by simp [en]) (by omega)
  rw [e2] at s2
  obtain ⟨H, hH⟩ : ∃ H, H = bx ds q' (hs ++ [.lst (wI ps)]) := ⟨_, rfl⟩
  rw [← hH] at s2
  have hp : H.o[hs.length + 1]? = some (.lst (wI ps)) := by rw [hH]; exact get_last
  have er := rows_up_eq hp hps
  obtain ⟨r, r1, r2, r3, rest, r4⟩ := due_eq (xs := ps)
  obtain ⟨R, hR⟩ : ∃ R, R = rowsU ps ps.length := ⟨_, rfl⟩
  have hRl : R.length ≤ 512 := by
    rw [hR]
    exact Nat.le_trans rowsU_len (Nat.le_trans (Nat.pow_le_pow_right (by decide) hps) (by decide))
  rw [← hR] at er r2 r3 r4
  have s3 : sSet 6 (xApp F__law_rows_up (xCons (xVar 3) xNil)) (lawR s tn (some (.l (hs.length + 1))) k' pc' d e f g) H = .nx (lawR s tn (some (.l (hs.length + 1))) k' pc' (some (.d (.lst (R.map rwD)))) e f g) H := by
    simp [er]
  have e3 : (R.map rwD).map W.d = R.map fun r => W.d (rwD r) := by simp
  have s4 : sSet 7 (xApp (f1 fMax) (xCons (xLc (iSeq (xVar 6)) (gN 9) xYes (xApp (f1 fLen) (xCons (xVar 9) xNil)) [9]) xNil)) (lawR s tn (some (.l (hs.length + 1))) k' pc' (some (.d (.lst (R.map rwD)))) e f g) H = .nx (lawR s tn (some (.l (hs.length + 1))) k' pc' (some (.d (.lst (R.map rwD)))) (some (.d (.int r.length))) f g) H := by
    have ec := lc_exact (tg := gN 9) (c := xYes) (e := xApp (f1 fLen) (xCons (xVar 9) xNil)) (xs := R) (inj := fun r => W.d (rwD r)) (p := fun _ => true) (f := fun q => W.d (.int (q.length : Nat))) (r := lawR s tn (some (.l (hs.length + 1))) k' pc' (some (.d (.lst (R.map rwD)))) e f none) (h := H) (by omega) (by
      intro row hrow
      exact ⟨_, rfl, rfl, fun _ => by simp⟩)
    have e5 : (R.filter fun _ => true) = R := by simp
    rw [e5] at ec
    have e4 : (R.map fun q => W.d (.int (q.length : Nat))) = wI (R.map fun q => (q.length : Int)) := by simp [wI]
    rw [e4] at ec
    have hpos : 0 < (R.map fun q => (q.length : Int)).length := by
      rw [List.length_map]
      exact List.length_pos_of_mem r2
    have e6 : xLc (iSeq (xVar 6)) (gN 9) xYes (xApp (f1 fLen) (xCons (xVar 9) xNil)) [9] (lawR s tn (some (.l (hs.length + 1))) k' pc' (some (.d (.lst (R.map rwD)))) e f g) H = .ok (lI (R.map fun q => (q.length : Int))) H := by
      rw [xLc]
      unfold xLcs
      simp only [iSeq, xVar, List.getElem?_cons_succ, List.getElem?_cons_zero, Re.bind, iterOf, List.length_map, e3]
      show (Re.bind (lcLoop (nL (R.map fun r => W.d (rwD r))) (gN 9) _ _ (R.length + 1) 0 [] (lawR s tn (some (.l (hs.length + 1))) k' pc' (some (.d (.lst (R.map rwD)))) e f none) H) _) = _
      rw [ec]
      simp only [Re.bind, pureL_wI]
    have e7 : fMax (lI (R.map fun q => (q.length : Int))) H = .ok (.d (.int r.length)) H := by
      rw [← r3]
      generalize (R.map fun q => (q.length : Int)) = l at hpos
      simp [hpos]
    rw [sSet, xApp]
    simp only [xCons, e6, Re.bind, xNil, f1, e7, Re.then, List.set_cons_succ, List.set_cons_zero]
  have s5 : sSet 8 (xBin fIx (xApp (f1 fSorted) (xCons (xLc (iSeq (xVar 6)) (gN 9) (xTest (xBin fEq (xApp (f1 fLen) (xCons (xVar 9) xNil)) (xVar 7))) (xVar 9) [9]) xNil)) (xC (.int 0))) (lawR s tn (some (.l (hs.length + 1))) k' pc' (some (.d (.lst (R.map rwD)))) (some (.d (.int r.length))) f g) H = .nx (lawR s tn (some (.l (hs.length + 1))) k' pc' (some (.d (.lst (R.map rwD)))) (some (.d (.int r.length))) (some (.d (rwD r))) g) H := by
    have ec := lc_exact (tg := gN 9) (c := xTest (xBin fEq (xApp (f1 fLen) (xCons (xVar 9) xNil)) (xVar 7))) (e := xVar 9) (xs := R) (inj := fun r => W.d (rwD r)) (p := fun q => (q.length : Int) == (r.length : Int)) (f := fun q => W.d (rwD q)) (r := lawR s tn (some (.l (hs.length + 1))) k' pc' (some (.d (.lst (R.map rwD)))) (some (.d (.int r.length))) f none) (h := H) (by omega) (by
      intro row hrow
      exact ⟨_, rfl, by simp, fun _ => by simp⟩)
    obtain ⟨G, hG⟩ : ∃ G, G = R.filter fun q => (q.length : Int) == (r.length : Int) := ⟨_, rfl⟩
    rw [← hG] at ec r4
    have hGl : G.length ≤ 512 := by
      rw [hG]
      exact Nat.le_trans (List.length_filter_le _ _) hRl
    have e4 : pureL (G.map fun q => W.d (rwD q)) = some (G.map rwD) := by
      have : (G.map fun q => W.d (rwD q)) = (G.map rwD).map W.d := by simp
      rw [this, pureL_map]
    have e6 : xLc (iSeq (xVar 6)) (gN 9) (xTest (xBin fEq (xApp (f1 fLen) (xCons (xVar 9) xNil)) (xVar 7))) (xVar 9) [9] (lawR s tn (some (.l (hs.length + 1))) k' pc' (some (.d (.lst (R.map rwD)))) (some (.d (.int r.length))) f g) H = .ok (.d (.lst (G.map rwD))) H := by
      rw [xLc]
      unfold xLcs
      simp only [iSeq, xVar, List.getElem?_cons_succ, List.getElem?_cons_zero, Re.bind, iterOf, List.length_map, e3]
      show (Re.bind (lcLoop (nL (R.map fun r => W.d (rwD r))) (gN 9) _ _ (R.length + 1) 0 [] (lawR s tn (some (.l (hs.length + 1))) k' pc' (some (.d (.lst (R.map rwD)))) (some (.d (.int r.length))) f none) H) _) = _
      rw [ec]
      simp only [Re.bind, e4]
    have hdp : D.depths (G.map rwD) ≤ 60 := by
      have zero : ∀ l : List Int, D.depths (l.map .int) = 0 := fun l => by
        induction l with
        | nil => simp
        | cons a l ih => simpa using ih
      have one : ∀ l : List Nat, D.depth (rwD l) = 1 := fun l => by
        show D.depth (.lst ((castN l).map .int)) = 1
        rw [D.depth, zero]
      have : ∀ l : List (List Nat), D.depths (l.map rwD) ≤ 1 := fun l => by
        induction l with
        | nil => simp
        | cons a l ih =>
          simp only [List.map_cons, D.depths]
          rw [one a]
          omega
      have := this G
      omega
    have hll : (G.map rwD).length ≤ lim := le_lim (by rw [List.length_map]; omega)
    have e7 : fSorted (.d (.lst (G.map rwD))) H = .ok (.d (.lst (rwD r :: rest))) H := by
      unfold fSorted
      simp only [lstOf, pureL_map]
      rw [if_pos ⟨rows_sortable G, hll, hdp⟩, r4]
    rw [sSet, xBin]
    simp only [xApp, xCons, e6, Re.bind, xNil, f1, e7, xC, fIx, seqOf, lstOf, W.int?]
    have e8 : atI ((rwD r :: rest).map W.d) 0 = some (.d (rwD r)) := by
      have := atI_nat (xs := (rwD r :: rest).map W.d) (k := 0) (by simp)
      simpa using this
    simp only [e8, Re.then, List.set_cons_succ, List.set_cons_zero]
  have c1 := staying_eq (xs := ps) (h := H) (by omega)
  obtain ⟨d1, d2⟩ := stay_ok (xs := ps) (by omega)
  have c3 := is_eq (h := H) d1 d2
  have hst : lI (stay ps) = W.d (rwD r) := by rw [r1]
  have et : fTuple (.l (hs.length + 1)) H = .ok (tI ps) H := by
    simp only [fTuple, sdOf, seqOf, lstOf, hp, pureL_wI]
  have tt : (xNot (xTest (xApp F__law_list_is (xCons (xApp F_staying (xCons (xApp (f1 fTuple) (xCons (xVar 3) xNil)) xNil)) (xCons (xVar 8) xNil))))) (lawR s tn (some (.l (hs.length + 1))) k' pc' (some (.d (.lst (R.map rwD)))) (some (.d (.int r.length))) (some (.d (rwD r))) g) H = .ok false H := by
    rw [xNot, xTest, xApp]
    simp only [xCons, xApp, xVar, List.getElem?_cons_succ, List.getElem?_cons_zero, xNil, Re.bind, f1, et, c1, ← hst, c3]
    rfl
  refine ⟨some (.l (hs.length + 1)), k', pc', some (.d (.lst (R.map rwD))), some (.d (.int r.length)), some (.d (rwD r)), g, q', hs ++ [.lst (wI ps)], ?_⟩
  unfold l2_law
  rw [seq_nx s1, seq_nx s2, seq_nx s3, seq_nx s4, seq_nx s5]
  simp only [sIf, tt, Re.then, Bool.false_eq_true, if_false, sSkip]
  rw [hH]
theorem good (ns : List Int) (hl : ns.length ≤ 63) (hb : ∀ z ∈ ns, Builtin.Int.intBits z ≤ 1048576) : Good F_law ns := by
  refine ⟨⟨[], true⟩, fnI_go rfl rfl ?_⟩
  show closeI ⟨[], true⟩ (b_law (lawR (.s (ns.map .int)) none none none none none none none none |>.set 1 none) ⟨[], true⟩) = _
  obtain ⟨ds, hds, hd⟩ := digits_eq (ns := ns) (h := ⟨[], true⟩)
  have s1 : sSet 1 (xApp mkNew (xCons (xApp F__law_digits (xCons (xVar 0) (xCons (xC (.int 0)) (xCons (xC (.int 20)) xNil)))) (xCons (xC (.int 0)) xNil))) (lawR (.s (ns.map .int)) none none none none none none none none |>.set 1 none) ⟨[], true⟩ = .nx (lawR (.s (ns.map .int)) none none none none none none none none) (bx ds 0) := by
    simp [hd]
  obtain ⟨r', h', ⟨tn, a, b, c, d, e, f, g, q, hs, rfl, rfl⟩, ee⟩ := for_run (tg := gN 2) (body := l2_law) (ws := upInts 0 4) (r := lawR (.s (ns.map .int)) none none none none none none none none) (h := bx ds 0)
    (fun i r h => ∃ tn a b c d e f g q hs, r = lawR (.s (ns.map .int)) tn a b c d e f g ∧ h = bx ds q hs) ⟨none, none, none, none, none, none, none, none, 0, [], rfl, rfl⟩ (by
    rintro i w r h hw ⟨tn, a, b, c, d, e, f, g, q, hs, rfl, rfl⟩
    obtain ⟨a', b', c', d', e', f', g', q', hs', et⟩ := turn (ds := ds) (s := .s (ns.map .int)) (tn := some w) (a := a) (b := b) (c := c) (d := d) (e := e) (f := f) (g := g) (q := q) (hs := hs)
    exact ⟨_, _, _, rfl, et, _, _, _, _, _, _, _, _, _, _, rfl, rfl⟩)
  have k := sFor_up1 (a := (xCons (xC (.int 4)) xNil)) (tg := gN 2) (b := l2_law) (r := lawR (.s (ns.map .int)) none none none none none none none none) (h := bx ds 0) (h1 := bx ds 0) (n := 4) (by simp) (by decide)
  simp only [upInts_length] at ee
  rw [ee] at k
  unfold b_law
  rw [seq_nx s1, seq_nx k]
  simp
end
end
end Lk12

open PySem PySem.W PyProof.Rows
set_option maxRecDepth 100000 in
set_option maxHeartbeats 0 in
theorem PySem.Challenge.cw_remoteviews_k12_few_moves_holds : PySem.Challenge.rw_remoteviews_k12_few_moves.Holds := by
  w_on; o_law; k_head; (case hw => w_witness2)
  k_fill
  refine Xs.law_end (l := PySem.Challenge.rw_remoteviews_k12_few_moves) (n := 63) (k := 3) (x := "_law_script") (F := Lk12.F_law) rfl (by decide) rfl ⟨rfl, by decide, by decide⟩ (fun w h Y => PySem.W.kIn_of Y) ?F (fun ns hl hb => Lk12.good ns hl hb)
  case F =>
    intro w mg fa h KX G hmg
    refine' Lk12.all_mk KX G hmg ?A0 ?l0 ?c0 ?k0 ?A1 ?l1 ?c1 ?k1 ?A2 ?l2 ?c2 ?k2 ?A3 ?l3 ?c3 ?k3 ?A4 ?l4 ?c4 ?k4 ?A5 ?l5 ?c5 ?k5 ?A6 ?l6 ?c6 ?k6 ?z_int ?z_isinstance ?z_len ?z_list ?z_max ?z_range ?z_repr ?z_reversed ?z_sorted ?z_tuple
    (case A0 => k_is); (case l0 => k_is); (case c0 => k_is); (case k0 => k_is); (case A1 => k_is); (case l1 => k_is)
    (case c1 => k_is); (case k1 => k_is); (case A2 => k_is); (case l2 => k_is); (case c2 => k_is); (case k2 => k_is)
    (case A3 => k_is); (case l3 => k_is); (case c3 => k_is); (case k3 => k_is); (case A4 => k_is); (case l4 => k_is)
    (case c4 => k_is); (case k4 => k_is); (case A5 => k_is); (case l5 => k_is); (case c5 => k_is); (case k5 => k_is)
    (case A6 => k_is); (case l6 => k_is); (case c6 => k_is); (case k6 => k_is); (case z_int => k_is); (case z_isinstance => k_is)
    (case z_len => k_is); (case z_list => k_is); (case z_max => k_is); (case z_range => k_is); (case z_repr => k_is); (case z_reversed => k_is)
    (case z_sorted => k_is); (case z_tuple => k_is)
#print axioms PySem.Challenge.cw_remoteviews_k12_few_moves_holds
