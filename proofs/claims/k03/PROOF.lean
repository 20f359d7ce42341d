import PyProof.Rows.All
import Wide.All
import OpenK.AllK
import Wide.FinOn
import HandS.ForMost
import HandS.ForExc
import HandS.EndBits
import HandS.RevRange
import HandS.TupAny
import HandS.IsInst
import HandS.Style
import HandS.RaiseMore
import HandS.Dict
import HandS.Text
import HandS.Flt
import HandS.Comp
import HandS.ExcOwn
import HandS.WordsExc
import HandS.AnyAll
import HandS.DictComp
import KE.KRevSl
import KE.SortData
import HandS.Conv
import KE.GoesEnum
import KE.KNestM
import HandS.Flow
import HandS.Nested
import HandS.ExcInit
import HandS.ExcField
import HandS.ExcIs
import KE.KExcSuper
import KE.KExcIs
import HandS.FStr
import HandS.Replace
import HandS.ReplaceDef
import PyProof.DictCalls
import PyProof.StrBlock2
import HandS.ReplaceList
import KE.IntTextLaws
import KE.KIntText
import PyProof.StrLawsIn
import KE.GoesZip
import HandS.Zip
import PyProof.Rows.StrItems
import HandS.SuiteRaise
import PyProof.GenQ
import PyProof.GenComp
import HandS.GenOver
import PyProof.GenArm
import PySem.Challenge.RW_remoteviews_k03_no_expressions
set_option Elab.async false
set_option linter.all false
set_option maxRecDepth 100000
set_option maxHeartbeats 2000000
/-! XsA: data, stores, results, and how they stand to the abstract heap. -/
namespace Xs
noncomputable section
open PySem PySem.Spec PyProof.Rows L2

/-- data: what is never changed -/
inductive D where
  | non | bl (b : Bool) | int (i : Int) | str (s : Str)
  | tup (xs : List D) | lst (xs : List D)
  deriving Inhabited
/-- a value: data, a place of the store, a dict that stays, a def, the exception that a suite holds -/
inductive W where
  | d (x : D) | l (n : Nat) | s (xs : List D) | f (kvs : List (Key × D)) | fn (s : Str) | x (c : Str) (fs : List (Str × D)) | t (z : Str) | ty (n : String)
  deriving Inhabited
/-- what stands at a place of the store -/
inductive O where
  | lst (xs : List W) | dct (kvs : List (Key × W)) | ins (c : Str) (fs : List (Str × W))
  deriving Inhabited
/-- a store; c: no place was stored anywhere since the def's entry -/
structure Sto where
  o : List O
  c : Bool
structure Ex where
  c : Str
  fs : List (Str × D)
abbrev Env := List (Option W)
inductive Re (α : Type) where
  | ok (a : α) (h : Sto) | exc (e : Ex) (h : Sto) | stuck
inductive Fl where
  | nx (r : Env) (h : Sto) | rt (w : W) (h : Sto) | bk (r : Env) (h : Sto) | ct (r : Env) (h : Sto) | exc (e : Ex) (r : Env) (h : Sto) | stuck
def W.lt (f : Nat) : W → Prop
  | .l k => k < f
  | _ => True
def O.lt (f : Nat) : O → Prop
  | .lst xs => ∀ x ∈ xs, x.lt f
  | .dct kvs => ∀ p ∈ kvs, p.2.lt f
  | .ins _ fs => ∀ p ∈ fs, p.2.lt f

/-- what the relation leans on: the written part, the classes, the defs as values, the exception that a suite holds; the code objects that make others, with their tables -/
structure G where
  K : PySem.W.Frag
  cm : Str → Option Addr
  fm : Str → Option Addr
  xa : Option (Addr × Value × Option Addr)
  tb : List (Addr × Addr) := []
/-- o goes on standing; a table of code objects may grow -/
def Stays (o : HO) (x : Option HO) : Prop := match o with
  | .tbl ps => ∃ ps', x = some (.tbl ps') ∧ (TriplesOk ps.toList → TriplesOk ps'.toList)
  | o => x = some o
theorem Stays.of {o : HO} {x : Option HO} (h : x = some o) : Stays o x := by
  cases o
  all_goals first
    | exact h
    | exact ⟨_, h, id⟩
theorem Stays.ex {o : HO} {x : Option HO} (h : Stays o x) : ∃ o', x = some o' := by
  cases o
  all_goals first
    | exact ⟨_, h⟩
    | (obtain ⟨_, e, _⟩ := h; exact ⟨_, e⟩)
theorem Stays.trans {o : HO} {x y : Option HO} (h : Stays o x) (k : ∀ o', x = some o' → Stays o' y) : Stays o y := by
  cases o
  all_goals first
    | exact k _ h
    | (obtain ⟨ps', e, t⟩ := h; obtain ⟨ps2, e2, t2⟩ := k _ e; exact ⟨ps2, e2, fun z => t2 (t z)⟩)
/-- B: what may change; m: where the places of the store are -/
structure Mu where
  B : Addr → Prop
  m : List Addr

/-- a list that stays -/
def FzL (H : Hp) (B : Addr → Prop) (a : Addr) (xs : List V) : Prop := H a = some (.lst xs) ∧ ¬ B a
/-- a list that is only read: known to the object, or written -/
def FzS (K : PySem.W.Frag) (H : Hp) (a : Addr) (xs : List V) : Prop := (∃ o, H a = some (.frz o (.lst xs))) ∨ SqL K (fun _ => none) a xs
def FzD (H : Hp) (B : Addr → Prop) (a : Addr) (kvs : List (Key × V)) : Prop := H a = some (.dK kvs) ∧ ¬ B a
mutual
inductive RD (g : G) (H : Hp) (B : Addr → Prop) : V → D → Prop
  | non : RD g H B .non .non
  | bl (b : Bool) : RD g H B (.bl b) (.bl b)
  | int (i : Int) : RD g H B (.int i) (.int i)
  | str (s : Str) : PyData.strOk s = true → RD g H B (.str s) (.str s)
  | tup {a : Addr} {xs : List V} {ds : List D} : SqT g.K H a xs → RDs g H B xs ds → RD g H B (.ref a) (.tup ds)
  | lst {a : Addr} {xs : List V} {ds : List D} : FzL H B a xs → RDs g H B xs ds → RD g H B (.ref a) (.lst ds)
inductive RDs (g : G) (H : Hp) (B : Addr → Prop) : List V → List D → Prop
  | nil : RDs g H B [] []
  | cons {v : V} {vs : List V} {d : D} {ds : List D} : RD g H B v d → RDs g H B vs ds → RDs g H B (v :: vs) (d :: ds)
end
/-- pairs of one key each -/
inductive RDk {κ : Type} (g : G) (H : Hp) (B : Addr → Prop) : List (κ × V) → List (κ × D) → Prop
  | nil : RDk g H B [] []
  | cons {k : κ} {v : V} {vs : List (κ × V)} {d : D} {ds : List (κ × D)} : RD g H B v d → RDk g H B vs ds → RDk g H B ((k, v) :: vs) ((k, d) :: ds)

/-- from one moment to a later one -/
structure Ext (H : Hp) (M : Mu) (H' : Hp) (M' : Mu) : Prop where
  pre : ∀ (n : Nat) a, M.m[n]? = some a → M'.m[n]? = some a
  old : ∀ a o, H a = some o → a ∉ M.m → Stays o (H' a) ∧ a ∉ M'.m
  bb : ∀ a o, H a = some o → (M.B a ↔ M'.B a)
  tup : ∀ a xs, H a = some (.tup xs) → H' a = some (.tup xs)
  frz : ∀ a o u, H a = some (.frz o u) → H' a = some (.frz o u)
  dom : ∀ a o, H a = some o → ∃ o', H' a = some o'
theorem Ext.refl (H : Hp) (M : Mu) : Ext H M H M := ⟨fun _ _ e => e, fun _ _ e n => ⟨.of e, n⟩, fun _ _ _ => Iff.rfl, fun _ _ e => e, fun _ _ _ e => e, fun _ o e => ⟨o, e⟩⟩
theorem Ext.trans {H H1 H2 : Hp} {M M1 M2 : Mu} (x : Ext H M H1 M1) (y : Ext H1 M1 H2 M2) : Ext H M H2 M2 :=
  ⟨fun n a e => y.pre n a (x.pre n a e), fun a o e n => let ⟨e1, n1⟩ := x.old a o e n; let ⟨o1, e2⟩ := e1.ex; ⟨e1.trans fun o' e' => (y.old a o' e' n1).1, (y.old a o1 e2 n1).2⟩,
    fun a o e => let ⟨o1, e1⟩ := x.dom a o e; (x.bb a o e).trans (y.bb a o1 e1), fun a xs e => y.tup a xs (x.tup a xs e), fun a o u e => y.frz a o u (x.frz a o u e),
    fun a o e => let ⟨o1, e1⟩ := x.dom a o e; y.dom a o1 e1⟩

section mono
variable {g : G} {H H' : Hp} {M M' : Mu}
/-- B has what m has -/
def Sub (M : Mu) : Prop := ∀ a ∈ M.m, M.B a
/-- .. for data alone -/
structure Exd (H : Hp) (B : Addr → Prop) (H' : Hp) (B' : Addr → Prop) : Prop where
  old : ∀ a o, H a = some o → ¬ B a → Stays o (H' a) ∧ ¬ B' a
  tup : ∀ a xs, H a = some (.tup xs) → H' a = some (.tup xs)
  frz : ∀ a o u, H a = some (.frz o u) → H' a = some (.frz o u)
/-- .. weaker: what may change may have changed -/
structure Exw (H : Hp) (M : Mu) (H' : Hp) (M' : Mu) : Prop where
  pre : ∀ (n : Nat) a, M.m[n]? = some a → M'.m[n]? = some a
  old : ∀ a o, H a = some o → ¬ M.B a → Stays o (H' a) ∧ ¬ M'.B a
  tup : ∀ a xs, H a = some (.tup xs) → H' a = some (.tup xs)
  frz : ∀ a o u, H a = some (.frz o u) → H' a = some (.frz o u)
theorem Exw.d (x : Exw H M H' M') : Exd H M.B H' M'.B := ⟨x.old, x.tup, x.frz⟩
theorem Ext.w (x : Ext H M H' M') (sb : Sub M) : Exw H M H' M' := ⟨x.pre, fun a o e n => ⟨(x.old a o e fun q => n (sb a q)).1, fun q => n ((x.bb a o e).mpr q)⟩, x.tup, x.frz⟩
variable {B B' : Addr → Prop}
theorem FzL.mw {a : Addr} {xs : List V} (x : Exd H B H' B') (h : FzL H B a xs) : FzL H' B' a xs := x.old a _ h.1 h.2
theorem FzS.mw {K : PySem.W.Frag} {a : Addr} {xs : List V} (x : Exd H B H' B') (h : FzS K H a xs) : FzS K H' a xs := by
  rcases h with ⟨o, e⟩ | h
  · exact .inl ⟨o, x.frz a o _ e⟩
  · exact .inr h
theorem FzL.sq {K : PySem.W.Frag} {B : Addr → Prop} {a : Addr} {xs : List V} (h : FzL H B a xs) : SqL K H a xs := .inl (.inl h.1)
theorem FzS.sq {K : PySem.W.Frag} {a : Addr} {xs : List V} (h : FzS K H a xs) : SqL K H a xs := by
  rcases h with ⟨o, e⟩ | h
  · exact .inl (.inr ⟨o, e⟩)
  · rcases h with (h | ⟨_, h⟩) | h
    · exact nomatch h
    · exact nomatch h
    · exact .inr h
theorem FzD.mw {a : Addr} {xs : List (Key × V)} (x : Exd H B H' B') (h : FzD H B a xs) : FzD H' B' a xs := x.old a _ h.1 h.2
theorem FzD.rd {B : Addr → Prop} {a : Addr} {xs : List (Key × V)} (h : FzD H B a xs) : Rd H a (.dK xs) := .inl h.1
theorem sqT_mw {K : PySem.W.Frag} {a : Addr} {xs : List V} (x : Exd H B H' B') (h : SqT K H a xs) : SqT K H' a xs := by
  rcases h with (h | ⟨o, h⟩) | h
  · exact .inl (.inl (x.tup _ _ h))
  · exact .inl (.inr ⟨o, x.frz _ _ _ h⟩)
  · exact .inr h
mutual
theorem RD.mw {v : V} {d : D} (x : Exd H B H' B') : RD g H B v d → RD g H' B' v d
  | .non => .non
  | .bl b => .bl b
  | .int i => .int i
  | .str s h => .str s h
  | .tup h1 h2 => .tup (sqT_mw x h1) (RDs.mw x h2)
  | .lst h1 h2 => .lst (h1.mw x) (RDs.mw x h2)
theorem RDs.mw {v : List V} {d : List D} (x : Exd H B H' B') : RDs g H B v d → RDs g H' B' v d
  | .nil => .nil
  | .cons h1 h2 => .cons (RD.mw x h1) (RDs.mw x h2)
end
theorem RDk.mw {κ : Type} {v : List (κ × V)} {d : List (κ × D)} (x : Exd H B H' B') : RDk g H B v d → RDk g H' B' v d
  | .nil => .nil
  | .cons h1 h2 => .cons (RD.mw x h1) (RDk.mw x h2)
theorem RD.mono {v : V} {d : D} (x : Ext H M H' M') (sb : Sub M) (h : RD g H M.B v d) : RD g H' M'.B v d := h.mw (x.w sb).d
theorem RDs.mono {v : List V} {d : List D} (x : Ext H M H' M') (sb : Sub M) (h : RDs g H M.B v d) : RDs g H' M'.B v d := h.mw (x.w sb).d
theorem FzL.mono {a : Addr} {xs : List V} (x : Ext H M H' M') (sb : Sub M) (h : FzL H M.B a xs) : FzL H' M'.B a xs := h.mw (x.w sb).d
theorem FzS.mono {K : PySem.W.Frag} {a : Addr} {xs : List V} (x : Ext H M H' M') (h : FzS K H a xs) : FzS K H' a xs := by
  rcases h with ⟨o, e⟩ | h
  · exact .inl ⟨o, x.frz a o _ e⟩
  · exact .inr h
theorem sqT_mono {K : PySem.W.Frag} {a : Addr} {xs : List V} (x : Ext H M H' M') (h : SqT K H a xs) : SqT K H' a xs := by
  rcases h with (h | ⟨o, h⟩) | h
  · exact .inl (.inl (x.tup _ _ h))
  · exact .inl (.inr ⟨o, x.frz _ _ _ h⟩)
  · exact .inr h
end mono

/-- a value of the machine and one of ours -/
inductive RW (g : G) (H : Hp) (M : Mu) : V → W → Prop
  | d {v : V} {x : D} : RD g H M.B v x → RW g H M v (.d x)
  | l {a : Addr} {n : Nat} : M.m[n]? = some a → RW g H M (.ref a) (.l n)
  | s {a : Addr} {xs : List V} {ds : List D} : FzS g.K H a xs → RDs g H M.B xs ds → RW g H M (.ref a) (.s ds)
  | f {a : Addr} {xs : List (Key × V)} {ds : List (Key × D)} : FzD H M.B a xs → RDk g H M.B xs ds → RW g H M (.ref a) (.f ds)
  | t {z : Str} : RW g H M (.str z) (.t z)
  | ty {n : String} : RW g H M (.ty n) (.ty n)
  | fn {a : Addr} {s : Str} : g.fm s = some a → RW g H M (.ref a) (.fn s)
  | x {a C dd : Addr} {c : Str} {fs : List (Str × V)} {ds : List (Str × D)} : g.xa = some (a, .ref C, some dd) → g.cm c = some C → H dd = some (.xd fs) → ¬ M.B dd → RDk g H M.B fs ds → RW g H M (.ref a) (.x c ds)
  | x0 {a C : Addr} {c : Str} : g.xa = some (a, .ref C, none) → g.cm c = some C → RW g H M (.ref a) (.x c [])
abbrev RWs (g : G) (H : Hp) (M : Mu) : List V → List W → Prop := Paired (RW g H M)
abbrev RWk {κ : Type} (g : G) (H : Hp) (M : Mu) : List (κ × V) → List (κ × W) → Prop := Paired (fun (p : κ × V) (q : κ × W) => p.1 = q.1 ∧ RW g H M p.2 q.2)
def RO (g : G) (H : Hp) (M : Mu) : HO → O → Prop
  | .lst vs, .lst ws => RWs g H M vs ws
  | .dK kvs, .dct kws => RWk g H M kvs kws
  | .ins C _ fs, .ins c ws => g.cm c = some C ∧ RWk g H M fs ws
  | _, _ => False
/-- the store; fl: the numbers of places at the entries of the defs that want to drop what is behind -/
structure RH (g : G) (H : Hp) (M : Mu) (fl : List Nat) (h : Sto) : Prop where
  nd : M.m.Nodup
  sub : Sub M
  len : M.m.length = h.o.length
  ev : ∀ (n : Nat) (a : Addr) (o : O), M.m[n]? = some a → h.o[n]? = some o → ∃ u, H a = some u ∧ RO g H M u o
  cl : h.c = true → ∀ f ∈ fl, ∀ (j : Nat) (o : O), j < f → h.o[j]? = some o → o.lt f
  fle : ∀ f ∈ fl, f ≤ h.o.length
  tb : ∀ p ∈ g.tb, ∃ ps, H p.2 = some (.tbl ps) ∧ TriplesOk ps.toList
/-- the slots -/
structure RS (g : G) (H : Hp) (M : Mu) (σ : L2.St) (r : Env) : Prop where
  len : σ.length = r.length
  ev : ∀ (i : Nat) (w : W), r[i]? = some (some w) → ∃ v, σ[i]? = some (some v) ∧ RW g H M v w
/-- an exception: its class, its own dict -/
def REx (g : G) (H : Hp) (M : Mu) (c : Value) (d : Option Addr) (e : Ex) : Prop :=
  ∃ C, c = .ref C ∧ g.cm e.c = some C ∧ ((e.fs = [] ∧ d = none) ∨ ∃ dd fs, d = some dd ∧ H dd = some (.xd fs) ∧ ¬ M.B dd ∧ RDk g H M.B fs e.fs)

section
variable {g : G} {H H' : Hp} {M M' : Mu} {fl : List Nat} {h h' : Sto} {σ : L2.St} {r : Env} {v : V} {w : W}
theorem RW.mw (x : Exw H M H' M') (q : RW g H M v w) : RW g H' M' v w := by
  cases q with
  | d q => exact .d (q.mw x.d)
  | l q => exact .l (x.pre _ _ q)
  | s q1 q2 => exact .s (q1.mw x.d) (q2.mw x.d)
  | f q1 q2 => exact .f (q1.mw x.d) (q2.mw x.d)
  | t => exact .t
  | ty => exact .ty
  | fn q => exact .fn q
  | x h1 h2 h3 h4 h5 => exact .x h1 h2 (x.old _ _ h3 h4).1 (x.old _ _ h3 h4).2 (h5.mw x.d)
  | x0 h1 h2 => exact .x0 h1 h2
theorem RWs.mw {vs : List V} {ws : List W} (x : Exw H M H' M') (q : RWs g H M vs ws) : RWs g H' M' vs ws := L2.Paired.mapP q fun _ _ z => z.mw x
theorem RWk.mw {κ : Type} {vs : List (κ × V)} {ws : List (κ × W)} (x : Exw H M H' M') (q : RWk g H M vs ws) : RWk g H' M' vs ws := L2.Paired.mapP q fun _ _ z => ⟨z.1, z.2.mw x⟩
theorem RO.mw {u : HO} {o : O} (x : Exw H M H' M') (q : RO g H M u o) : RO g H' M' u o := by
  cases u <;> cases o <;> first | exact False.elim q | skip
  · exact RWs.mw x q
  · exact RWk.mw x q
  · exact ⟨q.1, RWk.mw x q.2⟩
theorem RS.mw (x : Exw H M H' M') (q : RS g H M σ r) : RS g H' M' σ r :=
  ⟨q.len, fun i w e => let ⟨v, e1, z⟩ := q.ev i w e; ⟨v, e1, z.mw x⟩⟩
theorem RW.mono (x : Ext H M H' M') (sb : Sub M) (q : RW g H M v w) : RW g H' M' v w := q.mw (x.w sb)
theorem RWs.mono {vs : List V} {ws : List W} (x : Ext H M H' M') (sb : Sub M) (q : RWs g H M vs ws) : RWs g H' M' vs ws := RWs.mw (x.w sb) q
theorem RWk.mono {κ : Type} {vs : List (κ × V)} {ws : List (κ × W)} (x : Ext H M H' M') (sb : Sub M) (q : RWk g H M vs ws) : RWk g H' M' vs ws := RWk.mw (x.w sb) q
theorem RO.mono {u : HO} {o : O} (x : Ext H M H' M') (sb : Sub M) (q : RO g H M u o) : RO g H' M' u o := RO.mw (x.w sb) q
theorem RS.mono (x : Ext H M H' M') (sb : Sub M) (q : RS g H M σ r) : RS g H' M' σ r := q.mw (x.w sb)
theorem RS.set {i : Nat} (q : RS g H M σ r) (z : RW g H M v w) : RS g H M (σ.set i (some v)) (r.set i (some w)) := by
  refine ⟨by rw [List.length_set, List.length_set]; exact q.len, fun j w' e => ?_⟩
  by_cases hj : i = j
  · subst hj
    rw [List.getElem?_set] at e ⊢
    rw [if_pos rfl] at e ⊢
    by_cases hl : i < r.length
    · rw [if_pos hl] at e
      rw [if_pos (by rw [q.len]; exact hl)]
      cases e
      exact ⟨v, rfl, z⟩
    · rw [if_neg hl] at e
      cases e
  · rw [List.getElem?_set_ne hj] at e ⊢
    exact q.ev j w' e
theorem RS.unset {i : Nat} (q : RS g H M σ r) : RS g H M (σ.set i none) (r.set i none) := by
  refine ⟨by rw [List.length_set, List.length_set]; exact q.len, fun j w' e => ?_⟩
  by_cases hj : i = j
  · subst hj
    rw [List.getElem?_set, if_pos rfl] at e
    split at e <;> cases e
  · rw [List.getElem?_set_ne hj] at e ⊢
    exact q.ev j w' e
theorem RH.get (q : RH g H M fl h) {n : Nat} {o : O} (e : h.o[n]? = some o) : ∃ a u, M.m[n]? = some a ∧ H a = some u ∧ RO g H M u o := by
  have hn : n < M.m.length := by rw [q.len]; exact (List.getElem?_eq_some_iff.mp e).1
  have e1 : M.m[n]? = some M.m[n] := List.getElem?_eq_getElem hn
  obtain ⟨u, h1, h2⟩ := q.ev n _ o e1 e
  exact ⟨_, u, e1, h1, h2⟩
theorem RH.of_m (q : RH g H M fl h) {n : Nat} {a : Addr} (e : M.m[n]? = some a) : ∃ o u, h.o[n]? = some o ∧ H a = some u ∧ RO g H M u o := by
  have hn : n < h.o.length := by rw [← q.len]; exact (List.getElem?_eq_some_iff.mp e).1
  have e1 : h.o[n]? = some h.o[n] := List.getElem?_eq_getElem hn
  obtain ⟨u, h1, h2⟩ := q.ev n a _ e e1
  exact ⟨_, u, e1, h1, h2⟩
theorem RH.mem (q : RH g H M fl h) {a : Addr} (e : a ∈ M.m) : ∃ o u, H a = some u ∧ RO g H M u o := by
  obtain ⟨n, hn, e1⟩ := List.mem_iff_getElem.mp e
  obtain ⟨o, u, _, h1, h2⟩ := q.of_m (n := n) (a := a) (by rw [List.getElem?_eq_getElem hn, e1])
  exact ⟨o, u, h1, h2⟩
theorem RO.notTup {xs : List V} {o : O} (q : RO g H M (.tup xs) o) : False := by cases o <;> exact q
theorem RO.notFrz {ob : Obj} {u : HO} {o : O} (q : RO g H M (.frz ob u) o) : False := by cases o <;> exact q
/-- a new object that stays, tracked at p -/
theorem Ext.fresh {p : Addr} {u : HO} (hp : H p = none) (q : RH g H M fl h) : Ext H M (upd H p u) M := by
  have ne : ∀ a o, H a = some o → a ≠ p := fun a o e => ne_of_none e hp
  exact ⟨fun _ _ e => e, fun a o e n => ⟨.of (by rw [upd_ne (ne a o e)]; exact e), n⟩, fun _ _ _ => Iff.rfl, fun a xs e => by rw [upd_ne (ne a _ e)]; exact e, fun a o u e => by rw [upd_ne (ne a _ e)]; exact e, fun a o e => ⟨o, by rw [upd_ne (ne a o e)]; exact e⟩⟩
theorem RO.notTbl {ps : Array Value} {o : O} (q : RO g H M (.tbl ps) o) : False := by cases o <;> exact q
theorem RO.stays {u : HO} {o : O} {x : Option HO} (q : RO g H M u o) (z : Stays u x) : x = some u := by
  cases u
  all_goals first
    | exact z
    | exact q.notTbl.elim
theorem RH.tb_m (q : RH g H M fl h) {p : Addr × Addr} (hp : p ∈ g.tb) : p.2 ∉ M.m := fun z => by
  obtain ⟨ps, e, _⟩ := q.tb p hp
  obtain ⟨o, u, e1, r⟩ := q.mem z
  rw [e] at e1
  cases e1
  exact r.notTbl
theorem RH.tbx (q : RH g H M fl h) (x : Ext H M H' M') : ∀ p ∈ g.tb, ∃ ps, H' p.2 = some (.tbl ps) ∧ TriplesOk ps.toList := fun p hp => by
  obtain ⟨ps, e, t⟩ := q.tb p hp
  obtain ⟨⟨ps', e', t'⟩, _⟩ := x.old p.2 _ e (q.tb_m hp)
  exact ⟨ps', e', t' t⟩
/-- what a step that keeps the places' objects leaves -/
theorem RH.ext (q : RH g H M fl h) (x : Ext H M H' M') (hm : M'.m = M.m) (hB : ∀ a ∈ M.m, M'.B a) (k : ∀ a ∈ M.m, H' a = H a) : RH g H' M' fl h := by
  refine ⟨by rw [hm]; exact q.nd, fun a ha => hB a (by rw [← hm]; exact ha), by rw [hm]; exact q.len, fun n a o e1 e2 => ?_, q.cl, q.fle, q.tbx x⟩
  rw [hm] at e1
  obtain ⟨u, h1, h2⟩ := q.ev n a o e1 e2
  exact ⟨u, by rw [k a (List.mem_of_getElem? e1)]; exact h1, h2.mono x q.sub⟩
theorem RH.fresh {p : Addr} {u : HO} (q : RH g H M fl h) (hp : H p = none) : RH g (upd H p u) M fl h :=
  q.ext (Ext.fresh hp q) rfl q.sub fun a ha => by
    obtain ⟨o, u, e, _⟩ := q.mem ha
    rw [upd_ne (ne_of_none e hp)]
/-- p is not among what may change: B without p -/
def Mu.fz (M : Mu) (p : Addr) : Mu := ⟨fun a => M.B a ∧ a ≠ p, M.m⟩
theorem Ext.freshF {p : Addr} {u : HO} (hp : H p = none) (q : RH g H M fl h) : Ext H M (upd H p u) (M.fz p) := by
  have ne : ∀ a o, H a = some o → a ≠ p := fun a o e => ne_of_none e hp
  exact ⟨fun _ _ e => e, fun a o e n => ⟨.of (by rw [upd_ne (ne a o e)]; exact e), n⟩, fun a o e => ⟨fun b => ⟨b, ne a o e⟩, fun b => b.1⟩, fun a xs e => by rw [upd_ne (ne a _ e)]; exact e, fun a o u e => by rw [upd_ne (ne a _ e)]; exact e, fun a o e => ⟨o, by rw [upd_ne (ne a o e)]; exact e⟩⟩
theorem RH.freshF {p : Addr} {u : HO} (q : RH g H M fl h) (hp : H p = none) : RH g (upd H p u) (M.fz p) fl h :=
  q.ext (Ext.freshF hp q) rfl (fun a ha => ⟨q.sub a ha, by
    obtain ⟨o, u, e, _⟩ := q.mem ha
    exact ne_of_none e hp⟩) fun a ha => by
    obtain ⟨o, u, e, _⟩ := q.mem ha
    rw [upd_ne (ne_of_none e hp)]
theorem RWs.length {vs : List V} {ws : List W} (q : RWs g H M vs ws) : vs.length = ws.length := Paired.length q
theorem RW.lt (z : RW g H M v w) (q : RH g H M fl h) : w.lt h.o.length := by
  cases z with
  | l e =>
    show _ < _
    rw [← q.len]
    exact (List.getElem?_eq_some_iff.mp e).1
  | _ => trivial
/-- a new object that may change -/
def Mu.add (M : Mu) (p : Addr) : Mu := ⟨fun a => M.B a ∨ a = p, M.m ++ [p]⟩
theorem Ext.add {p : Addr} {u : HO} (hp : H p = none) (q : RH g H M fl h) : Ext H M (upd H p u) (M.add p) := by
  have ne : ∀ a o, H a = some o → a ≠ p := fun a o e => ne_of_none e hp
  refine ⟨fun n a e => ?_, fun a o e n => ⟨.of (by rw [upd_ne (ne a o e)]; exact e), fun z => ?_⟩, fun a o e => ⟨fun b => .inl b, fun b => b.elim id fun z => absurd z (ne a o e)⟩, fun a xs e => by rw [upd_ne (ne a _ e)]; exact e, fun a o u e => by rw [upd_ne (ne a _ e)]; exact e, fun a o e => ⟨o, by rw [upd_ne (ne a o e)]; exact e⟩⟩
  · show (M.m ++ [p])[n]? = _
    rw [List.getElem?_append_left (List.getElem?_eq_some_iff.mp e).1]
    exact e
  · rcases List.mem_append.mp z with z | z
    · exact n z
    · exact ne a o e (List.mem_singleton.mp z)
theorem RH.add {p : Addr} {u : HO} {o : O} (q : RH g H M fl h) (hp : H p = none) (ro : RO g (upd H p u) (M.add p) u o) : RH g (upd H p u) (M.add p) fl ⟨h.o ++ [o], h.c⟩ := by
  have x : Ext H M (upd H p u) (M.add p) := Ext.add hp q
  have np : p ∉ M.m := fun z => by
    obtain ⟨o', u', e, _⟩ := q.mem z
    rw [hp] at e
    cases e
  refine ⟨?_, fun a ha => ?_, ?_, fun n a o' e1 e2 => ?_, fun hc f hf j o' hj e => ?_, fun f hf => ?_, q.tbx x⟩
  · show (M.m ++ [p]).Nodup
    rw [List.nodup_append]
    exact ⟨q.nd, List.nodup_cons.mpr ⟨by simp, List.nodup_nil⟩, fun a ha b hb z => np (by rw [← List.mem_singleton.mp hb, ← z]; exact ha)⟩
  · rcases List.mem_append.mp ha with z | z
    · exact .inl (q.sub a z)
    · exact .inr (List.mem_singleton.mp z)
  · show (M.m ++ [p]).length = (h.o ++ [o]).length
    rw [List.length_append, List.length_append, q.len]
    rfl
  · have e1' : (M.m ++ [p])[n]? = some a := e1
    have e2' : (h.o ++ [o])[n]? = some o' := e2
    by_cases hn : n < M.m.length
    · rw [List.getElem?_append_left hn] at e1'
      rw [List.getElem?_append_left (by rw [← q.len]; exact hn)] at e2'
      obtain ⟨u', h1, h2⟩ := q.ev n a o' e1' e2'
      exact ⟨u', by rw [upd_ne (ne_of_none h1 hp)]; exact h1, h2.mono x q.sub⟩
    · rw [List.getElem?_append_right (by omega)] at e1'
      rw [List.getElem?_append_right (by rw [← q.len]; omega)] at e2'
      have hz : n - M.m.length = 0 := by
        have := (List.getElem?_eq_some_iff.mp e1').1
        simp at this
        exact this
      rw [hz] at e1'
      rw [← q.len, hz] at e2'
      simp at e1' e2'
      subst e1' e2'
      exact ⟨u, upd_same, ro⟩
  · have e' : (h.o ++ [o])[j]? = some o' := e
    rw [List.getElem?_append_left (Nat.lt_of_lt_of_le hj (q.fle f hf))] at e'
    exact q.cl hc f hf j o' hj e'
  · show f ≤ (h.o ++ [o]).length
    rw [List.length_append]
    exact Nat.le_trans (q.fle f hf) (Nat.le_add_right _ _)
theorem RW.added {p : Addr} (q : RH g H M fl h) : RW g H' (M.add p) (.ref p) (.l h.o.length) := by
  refine .l ?_
  show (M.m ++ [p])[h.o.length]? = some p
  rw [List.getElem?_append_right (by rw [q.len]; exact Nat.le_refl _), q.len, Nat.sub_self]
  rfl
/-- the object at a place is written -/
theorem Ext.put {n : Nat} {a : Addr} {u : HO} (q : RH g H M fl h) (e : M.m[n]? = some a) : Ext H M (upd H a u) M := by
  have hm : a ∈ M.m := List.mem_of_getElem? e
  obtain ⟨o, u0, e0, r0⟩ := q.mem hm
  refine ⟨fun _ _ e => e, fun b o eb nb => ⟨.of (by rw [upd_ne (fun z => nb (by rw [z]; exact hm))]; exact eb), nb⟩, fun _ _ _ => Iff.rfl, fun b xs eb => ?_, fun b o u eb => ?_, fun b o eb => ?_⟩
  · rw [upd_ne (fun z => by
      rw [z, e0] at eb
      cases eb
      exact r0.notTup)]
    exact eb
  · rw [upd_ne (fun z => by
      rw [z, e0] at eb
      cases eb
      exact r0.notFrz)]
    exact eb
  · by_cases z : b = a
    · exact ⟨u, by rw [z]; exact upd_same⟩
    · exact ⟨o, by rw [upd_ne z]; exact eb⟩
theorem RH.put {n : Nat} {a : Addr} {u : HO} {o o' : O} {c' : Bool} (q : RH g H M fl h) (e : M.m[n]? = some a) (eo : h.o[n]? = some o) (ro : RO g (upd H a u) M u o') (hc : c' = true → h.c = true ∧ ∀ f, n < f → o.lt f → o'.lt f) :
    RH g (upd H a u) M fl ⟨h.o.set n o', c'⟩ := by
  have x : Ext H M (upd H a u) M := Ext.put q e
  have hn : n < h.o.length := (List.getElem?_eq_some_iff.mp eo).1
  refine ⟨q.nd, q.sub, by show _ = (h.o.set n o').length; rw [List.length_set]; exact q.len, fun k b o2 e1 e2 => ?_, fun hc' f hf j o2 hj e2 => ?_, fun f hf => by show _ ≤ (h.o.set n o').length; rw [List.length_set]; exact q.fle f hf, q.tbx x⟩
  · have e2' : (h.o.set n o')[k]? = some o2 := e2
    by_cases hk : n = k
    · subst hk
      rw [List.getElem?_set, if_pos rfl, if_pos hn] at e2'
      cases e2'
      rw [e] at e1
      cases e1
      exact ⟨u, upd_same, ro⟩
    · rw [List.getElem?_set_ne hk] at e2'
      obtain ⟨u2, h1, h2⟩ := q.ev k b o2 e1 e2'
      refine ⟨u2, ?_, h2.mono x q.sub⟩
      rw [upd_ne (fun z => hk ?_)]
      · exact h1
      · have h3 := List.getElem?_eq_some_iff.mp e1
        have h4 := List.getElem?_eq_some_iff.mp e
        exact (List.getElem_inj q.nd).mp (by rw [h4.2, h3.2, z])
  · have e2' : (h.o.set n o')[j]? = some o2 := e2
    obtain ⟨c1, c2⟩ := hc hc'
    by_cases hk : n = j
    · subst hk
      rw [List.getElem?_set, if_pos rfl, if_pos hn] at e2'
      cases e2'
      exact c2 f hj (q.cl c1 f hf n o hj eo)
    · rw [List.getElem?_set_ne hk] at e2'
      exact q.cl c1 f hf j o2 hj e2'
end
end
end Xs

/-! XsB: what a computation promises; the judgements. -/
namespace Xs
noncomputable section
open PySem PySem.Spec PyProof.Rows L2
@[simp] def Re.bind {α β : Type} (x : Re α) (k : α → Sto → Re β) : Re β :=
  match x with
  | .ok a h => k a h
  | .exc e h => .exc e h
  | .stuck => .stuck
abbrev XE := Env → Sto → Re W
abbrev XA := Env → Sto → Re (List W)
abbrev XT := Env → Sto → Re Bool
abbrev XS := Env → Sto → Fl

section
variable {α β γ : Type} {g : G} {Z : WX} {σ : L2.St} {H H' H1 : Hp} {M M' M1 : Mu} {fl : List Nat} {h h' h1 : Sto} {r : Env} {v : V} {w : W}
/-- what holds of a computation's result, from H, M on -/
def Po (g : G) (Z : WX) (σ : L2.St) (fl : List Nat) (R : Hp → Mu → β → α → Prop) (H : Hp) (M : Mu) (Q : β → Hp → Prop) : Re α → Prop
  | .ok x h' => ∀ v H' M', Ext H M H' M' → RH g H' M' fl h' → R H' M' v x → Q v H'
  | .exc e h' => ∀ c d H' M', Ext H M H' M' → RH g H' M' fl h' → REx g H' M' c d e → Z c d σ H'
  | .stuck => False
theorem Po.ext {R : Hp → Mu → β → α → Prop} {Q : β → Hp → Prop} {x : Re α} (e : Ext H M H' M') (p : Po g Z σ fl R H M Q x) : Po g Z σ fl R H' M' Q x := by
  cases x with
  | ok a h => exact fun v H2 M2 e2 => p v H2 M2 (e.trans e2)
  | exc a h => exact fun c d H2 M2 e2 => p c d H2 M2 (e.trans e2)
  | stuck => exact p
theorem Po.bind {δ : Type} {R1 : Hp → Mu → δ → α → Prop} {R2 : Hp → Mu → γ → β → Prop} {Q : γ → Hp → Prop} {Q1 : δ → Hp → Prop} {x : Re α} {k : α → Sto → Re β} (p : Po g Z σ fl R2 H M Q (x.bind k))
    (f : ∀ a h1 v H1 M1, Ext H M H1 M1 → RH g H1 M1 fl h1 → R1 H1 M1 v a → Po g Z σ fl R2 H1 M1 Q (k a h1) → Q1 v H1) : Po g Z σ fl R1 H M Q1 x := by
  cases x with
  | ok a h => exact fun v H1 M1 e rh rv => f a h v H1 M1 e rh rv (Po.ext e p)
  | exc a h => exact p
  | stuck => exact p
theorem Po.imp {R1 : Hp → Mu → β → α → Prop} {Q Q' : β → Hp → Prop} {x : Re α} (p : Po g Z σ fl R1 H M Q x) (f : ∀ v H', Q v H' → Q' v H') : Po g Z σ fl R1 H M Q' x := by
  cases x with
  | ok a h => exact fun v H1 M1 e rh rv => f v H1 (p v H1 M1 e rh rv)
  | exc a h => exact p
  | stuck => exact p
/-- a computation as a reading -/
def rd (g : G) (Z : WX) (R : Hp → Mu → β → α → Prop) (x : Env → Sto → Re α) : L2.St → Hp → (β → Hp → Prop) → Prop :=
  fun σ H Q => ∃ r h M fl, RS g H M σ r ∧ RH g H M fl h ∧ Po g Z σ fl R H M Q (x r h)
abbrev RB : Hp → Mu → Bool → Bool → Prop := fun _ _ a b => a = b
abbrev rdE (g : G) (Z : WX) (x : XE) : TE := rd g Z (RW g) x
abbrev rdA (g : G) (Z : WX) (x : XA) : TA := rd g Z (RWs g) x
abbrev rdT (g : G) (Z : WX) (x : XT) : TT := rd g Z RB x
/-- a statement's result -/
def PoS (g : G) (Z : WX) (fl : List Nat) (H : Hp) (M : Mu) (D : Ends) : Fl → Prop
  | .nx r h => ∀ σ' H' M', Ext H M H' M' → RS g H' M' σ' r → RH g H' M' fl h → D.nx σ' H'
  | .bk r h => ∀ σ' H' M', Ext H M H' M' → RS g H' M' σ' r → RH g H' M' fl h → D.bk σ' H'
  | .ct r h => ∀ σ' H' M', Ext H M H' M' → RS g H' M' σ' r → RH g H' M' fl h → D.ct σ' H'
  | .rt w h => ∀ v H' M', Ext H M H' M' → RH g H' M' fl h → RW g H' M' v w → D.rt v H'
  | .exc e r h => ∀ c d σ' H' M', Ext H M H' M' → RS g H' M' σ' r → RH g H' M' fl h → REx g H' M' c d e → Z c d σ' H'
  | .stuck => False
theorem PoS.ext {D : Ends} {x : Fl} (e : Ext H M H' M') (p : PoS g Z fl H M D x) : PoS g Z fl H' M' D x := by
  cases x with
  | nx r h => exact fun σ' H2 M2 e2 => p σ' H2 M2 (e.trans e2)
  | bk r h => exact fun σ' H2 M2 e2 => p σ' H2 M2 (e.trans e2)
  | ct r h => exact fun σ' H2 M2 e2 => p σ' H2 M2 (e.trans e2)
  | rt r h => exact fun σ' H2 M2 e2 => p σ' H2 M2 (e.trans e2)
  | exc a r h => exact fun c d σ' H2 M2 e2 => p c d σ' H2 M2 (e.trans e2)
  | stuck => exact p
def rdS (g : G) (Z : WX) (x : XS) : TS := fun D σ H => ∃ r h M fl, RS g H M σ r ∧ RH g H M fl h ∧ PoS g Z fl H M D (x r h)
end

/-! ### weaker readings -/
section
variable {X : Cx}
theorem PE.imp {e : Expr} {t t' : TE} (p : PE X e t) (f : ∀ σ H Q, t' σ H Q → t σ H Q) : PE X e t' := ⟨fun pins s σ H Q I h => p.run pins s σ H Q I (f σ H Q h)⟩
theorem PT.imp {e : Expr} {t t' : TT} (p : PT X e t) (f : ∀ σ H Q, t' σ H Q → t σ H Q) : PT X e t' := ⟨fun pins s σ H Q I h => p.run pins s σ H Q I (f σ H Q h)⟩
theorem PW.imp {e : Expr} {t t' : TT} (p : PW X e t) (f : ∀ σ H Q, t' σ H Q → t σ H Q) : PW X e t' := ⟨fun wh pins s σ H Q I h => p.run wh pins s σ H Q I (f σ H Q h)⟩
theorem PA.imp {e : List Expr} {t t' : TA} (p : PA X e t) (f : ∀ σ H Q, t' σ H Q → t σ H Q) : PA X e t' := ⟨fun pos pins s σ H Q I h => p.run pos pins s σ H Q I (f σ H Q h)⟩
theorem PS.imp {e : Stmt} {t t' : TS} (p : PS X e t) (f : ∀ D σ H, t' D σ H → t D σ H) : PS X e t' := ⟨fun pins s σ H D I h => p.run pins s σ H D I (f D σ H h)⟩
theorem PSs.imp {e : List Stmt} {t t' : TS} (p : PSs X e t) (f : ∀ D σ H, t' D σ H → t D σ H) : PSs X e t' := ⟨fun pins s σ H D I h => p.run pins s σ H D I (f D σ H h)⟩
end

/-! ### expressions -/
@[simp] def xVar (i : Nat) : XE := fun r h => match r[i]? with
  | some (some w) => .ok w h
  | _ => .stuck
@[simp] def xC (x : D) : XE := fun _ h => .ok (.d x) h
@[simp] def xBin (f : W → W → Sto → Re W) (a b : XE) : XE := fun r h => (a r h).bind fun x h1 => (b r h1).bind fun y h2 => f x y h2
@[simp] def xUn (f : W → Sto → Re W) (a : XE) : XE := fun r h => (a r h).bind fun x h1 => f x h1
@[simp] def xNil : XA := fun _ h => .ok [] h
@[simp] def xCons (a : XE) (b : XA) : XA := fun r h => (a r h).bind fun x h1 => (b r h1).bind fun y h2 => .ok (x :: y) h2
@[simp] def xApp (f : List W → Sto → Re W) (a : XA) : XE := fun r h => (a r h).bind fun x h1 => f x h1
@[simp] def xTest (a : XE) : XT := fun r h => (a r h).bind fun x h1 => match x with
  | .d (.bl b) => .ok b h1
  | _ => .stuck
@[simp] def xIf (c : XT) (a b : XE) : XE := fun r h => (c r h).bind fun t h1 => if t = true then a r h1 else b r h1
@[simp] def xAnd (c d : XT) : XT := fun r h => (c r h).bind fun t h1 => if t = true then d r h1 else .ok false h1
@[simp] def xOr (c d : XT) : XT := fun r h => (c r h).bind fun t h1 => if t = true then .ok true h1 else d r h1
@[simp] def xNot (c : XT) : XT := fun r h => (c r h).bind fun t h1 => .ok (!t) h1
section
variable {X : Cx} {g : G} {Z : WX} {a b c : Expr} {xa xb xc : XE} {pos : Pos}
/-- the values' rule of a two-place operation -/
def Op2 (X : Cx) (g : G) (Z : WX) (f : Value → Value → Sem Value) (F : W → W → Sto → Re W) : Prop :=
  ∃ r, OpR X f r ∧ ∀ {σ : L2.St} {H : Hp} {M : Mu} {fl : List Nat} {h : Sto} {v u : V} {x y : W} {Q : VK}, RH g H M fl h → RW g H M v x → RW g H M u y → Po g Z σ fl (RW g) H M Q (F x y h) → r v u H Q
theorem se_var {i : Nat} {x : Str} (hN : X.N[i]? = some x := by rfl) (hv : Vis X.env.scope x := by first | exact Or.inl rfl | exact Or.inr (Or.inl rfl) | exact Or.inr (Or.inr rfl))
    (hd : (x == ("__debug__" : Str)) = false := by decide) (hcd : (x == ("__classdict__" : Str)) = false := by decide) : PE X (.Name x pos) (rdE g Z (xVar i)) := by
  refine PE.imp (pe_var hN hv hd hcd) fun σ H Q ⟨r, h, M, fl, rs, rh, p⟩ => ?_
  simp only [xVar] at p
  cases e : r[i]? with
  | none => rw [e] at p; exact p.elim
  | some o =>
    rw [e] at p
    cases o with
    | none => exact p.elim
    | some w =>
      obtain ⟨v, e1, rw1⟩ := rs.ev i w e
      exact ⟨v, e1, p v H M (Ext.refl H M) rh rw1⟩
theorem se_of {v : V} {x : D} (p : PE X a (tC v)) (rx : ∀ H B, RD g H B v x) : PE X a (rdE g Z (xC x)) :=
  PE.imp p fun σ H Q ⟨r, h, M, fl, rs, rh, p⟩ => p v H M (Ext.refl H M) rh (.d (rx H M.B))
theorem se_int {i : Int} {j} : PE X (.Constant (.int i) j pos) (rdE g Z (xC (.int i))) := se_of pe_int fun _ _ => .int i
theorem se_bl {i : Bool} {j} : PE X (.Constant (.bool i) j pos) (rdE g Z (xC (.bl i))) := se_of pe_bl fun _ _ => .bl i
theorem se_str {i : Str} {j} (h : PyData.strOk i = true := by decide +kernel) : PE X (.Constant (.str i) j pos) (rdE g Z (xC (.str i))) := se_of pe_str fun _ _ => .str i h
theorem se_non {j} : PE X (.Constant .none j pos) (rdE g Z (xC .non)) := se_of pe_non fun _ _ => .non
/-- two in a row -/
theorem rd_bin {r2 : R2} {F : W → W → Sto → Re W} (k : ∀ {σ : L2.St} {H : Hp} {M : Mu} {fl : List Nat} {h : Sto} {v u : V} {x y : W} {Q : VK}, RH g H M fl h → RW g H M v x → RW g H M u y → Po g Z σ fl (RW g) H M Q (F x y h) → r2 v u H Q)
    (σ : L2.St) (H : Hp) (Q : VK) : rdE g Z (xBin F xa xb) σ H Q → tOp r2 (rdE g Z xa) (rdE g Z xb) σ H Q := fun ⟨r, h, M, fl, rs, rh, p⟩ =>
  ⟨r, h, M, fl, rs, rh, Po.bind p fun x h1 v H1 M1 e1 rh1 rx p1 => ⟨r, h1, M1, fl, rs.mono e1 rh.sub, rh1, Po.bind p1 fun y h2 u H2 M2 e2 rh2 ry p2 => k rh2 (rx.mono e2 rh1.sub) ry p2⟩⟩
theorem se_bin {op : Operator} {F : W → W → Sto → Re W} (o : Op2 X g Z (binaryOp op) F) (ha : PE X a (rdE g Z xa)) (hb : PE X b (rdE g Z xb)) : PE X (.BinOp a op b pos) (rdE g Z (xBin F xa xb)) := by
  obtain ⟨r, ho, k⟩ := o
  exact PE.imp (pe_op ho ha hb) (rd_bin k)
theorem se_cmp {op : CmpOp} {F : W → W → Sto → Re W} (o : Op2 X g Z (compareOp op) F) (ha : PE X a (rdE g Z xa)) (hb : PE X b (rdE g Z xb)) (hm : behindInMarks op b = false := by first | exact nomark _ | rfl) :
    PE X (.Compare a [op] [b] pos) (rdE g Z (xBin F xa xb)) := by
  obtain ⟨r, ho, k⟩ := o
  exact PE.imp (pe_cmpR ho ha hb hm) (rd_bin k)
theorem rd_test (σ : L2.St) (H : Hp) (Q : Bool → Hp → Prop) : rdT g Z (xTest xa) σ H Q → tTest (rdE g Z xa) σ H Q := fun ⟨r, h, M, fl, rs, rh, p⟩ =>
  ⟨r, h, M, fl, rs, rh, Po.bind p fun x h1 v H1 M1 e1 rh1 rx p1 => by
    cases rx with
    | l _ => exact p1.elim
    | f _ _ => exact p1.elim
    | s _ _ => exact p1.elim
    | t => exact p1.elim
    | ty => exact p1.elim
    | fn _ => exact p1.elim
    | x _ _ _ _ _ => exact p1.elim
    | x0 _ _ => exact p1.elim
    | d rx => cases rx <;> first | exact ⟨_, rfl, p1 _ H1 M1 (Ext.refl H1 M1) rh1 rfl⟩ | exact False.elim p1⟩
theorem st_cmp {op : CmpOp} {F : W → W → Sto → Re W} (o : Op2 X g Z (compareOp op) F) (ha : PE X a (rdE g Z xa)) (hb : PE X b (rdE g Z xb)) (hm : behindInMarks op b = false := by first | exact nomark _ | rfl) :
    PT X (.Compare a [op] [b] pos) (rdT g Z (xTest (xBin F xa xb))) := by
  obtain ⟨r, ho, k⟩ := o
  exact PT.imp (pt_cmpR ho ha hb hm) fun σ H Q q => by
    obtain ⟨r0, h, M, fl, rs, rh, p⟩ := rd_test σ H Q q
    exact rd_bin k σ H _ ⟨r0, h, M, fl, rs, rh, p⟩
/-- a value that is a bool, as a test -/
theorem st_val (h : PE X a (rdE g Z xa)) (he : ∀ whole, isTrue a X.env whole = (do let v ← whole; standAt a.pos; holding [v] (truthy v)) := by intro _; rfl) : PT X a (rdT g Z (xTest xa)) :=
  PT.imp (pt_val h he) fun σ H Q q => rd_test σ H Q q
theorem rd_and {t u : XT} (σ : L2.St) (H : Hp) (Q : Bool → Hp → Prop) : rdT g Z (xAnd t u) σ H Q → tAnd (rdT g Z t) (rdT g Z u) σ H Q := fun ⟨r, h, M, fl, rs, rh, p⟩ =>
  ⟨r, h, M, fl, rs, rh, Po.bind p fun x h1 v H1 M1 e1 rh1 rx p1 => by
    have rx : v = x := rx
    subst rx
    cases v with
    | true => exact ⟨r, h1, M1, fl, rs.mono e1 rh.sub, rh1, p1⟩
    | false => exact p1 _ H1 M1 (Ext.refl H1 M1) rh1 rfl⟩
theorem rd_or {t u : XT} (σ : L2.St) (H : Hp) (Q : Bool → Hp → Prop) : rdT g Z (xOr t u) σ H Q → tOr (rdT g Z t) (rdT g Z u) σ H Q := fun ⟨r, h, M, fl, rs, rh, p⟩ =>
  ⟨r, h, M, fl, rs, rh, Po.bind p fun x h1 v H1 M1 e1 rh1 rx p1 => by
    have rx : v = x := rx
    subst rx
    cases v with
    | false => exact ⟨r, h1, M1, fl, rs.mono e1 rh.sub, rh1, p1⟩
    | true => exact p1 _ H1 M1 (Ext.refl H1 M1) rh1 rfl⟩
theorem sw_and1 {t : XT} (ha : PT X a (rdT g Z t)) : PW X (.BoolOp .And [a] pos) (rdT g Z t) := pw_and1 ha
theorem sw_or1 {t : XT} (ha : PT X a (rdT g Z t)) : PW X (.BoolOp .Or [a] pos) (rdT g Z t) := pw_or1 ha
theorem sw_and {t u : XT} {rest : List Expr} (ha : PT X a (rdT g Z t)) (hb : PW X (.BoolOp .And (b :: rest) pos) (rdT g Z u)) : PW X (.BoolOp .And (a :: b :: rest) pos) (rdT g Z (xAnd t u)) := PW.imp (pw_and ha hb) rd_and
theorem sw_or {t u : XT} {rest : List Expr} (ha : PT X a (rdT g Z t)) (hb : PW X (.BoolOp .Or (b :: rest) pos) (rdT g Z u)) : PW X (.BoolOp .Or (a :: b :: rest) pos) (rdT g Z (xOr t u)) := PW.imp (pw_or ha hb) rd_or
theorem st_w {t : XT} (h : PW X a (rdT g Z t)) : PT X a (rdT g Z t) := h.pt
theorem st_not {t : XT} (ha : PT X a (rdT g Z t)) : PT X (.UnaryOp .Not a pos) (rdT g Z (xNot t)) :=
  PT.imp (pt_not ha) fun σ H Q ⟨r, h, M, fl, rs, rh, p⟩ => ⟨r, h, M, fl, rs, rh, Po.bind p fun x h1 v H1 M1 e1 rh1 rx p1 => by
    have rx : v = x := rx
    subst rx
    exact p1 _ H1 M1 (Ext.refl H1 M1) rh1 rfl⟩
theorem se_if {t : XT} (hc : PT X c (rdT g Z t)) (ha : PE X a (rdE g Z xa)) (hb : PE X b (rdE g Z xb)) : PE X (.IfExp c a b pos) (rdE g Z (xIf t xa xb)) :=
  PE.imp (pe_ifExp hc ha hb) fun σ H Q ⟨r, h, M, fl, rs, rh, p⟩ => ⟨r, h, M, fl, rs, rh, Po.bind p fun x h1 v H1 M1 e1 rh1 rx p1 => by
    have rx : v = x := rx
    subst rx
    cases v with
    | true => exact ⟨r, h1, M1, fl, rs.mono e1 rh.sub, rh1, p1⟩
    | false => exact ⟨r, h1, M1, fl, rs.mono e1 rh.sub, rh1, p1⟩⟩
/-- and, or, not as values -/
@[simp] def xAndV (a b : XE) : XE := fun r h => (a r h).bind fun x h1 => match x with
  | .d (.bl true) => b r h1
  | .d (.bl false) => .ok (.d (.bl false)) h1
  | _ => .stuck
@[simp] def xOrV (a b : XE) : XE := fun r h => (a r h).bind fun x h1 => match x with
  | .d (.bl true) => .ok (.d (.bl true)) h1
  | .d (.bl false) => b r h1
  | _ => .stuck
@[simp] def xNotV (a : XE) : XE := fun r h => (a r h).bind fun x h1 => match x with
  | .d (.bl b) => .ok (.d (.bl (!b))) h1
  | _ => .stuck
theorem se_one {op} (h : PE X a (rdE g Z xa)) : PE X (.BoolOp op [a] pos) (rdE g Z xa) := pe_one h
theorem se_and {rest : List Expr} (ha : PE X a (rdE g Z xa)) (hb : PE X (.BoolOp .And (b :: rest) pos) (rdE g Z xb)) : PE X (.BoolOp .And (a :: b :: rest) pos) (rdE g Z (xAndV xa xb)) :=
  PE.imp (pe_and ha hb) fun σ H Q ⟨r, h, M, fl, rs, rh, p⟩ => ⟨r, h, M, fl, rs, rh, Po.bind p fun x h1 v H1 M1 e1 rh1 rx p1 => by
    cases rx with
    | l _ => exact p1.elim
    | f _ _ => exact p1.elim
    | s _ _ => exact p1.elim
    | t => exact p1.elim
    | ty => exact p1.elim
    | fn _ => exact p1.elim
    | x _ _ _ _ _ => exact p1.elim
    | x0 _ _ => exact p1.elim
    | d rx =>
      cases rx <;> first | exact False.elim p1 | skip
      rename_i b
      refine ⟨b, rfl, ?_⟩
      cases b with
      | true => exact ⟨r, h1, M1, fl, rs.mono e1 rh.sub, rh1, p1⟩
      | false => exact p1 _ H1 M1 (Ext.refl H1 M1) rh1 (.d (.bl false))⟩
theorem se_or {rest : List Expr} (ha : PE X a (rdE g Z xa)) (hb : PE X (.BoolOp .Or (b :: rest) pos) (rdE g Z xb)) : PE X (.BoolOp .Or (a :: b :: rest) pos) (rdE g Z (xOrV xa xb)) :=
  PE.imp (pe_or ha hb) fun σ H Q ⟨r, h, M, fl, rs, rh, p⟩ => ⟨r, h, M, fl, rs, rh, Po.bind p fun x h1 v H1 M1 e1 rh1 rx p1 => by
    cases rx with
    | l _ => exact p1.elim
    | f _ _ => exact p1.elim
    | s _ _ => exact p1.elim
    | t => exact p1.elim
    | ty => exact p1.elim
    | fn _ => exact p1.elim
    | x _ _ _ _ _ => exact p1.elim
    | x0 _ _ => exact p1.elim
    | d rx =>
      cases rx <;> first | exact False.elim p1 | skip
      rename_i b
      refine ⟨b, rfl, ?_⟩
      cases b with
      | false => exact ⟨r, h1, M1, fl, rs.mono e1 rh.sub, rh1, p1⟩
      | true => exact p1 _ H1 M1 (Ext.refl H1 M1) rh1 (.d (.bl true))⟩
theorem se_not (ha : PE X a (rdE g Z xa)) : PE X (.UnaryOp .Not a pos) (rdE g Z (xNotV xa)) :=
  PE.imp (pe_not ha) fun σ H Q ⟨r, h, M, fl, rs, rh, p⟩ => ⟨r, h, M, fl, rs, rh, Po.bind p fun x h1 v H1 M1 e1 rh1 rx p1 => by
    cases rx with
    | l _ => exact p1.elim
    | f _ _ => exact p1.elim
    | s _ _ => exact p1.elim
    | t => exact p1.elim
    | ty => exact p1.elim
    | fn _ => exact p1.elim
    | x _ _ _ _ _ => exact p1.elim
    | x0 _ _ => exact p1.elim
    | d rx =>
      cases rx <;> first | exact False.elim p1 | skip
      exact ⟨_, rfl, p1 _ H1 M1 (Ext.refl H1 M1) rh1 (.d (.bl _))⟩⟩
theorem sa_nil : PA X [] (rdA g Z xNil) := PA.imp pa_nil fun σ H Q ⟨r, h, M, fl, rs, rh, p⟩ => p [] H M (Ext.refl H M) rh .nil
theorem sa_cons {e : Expr} {es : List Expr} {ta : XA} (ha : PE X e (rdE g Z xa)) (hr : PA X es (rdA g Z ta)) (hs : starEach (e :: es) X.env = (false, eval e X.env) :: starEach es X.env := by rfl) : PA X (e :: es) (rdA g Z (xCons xa ta)) :=
  PA.imp (pa_cons ha hr hs) fun σ H Q ⟨r, h, M, fl, rs, rh, p⟩ => ⟨r, h, M, fl, rs, rh, Po.bind p fun x h1 v H1 M1 e1 rh1 rx p1 => ⟨r, h1, M1, fl, rs.mono e1 rh.sub, rh1, Po.bind p1 fun y h2 u H2 M2 e2 rh2 ry p2 =>
    p2 (v :: u) H2 M2 (Ext.refl H2 M2) rh2 (.cons (rx.mono e2 rh1.sub) ry)⟩⟩
/-- the values' rule of a call -/
def Fn1 (X : Cx) (g : G) (Z : WX) (f : Value) (F : List W → Sto → Re W) : Prop :=
  ∃ r, CallR X f r ∧ ∀ {σ : L2.St} {H : Hp} {M : Mu} {fl : List Nat} {h : Sto} {vs : List V} {ws : List W} {Q : VK}, RH g H M fl h → RWs g H M vs ws → Po g Z σ fl (RW g) H M Q (F ws h) → r vs H Q
theorem rd_app {ta : XA} {t2 : List V → Hp → VK → Prop} {F : List W → Sto → Re W} (k : ∀ {σ : L2.St} {H : Hp} {M : Mu} {fl : List Nat} {h : Sto} {vs : List V} {ws : List W} {Q : VK}, RH g H M fl h → RWs g H M vs ws → Po g Z σ fl (RW g) H M Q (F ws h) → t2 vs H Q)
    (σ : L2.St) (H : Hp) (Q : VK) : rdE g Z (xApp F ta) σ H Q → tCB t2 (rdA g Z ta) σ H Q := fun ⟨r, h, M, fl, rs, rh, p⟩ =>
  ⟨r, h, M, fl, rs, rh, Po.bind p fun x h1 v H1 M1 e1 rh1 rx p1 => k rh1 rx p1⟩
theorem se_callB {id : String} {x : Str} {p : Pos} {e : Expr} {es : List Expr} {ta : XA} {F : List W → Sto → Re W} (o : Fn1 X g Z (.builtin id) F) (ha : PA X (e :: es) (rdA g Z ta)) (hm : X.mg x = none) (hv : bootBuiltins x = some (.builtin id))
    (hg : Gl X x := by rfl) (hn : x ≠ "__name__" := by decide) (hdb : (x == ("__debug__" : Str)) = false := by decide)
    (he : starEach (e :: es) X.env = (false, eval e X.env) :: starEach es X.env := by rfl) (hpl : (backTo pos (starEach es X.env)).any (·.1) = false := by rfl) : PE X (.Call (.Name x p) (e :: es) [] pos) (rdE g Z (xApp F ta)) := by
  obtain ⟨r, ho, k⟩ := o
  exact PE.imp (pe_callB ho hg hm hv ha hn hdb he hpl) (rd_app k)
theorem se_callTy {T : String} {x : Str} {p : Pos} {e : Expr} {es : List Expr} {ta : XA} {F : List W → Sto → Re W} (o : Fn1 X g Z (.type T) F) (ha : PA X (e :: es) (rdA g Z ta)) (hm : X.mg x = none) (hv : bootBuiltins x = some (.type T))
    (hg : Gl X x := by rfl) (hn : x ≠ "__name__" := by decide) (hdb : (x == ("__debug__" : Str)) = false := by decide)
    (he : starEach (e :: es) X.env = (false, eval e X.env) :: starEach es X.env := by rfl) (hpl : (backTo pos (starEach es X.env)).any (·.1) = false := by rfl) : PE X (.Call (.Name x p) (e :: es) [] pos) (rdE g Z (xApp F ta)) := by
  obtain ⟨r, ho, k⟩ := o
  exact PE.imp (pe_callTy ho hg hm hv ha hn hdb he hpl) (rd_app k)
end

/-! ### statements -/
@[simp] def Fl.seq (x : Fl) (k : Env → Sto → Fl) : Fl := match x with
  | .nx r h => k r h
  | .rt w h => .rt w h
  | .bk r h => .bk r h
  | .ct r h => .ct r h
  | .exc e r h => .exc e r h
  | .stuck => .stuck
@[simp] def Re.then {α : Type} (x : Re α) (r : Env) (k : α → Sto → Fl) : Fl := match x with
  | .ok a h => k a h
  | .exc e h => .exc e r h
  | .stuck => .stuck
@[simp] def sSkip : XS := fun r h => .nx r h
@[simp] def sSeq (a b : XS) : XS := fun r h => (a r h).seq b
@[simp] def sDrop (a : XE) : XS := fun r h => (a r h).then r fun _ h1 => .nx r h1
@[simp] def sRet (a : XE) : XS := fun r h => (a r h).then r fun w h1 => .rt w h1
@[simp] def sRetN : XS := fun r h => .rt (.d .non) h
@[simp] def sIf (c : XT) (a b : XS) : XS := fun r h => (c r h).then r fun t h1 => if t = true then a r h1 else b r h1
@[simp] def sSet (i : Nat) (a : XE) : XS := fun r h => (a r h).then r fun w h1 => .nx (r.set i (some w)) h1
@[simp] def sBrk : XS := fun r h => .bk r h
@[simp] def sCont : XS := fun r h => .ct r h
section
variable {X : Cx} {g : G} {Z : WX} {a b c : Expr} {xa xb xc : XE} {pos : Pos} {st : Stmt} {rest : List Stmt} {u u' : XS}
theorem Po.then {α β : Type} {R : Hp → Mu → β → α → Prop} {σ : L2.St} {fl : List Nat} {H : Hp} {M : Mu} {D : Ends} {r : Env} {Q1 : β → Hp → Prop} {x : Re α} {k : α → Sto → Fl} (rs : RS g H M σ r) (sb : Sub M) (p : PoS g Z fl H M D (x.then r k))
    (f : ∀ a h1 v H1 M1, Ext H M H1 M1 → RS g H1 M1 σ r → RH g H1 M1 fl h1 → R H1 M1 v a → PoS g Z fl H1 M1 D (k a h1) → Q1 v H1) : Po g Z σ fl R H M Q1 x := by
  cases x with
  | ok a h => exact fun v H1 M1 e rh rv => f a h v H1 M1 e (rs.mono e sb) rh rv (PoS.ext e p)
  | exc a h => exact fun c d H1 M1 e rh rx => p c d σ H1 M1 e (rs.mono e sb) rh rx
  | stuck => exact p
theorem sss_nil : PSs X [] (rdS g Z sSkip) := PSs.imp pss_nil fun D σ H ⟨r, h, M, fl, rs, rh, p⟩ => p σ H M (Ext.refl H M) rs rh
theorem sss_one (h1 : PS X st (rdS g Z u)) : PSs X [st] (rdS g Z u) := pss_one h1
theorem sss_cons (h1 : PS X st (rdS g Z u)) (h2 : PSs X rest (rdS g Z u')) : PSs X (st :: rest) (rdS g Z (sSeq u u')) :=
  PSs.imp (pss_cons h1 h2) fun D σ H ⟨r, h, M, fl, rs, rh, p⟩ => ⟨r, h, M, fl, rs, rh, by
    have p : PoS g Z fl H M D ((u r h).seq u') := p
    cases e : u r h with
    | nx r1 h1 =>
      rw [e] at p
      exact fun σ1 H1 M1 e1 rs1 rh1 => ⟨r1, h1, M1, fl, rs1, rh1, PoS.ext e1 p⟩
    | rt w h1 => rw [e] at p; exact p
    | bk w h1 => rw [e] at p; exact p
    | ct w h1 => rw [e] at p; exact p
    | exc w r1 h1 => rw [e] at p; exact p
    | stuck => rw [e] at p; exact p⟩
theorem ss_expr (he : PE X a (rdE g Z xa)) (hs : swapsWith a none pos.line X.env = pure false := by rfl) : PS X (.Expr a pos) (rdS g Z (sDrop xa)) :=
  PS.imp (ps_expr he hs) fun D σ H ⟨r, h, M, fl, rs, rh, p⟩ => ⟨r, h, M, fl, rs, rh, Po.then rs rh.sub p fun x h1 v H1 M1 e1 rs1 rh1 rx p1 => p1 σ H1 M1 (Ext.refl H1 M1) rs1 rh1⟩
theorem ss_ret (he : PE X a (rdE g Z xa)) : PS X (.Return (some a) pos) (rdS g Z (sRet xa)) :=
  PS.imp (ps_ret he) fun D σ H ⟨r, h, M, fl, rs, rh, p⟩ => ⟨r, h, M, fl, rs, rh, Po.then rs rh.sub p fun x h1 v H1 M1 e1 rs1 rh1 rx p1 => p1 v H1 M1 (Ext.refl H1 M1) rh1 rx⟩
theorem ss_retN : PS X (.Return none pos) (rdS g Z sRetN) :=
  PS.imp ps_retN fun D σ H ⟨r, h, M, fl, rs, rh, p⟩ => p .non H M (Ext.refl H M) rh (.d .non)
theorem ss_if {t : XT} {A B : List Stmt} (hc : PT X c (rdT g Z t)) (ha : PSs X A (rdS g Z u)) (hb : PSs X B (rdS g Z u')) : PS X (.If c A B pos) (rdS g Z (sIf t u u')) :=
  PS.imp (ps_if hc ha hb) fun D σ H ⟨r, h, M, fl, rs, rh, p⟩ => ⟨r, h, M, fl, rs, rh, Po.then rs rh.sub p fun x h1 v H1 M1 e1 rs1 rh1 rx p1 => by
    have rx : v = x := rx
    subst rx
    cases v with
    | true => exact ⟨r, h1, M1, fl, rs1, rh1, p1⟩
    | false => exact ⟨r, h1, M1, fl, rs1, rh1, p1⟩⟩
theorem ss_set {i : Nat} {x : Str} {pos' : Pos} (hN : X.N.Nodup) (he : PE X a (rdE g Z xa)) (hi : X.N[i]? = some x := by rfl) (hx : Loc X.env.scope x := by first | exact Or.inl rfl | exact Or.inr rfl) (hs : swapsWith a (some (.Name x pos')) pos.line X.env = pure false := by rfl)
    (hf : X.fn x = true ∨ X.env.scope.names.lookup x = some .local := by first | exact .inl rfl | exact .inr rfl) : PS X (.Assign [.Name x pos'] a pos) (rdS g Z (sSet i xa)) :=
  PS.imp (ps_set hN hi hx he hs hf) fun D σ H ⟨r, h, M, fl, rs, rh, p⟩ => ⟨r, h, M, fl, rs, rh, Po.then rs rh.sub p fun x h1 v H1 M1 e1 rs1 rh1 rx p1 => p1 _ H1 M1 (Ext.refl H1 M1) (rs1.set rx) rh1⟩
theorem ss_doc {x : Str} {j pos'} : PS X (.Expr (.Constant (.str x) j pos) pos') (rdS g Z sSkip) := PS.imp ps_doc fun D σ H ⟨r, h, M, fl, rs, rh, p⟩ => p σ H M (Ext.refl H M) rs rh
theorem ss_pass : PS X (.Pass pos) (rdS g Z sSkip) := PS.imp ps_pass fun D σ H ⟨r, h, M, fl, rs, rh, p⟩ => p σ H M (Ext.refl H M) rs rh
theorem ss_break : PS X (.Break pos) (rdS g Z sBrk) := PS.imp ps_break fun D σ H ⟨r, h, M, fl, rs, rh, p⟩ => p σ H M (Ext.refl H M) rs rh
theorem ss_continue : PS X (.Continue pos) (rdS g Z sCont) := PS.imp ps_continue fun D σ H ⟨r, h, M, fl, rs, rh, p⟩ => p σ H M (Ext.refl H M) rs rh
end
end
end Xs

/-! XsC: loops. -/
namespace Xs
noncomputable section
open PySem PySem.Spec PyProof.Rows L2
/-- what is walked: from the turn and the store, an item, the end, or nothing -/
abbrev Nxt := Nat → Sto → Option (Option W)
abbrev XI := Env → Sto → Re (Nat × Nxt)
abbrev XG := W → Env → Option Env
/-- a walk of the machine that goes as nxt says -/
def ItOk (g : G) (J : It) (n : Nxt) (H0 : Hp) (M0 : Mu) : Prop := ∀ fl i H M h, Ext H0 M0 H M → RH g H M fl h → (n i h = some none → J.stop i H) ∧
  (∀ w, n i h = some (some w) → J.go i H ∧ ∀ x H', J.yld i H x H' → ∃ M', Ext H M H' M' ∧ RH g H' M' fl h ∧ RW g H' M' x w)
abbrev RI (g : G) : Hp → Mu → It → Nat × Nxt → Prop := fun H M J p => ItOk g J p.2 H M
abbrev rdI (g : G) (Z : WX) (x : XI) : TI := rd g Z (RI g) x
def forLoop (nxt : Nxt) (tg : XG) (body : XS) : Nat → Nat → XS
  | 0, _, _, _ => .stuck
  | n + 1, i, r, h => match nxt i h with
    | none => .stuck
    | some none => .nx r h
    | some (some w) => match tg w r with
      | none => .stuck
      | some r1 => match body r1 h with
        | .nx r2 h2 => forLoop nxt tg body n (i + 1) r2 h2
        | .ct r2 h2 => forLoop nxt tg body n (i + 1) r2 h2
        | .bk r2 h2 => .nx r2 h2
        | .rt w h2 => .rt w h2
        | .exc e r2 h2 => .exc e r2 h2
        | .stuck => .stuck
def sFor (src : XI) (tg : XG) (body : XS) : XS := fun r h => (src r h).then r fun p h1 => forLoop p.2 tg body p.1 0 r h1
/-- a target of names alone, those at the places own -/
def rdG (g : G) (own : List Nat) (x : XG) : TG := fun v σ H Q => ∃ r h M fl w, RS g H M σ r ∧ RH g H M fl h ∧ RW g H M v w ∧ ∃ r', x w r = some r' ∧ ∀ σ', RS g H M σ' r' → wipe σ' own = wipe σ own → Q σ' H
def rdGs (g : G) (own : List Nat) (x : List W → Env → Option Env) : TGs := fun vs σ H Q => ∃ r h M fl ws, RS g H M σ r ∧ RH g H M fl h ∧ RWs g H M vs ws ∧ ∃ r', x ws r = some r' ∧ ∀ σ', RS g H M σ' r' → wipe σ' own = wipe σ own → Q σ' H
theorem wipe_comm {σ : L2.St} {o : Option V} {i : Nat} : ∀ {own : List Nat}, (∀ j ∈ own, j ≠ i) → wipe (σ.set i o) own = (wipe σ own).set i o
  | [], _ => rfl
  | j :: own, h => by
    show (wipe (σ.set i o) own).set j none = ((wipe σ own).set j none).set i o
    rw [wipe_comm fun k hk => h k (List.mem_cons_of_mem _ hk)]
    exact List.set_comm _ _ (Ne.symm (h j List.mem_cons_self))
theorem wipe_set {σ : L2.St} {o : Option V} {i : Nat} : ∀ {own : List Nat}, i ∈ own → wipe (σ.set i o) own = wipe σ own
  | j :: own, h => by
    show (wipe (σ.set i o) own).set j none = (wipe σ own).set j none
    by_cases hi : i ∈ own
    · rw [wipe_set hi]
    · have e : i = j := (List.mem_cons.mp h).elim id fun z => absurd z hi
      subst e
      rw [wipe_comm fun k hk z => hi (by rw [← z]; exact hk), List.set_set]
@[simp] def gN (i : Nat) : XG := fun w r => some (r.set i (some w))
@[simp] def gsNil : List W → Env → Option Env := fun ws r => match ws with
  | [] => some r
  | _ => none
@[simp] def gsCons (a : XG) (b : List W → Env → Option Env) : List W → Env → Option Env := fun ws r => match ws with
  | w :: rest => match a w r with
    | some r1 => b rest r1
    | none => none
  | [] => none
@[simp] def gT (n : Nat) (b : List W → Env → Option Env) : XG := fun w r => match w with
  | .d (.tup ds) => if ds.length = n then b (ds.map .d) r else none
  | _ => none
section
variable {X : Cx} {g : G} {Z : WX} {tg it : Expr} {pos : Pos} {H : Hp} {M : Mu}
theorem PG.imp {t t' : TG} (p : PG X tg t) (f : ∀ v σ H Q, t' v σ H Q → t v σ H Q) : PG X tg t' := ⟨fun pins s σ H v u Q I r h => p.run pins s σ H v u Q I r (f v σ H Q h)⟩
theorem PGs.imp {es : List Expr} {t t' : TGs} (p : PGs X es t) (f : ∀ v σ H Q, t' v σ H Q → t v σ H Q) : PGs X es t' := ⟨fun pins s σ H v u Q I r h => p.run pins s σ H v u Q I r (f v σ H Q h)⟩
theorem PI.imp {t t' : TI} (p : PI X tg it t) (f : ∀ σ H Q, t' σ H Q → t σ H Q) : PI X tg it t' := ⟨fun pins s σ H Q I h => p.run pins s σ H Q I (f σ H Q h)⟩
theorem RDs.toW {vs : List V} {ds : List D} : RDs g H M.B vs ds → RWs g H M vs (ds.map .d)
  | .nil => .nil
  | .cons a b => .cons (.d a) (RDs.toW b)
theorem RDs.len {B : Addr → Prop} {vs : List V} {ds : List D} : RDs g H B vs ds → vs.length = ds.length
  | .nil => rfl
  | .cons a b => congrArg (· + 1) (RDs.len b)
theorem RDs.get {B : Addr → Prop} : ∀ {vs : List V} {ds : List D} {i : Nat} {d : D}, RDs g H B vs ds → ds[i]? = some d → ∃ v, vs[i]? = some v ∧ RD g H B v d
  | _, _, 0, d, .cons a b, e => by simp at e; subst e; exact ⟨_, rfl, a⟩
  | _, _, i + 1, d, .cons a b, e => by simpa using RDs.get b (i := i) (by simpa using e)
theorem RWs.get {vs : List V} {ws : List W} {i : Nat} {w : W} : RWs g H M vs ws → ws[i]? = some w → ∃ v, vs[i]? = some v ∧ RW g H M v w := fun q e => by
  induction q generalizing i with
  | nil => simp at e
  | cons a b ih =>
    cases i with
    | zero => simp at e; subst e; exact ⟨_, rfl, a⟩
    | succ i => simpa using ih (by simpa using e)
theorem _root_.Xs.RW.tup_inv {v : V} {ds : List D} (q : RW g H M v (.d (.tup ds))) : ∃ a xs, v = .ref a ∧ SqT g.K H a xs ∧ RDs g H M.B xs ds := by
  cases q with
  | d q => cases q with
    | tup h1 h2 => exact ⟨_, _, rfl, h1, h2⟩
theorem _root_.Xs.RW.lst_inv {v : V} {ds : List D} (q : RW g H M v (.d (.lst ds))) : ∃ a xs, v = .ref a ∧ FzL H M.B a xs ∧ RDs g H M.B xs ds := by
  cases q with
  | d q => cases q with
    | lst h1 h2 => exact ⟨_, _, rfl, h1, h2⟩
theorem _root_.Xs.RW.s_inv {v : V} {ds : List D} (q : RW g H M v (.s ds)) : ∃ a xs, v = .ref a ∧ FzS g.K H a xs ∧ RDs g H M.B xs ds := by
  cases q with
  | s h1 h2 => exact ⟨_, _, rfl, h1, h2⟩
theorem _root_.Xs.RW.f_inv {v : V} {ds : List (Key × D)} (q : RW g H M v (.f ds)) : ∃ a xs, v = .ref a ∧ FzD H M.B a xs ∧ RDk g H M.B xs ds := by
  cases q with
  | f h1 h2 => exact ⟨_, _, rfl, h1, h2⟩
theorem _root_.Xs.RW.int_inv {v : V} {i : Int} (q : RW g H M v (.d (.int i))) : v = .int i := by
  cases q with
  | d q => cases q; rfl
theorem _root_.Xs.RW.bl_inv {v : V} {i : Bool} (q : RW g H M v (.d (.bl i))) : v = .bl i := by
  cases q with
  | d q => cases q; rfl
theorem _root_.Xs.RW.str_inv {v : V} {i : Str} (q : RW g H M v (.d (.str i))) : v = .str i ∧ PyData.strOk i = true := by
  cases q with
  | d q => cases q with
    | str _ h => exact ⟨rfl, h⟩
theorem _root_.Xs.RW.non_inv {v : V} (q : RW g H M v (.d .non)) : v = .non := by
  cases q with
  | d q => cases q; rfl
theorem _root_.Xs.RW.l_inv {v : V} {n : Nat} (q : RW g H M v (.l n)) : ∃ a, v = .ref a ∧ M.m[n]? = some a := by
  cases q with
  | l q => exact ⟨_, rfl, q⟩
/-- a list at a place -/
theorem _root_.Xs.RH.lst {fl : List Nat} {h : Sto} {n : Nat} {a : Addr} {ws : List W} (q : RH g H M fl h) (e : M.m[n]? = some a) (eo : h.o[n]? = some (.lst ws)) : ∃ vs, H a = some (.lst vs) ∧ RWs g H M vs ws := by
  obtain ⟨u, h1, h2⟩ := q.ev n a _ e eo
  cases u <;> first | exact False.elim h2 | exact ⟨_, h1, h2⟩
theorem _root_.Xs.RH.dct {fl : List Nat} {h : Sto} {n : Nat} {a : Addr} {ws : List (Key × W)} (q : RH g H M fl h) (e : M.m[n]? = some a) (eo : h.o[n]? = some (.dct ws)) : ∃ vs, H a = some (.dK vs) ∧ RWk g H M vs ws := by
  obtain ⟨u, h1, h2⟩ := q.ev n a _ e eo
  cases u <;> first | exact False.elim h2 | exact ⟨_, h1, h2⟩
theorem _root_.Xs.RH.ins {fl : List Nat} {h : Sto} {n : Nat} {a : Addr} {c : Str} {ws : List (Str × W)} (q : RH g H M fl h) (e : M.m[n]? = some a) (eo : h.o[n]? = some (.ins c ws)) : ∃ C dx vs, H a = some (.ins C dx vs) ∧ g.cm c = some C ∧ RWk g H M vs ws := by
  obtain ⟨u, h1, h2⟩ := q.ev n a _ e eo
  cases u <;> first | exact False.elim h2 | exact ⟨_, _, _, h1, h2⟩
theorem _root_.Xs.RWs.one {vs : List V} {w : W} (q : RWs g H M vs [w]) : ∃ v, vs = [v] ∧ RW g H M v w := by
  cases q with
  | cons a b =>
    cases b
    exact ⟨_, rfl, a⟩
theorem _root_.Xs.RWs.two {vs : List V} {w u : W} (q : RWs g H M vs [w, u]) : ∃ v z, vs = [v, z] ∧ RW g H M v w ∧ RW g H M z u := by
  cases q with
  | cons a b =>
    obtain ⟨z, rfl, c⟩ := RWs.one b
    exact ⟨_, _, rfl, a, c⟩
theorem _root_.Xs.RWs.three {vs : List V} {w u x : W} (q : RWs g H M vs [w, u, x]) : ∃ v z y, vs = [v, z, y] ∧ RW g H M v w ∧ RW g H M z u ∧ RW g H M y x := by
  cases q with
  | cons a b =>
    obtain ⟨z, y, rfl, c⟩ := RWs.two b
    exact ⟨_, _, _, rfl, a, c⟩
theorem sg_name {i : Nat} {own : List Nat} {x : Str} (hN : X.N.Nodup) (ho : i ∈ own := by decide) (hi : X.N[i]? = some x := by rfl) (hx : Loc X.env.scope x := by first | exact Or.inl rfl | exact Or.inr rfl) (hf : X.fn x = true ∨ X.env.scope.names.lookup x = some .local := by first | exact .inl rfl | exact .inr rfl) :
    PG X (.Name x pos) (rdG g own (gN i)) := PG.imp (pg_name hN hi hx hf) fun v σ H Q ⟨r, h, M, fl, w, rs, rh, rw1, r', e, q⟩ => q _ (by cases e; exact rs.set rw1) (wipe_set ho)
theorem sgs_nil {own : List Nat} : PGs X [] (rdGs g own gsNil) := PGs.imp pgs_nil fun vs σ H Q ⟨r, h, M, fl, ws, rs, rh, rw1, r', e, q⟩ => by
  cases ws with
  | nil =>
    cases rw1
    cases e
    exact ⟨rfl, q σ rs rfl⟩
  | cons _ _ => cases e
theorem sgs_cons {own : List Nat} {e : Expr} {es : List Expr} {a : XG} {b : List W → Env → Option Env} (h1 : PG X e (rdG g own a)) (h2 : PGs X es (rdGs g own b))
    (hs : (assignEach (e :: es) X.env).map (·.2) = assign e X.env :: (assignEach es X.env).map (·.2) := by rfl) : PGs X (e :: es) (rdGs g own (gsCons a b)) :=
  PGs.imp (pgs_cons h1 h2 hs) fun vs σ H Q ⟨r, h, M, fl, ws, rs, rh, rw1, r', e, q⟩ => by
    cases rw1 with
    | nil => cases e
    | @cons v w vs ws ra rb =>
      simp only [gsCons] at e
      cases e1 : a w r with
      | none => rw [e1] at e; cases e
      | some r1 =>
        rw [e1] at e
        exact ⟨v, vs, rfl, r, h, M, fl, w, rs, rh, ra, r1, e1, fun σ' rs' hw => ⟨r1, h, M, fl, ws, rs', rh, rb, r', e, fun σ2 rs2 hw2 => q σ2 rs2 (hw2.trans hw)⟩⟩
theorem sg_tup {own : List Nat} {es : List Expr} {k : Nat} {n : Nat} {b : List W → Env → Option Env} (hc : X.calm = true) (h : PGs X es (rdGs g own b))
    (hn : (assignEach es X.env).length = n := by rfl) (hst : (assignEach es X.env).findIdx? (·.1) = none := by rfl) (hK : X.K = g.K := by rfl) : PG X (.Tuple es k pos) (rdG g own (gT n b)) :=
  PG.imp (pg_tup hc h hn hst) fun v σ H Q ⟨r, h, M, fl, w, rs, rh, rw1, r', e, q⟩ => by
    cases w with
    | d x =>
      cases x with
      | tup ds =>
        obtain ⟨a, xs, rfl, ht, hd⟩ := rw1.tup_inv
        simp only [gT] at e
        by_cases hl : ds.length = n
        · rw [if_pos hl] at e
          exact ⟨a, xs, rfl, by rw [hK]; exact ht, hd.len.trans hl, r, h, M, fl, _, rs, rh, hd.toW, r', e, q⟩
        · rw [if_neg hl] at e
          cases e
      | _ => cases e
    | _ => cases e
/-- for -/
theorem ss_for {own : List Nat} {body : List Stmt} {src : XI} {xg : XG} {xb : XS} (hp : PassesOwn (model X.prog X.w) X.A X.env X.xe) (hc : X.calm = true) (hi : PI X tg it (rdI g Z src)) (hg : PG X tg (rdG g own xg)) (hb : PSs X body (rdS g Z xb))
    (hs : ∀ x, foldedSetIterable it X.env x = pure x := by intro _; rfl) : PS X (.For tg it body [] pos) (rdS g Z (sFor src xg xb)) :=
  PS.imp (ps_for hp hc hi hg hb hs) fun D σ H ⟨r, h, M, fl, rs, rh, p⟩ => ⟨r, h, M, fl, rs, rh, Po.then rs rh.sub p fun a h1 J H1 M1 e1 rs1 rh1 ok p1 => by
    refine ⟨fun i m σ' H' => ∃ r' h' M', Ext H1 M1 H' M' ∧ RS g H' M' σ' r' ∧ RH g H' M' fl h' ∧ PoS g Z fl H' M' D (forLoop a.2 xg xb m i r' h'), ⟨a.1, r, h1, M1, Ext.refl H1 M1, rs1, rh1, p1⟩, ?_⟩
    rintro i m σ' H' ⟨r', h', M', x', rs', rh', p'⟩
    obtain ⟨k1, k2⟩ := ok fl i H' M' h' x' rh'
    cases m with
    | zero => exact p'.elim
    | succ m =>
      simp only [forLoop] at p'
      cases e : a.2 i h' with
      | none => rw [e] at p'; exact p'.elim
      | some o =>
        rw [e] at p'
        cases o with
        | none => exact .inl ⟨k1 e, p' σ' H' M' (Ext.refl H' M') rs' rh'⟩
        | some w =>
          obtain ⟨go, k3⟩ := k2 w e
          simp only at p'
          cases e2 : xg w r' with
          | none => rw [e2] at p'; exact p'.elim
          | some r1 =>
            rw [e2] at p'
            simp only at p'
            refine .inr ⟨go, fun σ2 H2 => ∃ r2 h2 M2, Ext H1 M1 H2 M2 ∧ RS g H2 M2 σ2 r2 ∧ RH g H2 M2 fl h2 ∧ PoS g Z fl H2 M2 D (forLoop a.2 xg xb m (i + 1) r2 h2), fun σ2 H2 z => ⟨m, Nat.lt_succ_self m, z⟩, fun y H2 yd => ?_⟩
            obtain ⟨M2, x2, rh2, rw2⟩ := k3 y H2 yd
            refine ⟨r', h', M2, fl, w, rs'.mono x2 rh'.sub, rh2, rw2, r1, e2, fun σ3 rs3 _ => ⟨r1, h', M2, fl, rs3, rh2, ?_⟩⟩
            have p2 := PoS.ext x2 p'
            cases e3 : xb r1 h' with
            | nx r4 h4 =>
              rw [e3] at p2
              exact fun σ4 H4 M4 x4 rs4 rh4 => ⟨r4, h4, M4, (x'.trans x2).trans x4, rs4, rh4, PoS.ext x4 p2⟩
            | ct r4 h4 =>
              rw [e3] at p2
              exact fun σ4 H4 M4 x4 rs4 rh4 => ⟨r4, h4, M4, (x'.trans x2).trans x4, rs4, rh4, PoS.ext x4 p2⟩
            | bk r4 h4 => rw [e3] at p2; exact p2
            | rt w4 h4 => rw [e3] at p2; exact p2
            | exc e4 r4 h4 => rw [e3] at p2; exact p2
            | stuck => rw [e3] at p2; exact p2⟩

/-! ### sources -/
/-- items that are known ahead -/
@[simp] def nL (ws : List W) : Nxt := fun i _ => some ws[i]?
/-- the list at a place, as it stands -/
@[simp] def nP (k : Nat) : Nxt := fun i h => match h.o[k]? with
  | some (.lst ws) => some ws[i]?
  | _ => none
/-- how a list or tuple is walked -/
@[simp] def iterOf (w : W) (h : Sto) : Re (Nat × Nxt) := match w with
  | .d (.tup ds) => .ok (ds.length + 1, nL (ds.map .d)) h
  | .d (.lst ds) => .ok (ds.length + 1, nL (ds.map .d)) h
  | .s ds => .ok (ds.length + 1, nL (ds.map .d)) h
  | .l k => match h.o[k]? with
    | some (.lst ws) => .ok (ws.length + 1, nP k) h
    | _ => .stuck
  | _ => .stuck
@[simp] def iSeq (a : XE) : XI := fun r h => (a r h).bind fun w h1 => iterOf w h1
theorem PI_seq {l : Expr} {tl : TE} (hl : PE X l tl) : PI X tg l (fun σ H R => tl σ H fun x H1 => ∃ a, x = .ref a ∧ (((∃ xs, SqL X.K H1 a xs) ∧ R (Itl X.K a) H1) ∨ ((∃ xs, SqT X.K H1 a xs) ∧ R (Itt X.K a) H1))) := by
  refine ⟨fun pins s σ H R I h => ?_⟩
  refine thn (hl.run pins s σ H _ I h) fun v s1 ⟨x, H1, I1, r1, q1⟩ => ?_
  obtain ⟨a, e, q⟩ := q1
  subst e
  cases r1
  rcases q with ⟨⟨xs, hq⟩, q⟩ | ⟨⟨xs, hq⟩, q⟩
  · obtain ⟨its, rv, p, hz⟩ := I1.list hq
    refine wpAny_pyIter_list p.isList ?_
    exact pi_one (tk := s1.toks) I1 _ (turn_list a _) ⟨_, Heap.get?_push_size _ rfl, rfl, rfl⟩ q
  · obtain ⟨its, rv, p, hz⟩ := I1.tuple hq
    refine wpAny_pyIter_tuple (show s1.heap.IsTuple a its.toArray from p) ?_
    exact pi_one (tk := s1.toks) I1 _ (turn_tuple a _) ⟨_, Heap.get?_push_size _ rfl, rfl, rfl⟩ q
/-- a walk over a list that stays -/
theorem ItOk.lst {a : Addr} {xs : List V} {ds : List D} (sb : Sub M) (fz : ∀ {H' M'}, Ext H M H' M' → SqL g.K H' a xs) (hd : RDs g H M.B xs ds) : ItOk g (Itl g.K a) (nL (ds.map .d)) H M := fun fl i H1 M1 h1 x rh => by
  have sq : SqL g.K H1 a xs := fz x
  have hd1 : RWs g H1 M1 xs (ds.map .d) := (hd.toW).mono x sb
  refine ⟨fun e => ⟨xs, sq, ?_⟩, fun w e => ?_⟩
  · simp only [nL, Option.some.injEq] at e
    have := List.getElem?_eq_none_iff.mp e
    rw [← hd1.length] at this
    exact this
  · simp only [nL, Option.some.injEq] at e
    obtain ⟨v, e1, rv⟩ := RWs.get hd1 e
    refine ⟨⟨xs, v, sq, e1⟩, fun y H2 yd => ?_⟩
    obtain ⟨rfl, k⟩ := yd
    have := k xs sq
    rw [e1] at this
    cases this
    exact ⟨M1, Ext.refl _ _, rh, rv⟩
theorem ItOk.tup {a : Addr} {xs : List V} {ds : List D} (sb : Sub M) (fz : SqT g.K H a xs) (hd : RDs g H M.B xs ds) : ItOk g (Itt g.K a) (nL (ds.map .d)) H M := fun fl i H1 M1 h1 x rh => by
  have sq : SqT g.K H1 a xs := sqT_mono x fz
  have hd1 : RWs g H1 M1 xs (ds.map .d) := (hd.toW).mono x sb
  refine ⟨fun e => ⟨xs, sq, ?_⟩, fun w e => ?_⟩
  · simp only [nL, Option.some.injEq] at e
    have := List.getElem?_eq_none_iff.mp e
    rw [← hd1.length] at this
    exact this
  · simp only [nL, Option.some.injEq] at e
    obtain ⟨v, e1, rv⟩ := RWs.get hd1 e
    refine ⟨⟨xs, v, sq, e1⟩, fun y H2 yd => ?_⟩
    obtain ⟨rfl, k⟩ := yd
    have := k xs sq
    rw [e1] at this
    cases this
    exact ⟨M1, Ext.refl _ _, rh, rv⟩
/-- .. over the list at a place -/
theorem ItOk.pl {a : Addr} {k : Nat} (e0 : M.m[k]? = some a) : ItOk g (Itl g.K a) (nP k) H M := fun fl i H1 M1 h1 x rh => by
  have e1 := x.pre _ _ e0
  refine ⟨fun e => ?_, fun w e => ?_⟩
  all_goals
    simp only [nP] at e
    split at e <;> first | (cases e; done) | skip
    rename_i ws ew
    obtain ⟨vs, hv, rv⟩ := rh.lst e1 ew
    simp only [Option.some.injEq] at e
  · refine ⟨vs, SqL.of hv, ?_⟩
    have := List.getElem?_eq_none_iff.mp e
    rw [← rv.length] at this
    exact this
  · obtain ⟨v, e2, rv⟩ := RWs.get rv e
    refine ⟨⟨vs, v, SqL.of hv, e2⟩, fun y H2 yd => ?_⟩
    obtain ⟨rfl, k⟩ := yd
    have := k vs (SqL.of hv)
    rw [e2] at this
    cases this
    exact ⟨M1, Ext.refl _ _, rh, rv⟩
theorem ItOk.rng {lo : Int} {n : Nat} : ItOk g (Itr lo n) (nL ((List.range n).map fun i => .d (.int (lo + (i : Nat))))) H M := fun fl i H1 M1 h1 x rh => by
  refine ⟨fun e => ?_, fun w e => ?_⟩
  · simp only [nL, Option.some.injEq] at e
    have := List.getElem?_eq_none_iff.mp e
    exact (by simpa using this : n ≤ i)
  · simp only [nL, Option.some.injEq, List.getElem?_map] at e
    have hi : i < n := by
      rcases Nat.lt_or_ge i n with h | h
      · exact h
      · rw [List.getElem?_eq_none (by simpa using h)] at e
        cases e
    rw [List.getElem?_range hi] at e
    cases e
    refine ⟨hi, fun y H2 yd => ?_⟩
    obtain ⟨rfl, rfl⟩ := yd
    exact ⟨M1, Ext.refl _ _, rh, .d (.int _)⟩
theorem ItOk.rngC {lo c : Int} {n : Nat} : ItOk g (Itc lo c n) (nL ((List.range n).map fun i => .d (.int (lo + (i : Nat) * c)))) H M := fun fl i H1 M1 h1 x rh => by
  refine ⟨fun e => ?_, fun w e => ?_⟩
  · simp only [nL, Option.some.injEq] at e
    have := List.getElem?_eq_none_iff.mp e
    exact (by simpa using this : n ≤ i)
  · simp only [nL, Option.some.injEq, List.getElem?_map] at e
    have hi : i < n := by
      rcases Nat.lt_or_ge i n with h | h
      · exact h
      · rw [List.getElem?_eq_none (by simpa using h)] at e
        cases e
    rw [List.getElem?_range hi] at e
    cases e
    refine ⟨hi, fun y H2 yd => ?_⟩
    obtain ⟨rfl, rfl⟩ := yd
    exact ⟨M1, Ext.refl _ _, rh, .d (.int _)⟩
theorem si_seq {l : Expr} {xa : XE} (hl : PE X l (rdE g Z xa)) (hK : X.K = g.K := by rfl) : PI X tg l (rdI g Z (iSeq xa)) :=
  PI.imp (PI_seq hl) fun σ H R ⟨r, h, M, fl, rs, rh, p⟩ => ⟨r, h, M, fl, rs, rh, Po.bind p fun w h1 v H1 M1 e1 rh1 rw1 p1 => by
    rw [hK]
    cases w with
    | d x =>
      cases x with
      | tup ds =>
        obtain ⟨a, xs, rfl, ht, hd⟩ := rw1.tup_inv
        exact ⟨a, rfl, .inr ⟨⟨xs, ht⟩, p1 _ H1 M1 (Ext.refl _ _) rh1 (ItOk.tup rh1.sub ht hd)⟩⟩
      | lst ds =>
        obtain ⟨a, xs, rfl, ht, hd⟩ := rw1.lst_inv
        exact ⟨a, rfl, .inl ⟨⟨xs, ht.sq⟩, p1 _ H1 M1 (Ext.refl _ _) rh1 (ItOk.lst rh1.sub (fun x => (ht.mono x rh1.sub).sq) hd)⟩⟩
      | _ => exact p1.elim
    | s ds =>
      obtain ⟨a, xs, rfl, ht, hd⟩ := rw1.s_inv
      exact ⟨a, rfl, .inl ⟨⟨xs, ht.sq⟩, p1 _ H1 M1 (Ext.refl _ _) rh1 (ItOk.lst rh1.sub (fun x => (ht.mono x).sq) hd)⟩⟩
    | f _ => exact p1.elim
    | fn _ => exact p1.elim
    | t _ => exact p1.elim
    | ty _ => exact p1.elim
    | x _ _ => exact p1.elim
    | l k =>
      obtain ⟨a, rfl, e⟩ := rw1.l_inv
      simp only [iterOf] at p1
      split at p1
      · rename_i ws ew
        obtain ⟨vs, hv, rv⟩ := rh1.lst e ew
        exact ⟨a, rfl, .inl ⟨⟨vs, SqL.of hv⟩, p1 _ H1 M1 (Ext.refl _ _) rh1 (ItOk.pl e)⟩⟩
      · exact p1.elim⟩
/-- range(..) -/
theorem small_ex : ∃ f : Int → Bool, f = fun i => decide (-(2 ^ 62) ≤ i) && decide (i < 2 ^ 62) := ⟨_, rfl⟩
/-- between the lines of an index; sealed, so that nothing computes with its numbers -/
def small : Int → Bool := Classical.choose small_ex
theorem small_eq (i : Int) : small i = (decide (-(2 ^ 62) ≤ i) && decide (i < 2 ^ 62)) := congrFun (Classical.choose_spec small_ex) i
theorem small_iff {i : Int} : small i = true ↔ -(2 ^ 62) ≤ i ∧ i < 2 ^ 62 := by
  rw [small_eq]
  rw [Bool.and_eq_true, decide_eq_true_eq, decide_eq_true_eq]
def upInts (lo : Int) (n : Nat) : List W := (List.range n).map fun k => .d (.int (lo + (k : Nat)))
def intsDown (hi : Int) (n : Nat) : List W := (List.range n).map fun k => .d (.int (hi - 1 - (k : Nat)))
/-- an int; a text; a bool -/
@[simp] def W.int? : W → Option Int
  | .d (.int i) => some i
  | _ => none
@[simp] def W.str? : W → Option Str
  | .d (.str i) => some i
  | _ => none
theorem W.int?_some {w : W} {i : Int} (h : w.int? = some i) : w = .d (.int i) := by
  unfold W.int? at h
  split at h <;> simp_all
theorem W.str?_some {w : W} {i : Str} (h : w.str? = some i) : w = .d (.str i) := by
  unfold W.str? at h
  split at h <;> simp_all
@[simp] def rng2 (i j : Option Int) (h : Sto) : Re (Nat × Nxt) := match i, j with
  | some i, some j => if (small i && small j) = true then .ok ((j - i).toNat + 1, nL (upInts i (j - i).toNat)) h else .stuck
  | _, _ => .stuck
@[simp] def rng1 (j : Option Int) (h : Sto) : Re (Nat × Nxt) := match j with
  | some j => if small j = true then .ok (j.toNat + 1, nL (upInts 0 j.toNat)) h else .stuck
  | _ => .stuck
@[simp] def rngD (j : Option Int) (h : Sto) : Re (Nat × Nxt) := match j with
  | some j => if small j = true then .ok (j.toNat + 1, nL (intsDown j j.toNat)) h else .stuck
  | _ => .stuck
@[simp] def rngs1 (ws : List W) (h1 : Sto) : Re (Nat × Nxt) := match ws with
  | [x] => rng1 x.int? h1
  | _ => .stuck
@[simp] def rngs2 (ws : List W) (h1 : Sto) : Re (Nat × Nxt) := match ws with
  | [x, y] => rng2 x.int? y.int? h1
  | _ => .stuck
@[simp] def iRange1 (a : XA) : XI := fun r h => (a r h).bind rngs1
@[simp] def iRange2 (a : XA) : XI := fun r h => (a r h).bind rngs2
theorem rng1_inv {σ : L2.St} {fl : List Nat} {R : It → Hp → Prop} {h : Sto} {ws : List W} (p : Po g Z σ fl (RI g) H M R (rngs1 ws h)) : ∃ x j, ws = [x] ∧ x.int? = some j ∧ (-(2 ^ 62) ≤ j ∧ j < 2 ^ 62) ∧ Po g Z σ fl (RI g) H M R (.ok (j.toNat + 1, nL (upInts 0 j.toNat)) h) := by
  cases ws with
  | nil => exact p.elim
  | cons x t =>
    cases t with
    | cons y t => exact p.elim
    | nil =>
      have p : Po g Z σ fl (RI g) H M R (rng1 x.int? h) := p
      cases ex : x.int? with
      | none => rw [ex] at p; exact p.elim
      | some j =>
        rw [ex] at p
        have p : Po g Z σ fl (RI g) H M R (if small j = true then .ok (j.toNat + 1, nL (upInts 0 j.toNat)) h else .stuck) := p
        by_cases hj : small j = true
        · rw [if_pos hj] at p
          exact ⟨x, j, rfl, ex, small_iff.mp hj, p⟩
        · rw [if_neg hj] at p
          exact p.elim
theorem rng2_inv {σ : L2.St} {fl : List Nat} {R : It → Hp → Prop} {h : Sto} {ws : List W} (p : Po g Z σ fl (RI g) H M R (rngs2 ws h)) : ∃ x y i j, ws = [x, y] ∧ x.int? = some i ∧ y.int? = some j ∧ (-(2 ^ 62) ≤ i ∧ i < 2 ^ 62) ∧ (-(2 ^ 62) ≤ j ∧ j < 2 ^ 62) ∧ Po g Z σ fl (RI g) H M R (.ok ((j - i).toNat + 1, nL (upInts i (j - i).toNat)) h) := by
  cases ws with
  | nil => exact p.elim
  | cons x t =>
    cases t with
    | nil => exact p.elim
    | cons y t =>
      cases t with
      | cons _ _ => exact p.elim
      | nil =>
        have p : Po g Z σ fl (RI g) H M R (rng2 x.int? y.int? h) := p
        cases ex : x.int? with
        | none => rw [ex] at p; exact p.elim
        | some i =>
          cases ey : y.int? with
          | none => rw [ex, ey] at p; exact p.elim
          | some j =>
            rw [ex, ey] at p
            have p : Po g Z σ fl (RI g) H M R (if (small i && small j) = true then .ok ((j - i).toNat + 1, nL (upInts i (j - i).toNat)) h else .stuck) := p
            by_cases hj : (small i && small j) = true
            · rw [if_pos hj] at p
              rw [Bool.and_eq_true] at hj
              exact ⟨x, y, i, j, rfl, ex, ey, small_iff.mp hj.1, small_iff.mp hj.2, p⟩
            · rw [if_neg hj] at p
              exact p.elim
/-- reversed(range(n)) -/
@[simp] def iRevRange1 (a : XE) : XI := fun r h => (a r h).bind fun w h1 => rngD w.int? h1
theorem si_range1 {a : Expr} {ta : XA} {p : Pos} (hm : X.mg "range" = none) (ha : PA X [a] (rdA g Z ta)) (hg : Gl X "range" := by rfl) (hs : starEach [a] X.env = [(false, eval a X.env)] := by rfl) : PI X tg (.Call (.Name "range" p) [a] [] pos) (rdI g Z (iRange1 ta)) :=
  PI.imp (pi_range1 hg hm ha hs) fun σ H R ⟨r, h, M, fl, rs, rh, p⟩ => ⟨r, h, M, fl, rs, rh, Po.bind p fun ws h1 vs H1 M1 e1 rh1 rw1 p1 => by
    obtain ⟨x, j, rfl, ex, hj, p1⟩ := rng1_inv p1
    obtain ⟨v, rfl, ra⟩ := RWs.one rw1
    rw [W.int?_some ex] at ra
    obtain rfl := ra.int_inv
    exact ⟨j, rfl, hj.1, hj.2, p1 _ H1 M1 (Ext.refl _ _) rh1 ItOk.rng⟩⟩
theorem si_range2 {a b : Expr} {ta : XA} {p : Pos} (hm : X.mg "range" = none) (ha : PA X [a, b] (rdA g Z ta)) (hg : Gl X "range" := by rfl) (hs : starEach [a, b] X.env = [(false, eval a X.env), (false, eval b X.env)] := by rfl)
    (hs2 : starEach [b] X.env = [(false, eval b X.env)] := by rfl) : PI X tg (.Call (.Name "range" p) [a, b] [] pos) (rdI g Z (iRange2 ta)) :=
  PI.imp (pi_range2 hg hm ha hs hs2) fun σ H R ⟨r, h, M, fl, rs, rh, p⟩ => ⟨r, h, M, fl, rs, rh, Po.bind p fun ws h1 vs H1 M1 e1 rh1 rw1 p1 => by
    obtain ⟨x, y, i, j, rfl, ex, ey, hi, hj, p1⟩ := rng2_inv p1
    obtain ⟨v, u, rfl, ra, rb⟩ := RWs.two rw1
    rw [W.int?_some ex] at ra
    rw [W.int?_some ey] at rb
    obtain rfl := ra.int_inv
    obtain rfl := rb.int_inv
    exact ⟨i, j, rfl, ⟨hi.1, hi.2, hj.1, hj.2⟩, p1 _ H1 M1 (Ext.refl _ _) rh1 ItOk.rng⟩⟩
theorem intsDown_eq (j : Int) : intsDown j j.toNat = (List.range j.toNat).map fun i : Nat => W.d (.int ((0 + (((j - 0).toNat : Nat) : Int) - 1) + (i : Nat) * (-1))) := by
  unfold intsDown
  refine List.map_congr_left fun a ha => ?_
  have := List.mem_range.mp ha
  have e : j - 1 - (a : Int) = 0 + (((j - 0).toNat : Nat) : Int) - 1 + (a : Int) * (-1) := by omega
  rw [e]
theorem si_revRange1 {a : Expr} {xa : XE} {p q pos2 : Pos} (hm : X.mg "range" = none) (hr : X.mg "reversed" = none) (ha : PE X a (rdE g Z xa)) (hg : Gl X "range" := by rfl) (hg2 : Gl X "reversed" := by rfl)
    (hs : starEach [a] X.env = (false, eval a X.env) :: starEach [] X.env := by rfl) (hs2 : starEach [.Call (.Name "range" p) [a] [] pos] X.env = (false, eval (.Call (.Name "range" p) [a] [] pos) X.env) :: starEach [] X.env := by rfl) :
    PI X tg (.Call (.Name "reversed" q) [.Call (.Name "range" p) [a] [] pos] [] pos2) (rdI g Z (iRevRange1 xa)) :=
  PI.imp (pi_revR hg2 hr (prg_1 hg hm ha hs) hs2) fun σ H R ⟨r, h, M, fl, rs, rh, p⟩ => ⟨r, h, M, fl, rs, rh, Po.bind p fun w h1 v H1 M1 e1 rh1 rw1 p1 => by
    simp only [rngD] at p1
    cases ex : w.int? with
    | none => rw [ex] at p1; exact p1.elim
    | some j =>
      rw [ex] at p1
      rw [W.int?_some ex] at rw1
      obtain rfl := rw1.int_inv
      simp only at p1
      by_cases hj : small j = true
      · rw [if_pos hj] at p1
        have hj := small_iff.mp hj
        rw [intsDown_eq] at p1
        refine ⟨j, rfl, by decide, by decide, hj.1, hj.2, p1 _ H1 M1 (Ext.refl _ _) rh1 ?_⟩
        have e : (j - 0).toNat = j.toNat := by rw [Int.sub_zero]
        rw [e]
        exact ItOk.rngC
      · rw [if_neg hj] at p1
        exact p1.elim⟩
end
/-! ### while -/
def whileLoop (c : XT) (b : XS) : Nat → XS
  | 0, _, _ => .stuck
  | n + 1, r, h => (c r h).then r fun t h1 => if t = true then
      (match b r h1 with
      | .nx r2 h2 => whileLoop c b n r2 h2
      | .ct r2 h2 => whileLoop c b n r2 h2
      | .bk r2 h2 => .nx r2 h2
      | .rt w h2 => .rt w h2
      | .exc e r2 h2 => .exc e r2 h2
      | .stuck => .stuck)
    else .nx r h1
def sWhile (n : Nat) (c : XT) (b : XS) : XS := fun r h => whileLoop c b n r h
section
variable {X : Cx} {g : G} {Z : WX} {pos : Pos}
theorem ss_while {n : Nat} {c : Expr} {body : List Stmt} {xc : XT} {xb : XS} (hp : PassesOwn (model X.prog X.w) X.A X.env X.xe) (hc : PT X c (rdT g Z xc)) (hb : PSs X body (rdS g Z xb)) : PS X (.While c body [] pos) (rdS g Z (sWhile n xc xb)) :=
  PS.imp (ps_while hp hc hb) fun D σ H ⟨r, h, M, fl, rs, rh, p⟩ => by
    refine ⟨fun m σ' H' => ∃ r' h' M', RS g H' M' σ' r' ∧ RH g H' M' fl h' ∧ PoS g Z fl H' M' D (whileLoop xc xb m r' h'), ⟨n, r, h, M, rs, rh, p⟩, ?_⟩
    rintro m σ' H' ⟨r', h', M', rs', rh', p'⟩
    cases m with
    | zero => exact p'.elim
    | succ m =>
      simp only [whileLoop] at p'
      refine ⟨r', h', M', fl, rs', rh', Po.then rs' rh'.sub p' fun t h1 b H1 M1 e1 rs1 rh1 rb p1 => ?_⟩
      have rb : b = t := rb
      subst rb
      cases b with
      | false => exact p1 _ H1 M1 (Ext.refl _ _) rs1 rh1
      | true =>
        simp only [if_true] at p1 ⊢
        refine ⟨fun σ2 H2 => ∃ r2 h2 M2, RS g H2 M2 σ2 r2 ∧ RH g H2 M2 fl h2 ∧ PoS g Z fl H2 M2 D (whileLoop xc xb m r2 h2), fun σ2 H2 z => ⟨m, Nat.lt_succ_self m, z⟩, r', h1, M1, fl, rs1, rh1, ?_⟩
        cases e3 : xb r' h1 with
        | nx r4 h4 =>
          rw [e3] at p1
          exact fun σ4 H4 M4 x4 rs4 rh4 => ⟨r4, h4, M4, rs4, rh4, PoS.ext x4 p1⟩
        | ct r4 h4 =>
          rw [e3] at p1
          exact fun σ4 H4 M4 x4 rs4 rh4 => ⟨r4, h4, M4, rs4, rh4, PoS.ext x4 p1⟩
        | bk r4 h4 => rw [e3] at p1; exact p1
        | rt w4 h4 => rw [e3] at p1; exact p1
        | exc e4 r4 h4 => rw [e3] at p1; exact p1
        | stuck => rw [e3] at p1; exact p1
end
end
end Xs

/-! XsD: operators, displays, items, slices, built-ins. -/
namespace Xs
noncomputable section
open PySem PySem.Spec PyProof.Rows L2
theorem lim_ex : ∃ n : Nat, n = 16777216 := ⟨_, rfl⟩
/-- the longest list; sealed -/
def lim : Nat := Classical.choose lim_ex
theorem lim_eq : lim = 16777216 := Classical.choose_spec lim_ex
theorem lim_line : lim = sizeLine := lim_eq.trans (by decide)
theorem w64_ex : ∃ f : Int → Bool, f = fun i => decide (-(2 ^ 64) < i) && decide (i < 2 ^ 64) := ⟨_, rfl⟩
/-- a factor that is not too long; sealed -/
def w64 : Int → Bool := Classical.choose w64_ex
theorem w64_eq (i : Int) : w64 i = (decide (-(2 ^ 64) < i) && decide (i < 2 ^ 64)) := congrFun (Classical.choose_spec w64_ex) i
@[simp] theorem w64_of {i : Int} (h1 : -18446744073709551616 < i) (h2 : i < 18446744073709551616) : w64 i = true := by
  rw [w64_eq, Bool.and_eq_true, decide_eq_true_eq, decide_eq_true_eq]
  exact ⟨by omega, by omega⟩
/-- a list of values that are data -/
@[simp] def pureL : List W → Option (List D)
  | [] => some []
  | .d x :: r => (pureL r).map (x :: ·)
  | _ :: _ => none
@[simp] theorem pureL_map (ds : List D) : pureL (ds.map .d) = some ds := by
  induction ds with
  | nil => rfl
  | cons d ds ih => simp [ih]
theorem pureL_some : ∀ {ws : List W} {ds : List D}, pureL ws = some ds → ws = ds.map .d
  | [], _, h => by cases h; rfl
  | .d x :: r, ds, h => by
    simp only [pureL, Option.map_eq_some_iff] at h
    obtain ⟨rs, h1, rfl⟩ := h
    rw [pureL_some h1]
    rfl
  | .l _ :: _, _, h => nomatch h
  | .s _ :: _, _, h => nomatch h
  | .f _ :: _, _, h => nomatch h
  | .fn _ :: _, _, h => nomatch h
  | .x _ _ :: _, _, h => nomatch h
  | .t _ :: _, _, h => nomatch h
  | .ty _ :: _, _, h => nomatch h
/-- what a list holds -/
@[simp] def lstOf (h : Sto) : W → Option (List W)
  | .d (.lst ds) => some (ds.map .d)
  | .s ds => some (ds.map .d)
  | .l k => match h.o[k]? with
    | some (.lst ws) => some ws
    | _ => none
  | _ => none
/-- .. a list or a tuple -/
@[simp] def seqOf (h : Sto) : W → Option (List W)
  | .d (.tup ds) => some (ds.map .d)
  | w => lstOf h w
section
variable {X : Cx} {g : G} {Z : WX} {a b c : Expr} {xa xb xc : XE} {pos : Pos} {H : Hp} {M : Mu} {fl : List Nat} {h : Sto} {v u : V} {w y : W} {σ : L2.St} {Q : VK}
theorem RWs.toD {vs : List V} : ∀ {ds : List D}, RWs g H M vs (ds.map .d) → RDs g H M.B vs ds := fun {ds} q => by
  induction ds generalizing vs with
  | nil => cases q; exact .nil
  | cons d ds ih =>
    cases q with
    | cons a b =>
      cases a with
      | d a => exact .cons a (ih b)
theorem lstOf_sq {ws : List W} (rh : RH g H M fl h) (r : RW g H M v w) (e : lstOf h w = some ws) : ∃ a xs, v = .ref a ∧ SqL g.K H a xs ∧ RWs g H M xs ws := by
  cases w with
  | d x =>
    cases x with
    | lst ds =>
      cases e
      obtain ⟨a, xs, rfl, ht, hd⟩ := r.lst_inv
      exact ⟨a, xs, rfl, ht.sq, hd.toW⟩
    | _ => cases e
  | s ds =>
    cases e
    obtain ⟨a, xs, rfl, ht, hd⟩ := r.s_inv
    exact ⟨a, xs, rfl, ht.sq, hd.toW⟩
  | l k =>
    obtain ⟨a, rfl, e1⟩ := r.l_inv
    simp only [lstOf] at e
    split at e
    · rename_i ws' ew
      cases e
      obtain ⟨vs, hv, rv⟩ := rh.lst e1 ew
      exact ⟨a, vs, rfl, SqL.of hv, rv⟩
    · cases e
  | _ => cases e
/-- .. that stands in the heap -/
theorem lstOf_h {ws : List W} (rh : RH g H M fl h) (r : RW g H M v w) (hs : ∀ ds, w ≠ .s ds) (e : lstOf h w = some ws) : ∃ a xs, v = .ref a ∧ H a = some (.lst xs) ∧ RWs g H M xs ws := by
  cases w with
  | d x =>
    cases x with
    | lst ds =>
      cases e
      obtain ⟨a, xs, rfl, ht, hd⟩ := r.lst_inv
      exact ⟨a, xs, rfl, ht.1, hd.toW⟩
    | _ => cases e
  | s ds => exact absurd rfl (hs ds)
  | l k =>
    obtain ⟨a, rfl, e1⟩ := r.l_inv
    simp only [lstOf] at e
    split at e
    · rename_i ws' ew
      cases e
      obtain ⟨vs, hv, rv⟩ := rh.lst e1 ew
      exact ⟨a, vs, rfl, hv, rv⟩
    · cases e
  | _ => cases e
theorem seqOf_sq {ws : List W} (rh : RH g H M fl h) (r : RW g H M v w) (e : seqOf h w = some ws) : ∃ a xs, v = .ref a ∧ (SqL g.K H a xs ∨ SqT g.K H a xs) ∧ RWs g H M xs ws := by
  by_cases ht : ∃ ds, w = .d (.tup ds)
  · obtain ⟨ds, rfl⟩ := ht
    cases e
    obtain ⟨a, xs, rfl, ht, hd⟩ := r.tup_inv
    exact ⟨a, xs, rfl, .inr ht, hd.toW⟩
  · have e' : lstOf h w = some ws := by
      cases w with
      | d x => cases x <;> first | exact e | exact absurd ⟨_, rfl⟩ ht
      | _ => exact e
    obtain ⟨a, xs, h1, h2, h3⟩ := lstOf_sq rh r e'
    exact ⟨a, xs, h1, .inl h2, h3⟩
/-- the end where a new object comes that stays -/
theorem po_tup {ds : List D} {xs : List V} {p : Addr} (rh : RH g H M fl h) (q : Po g Z σ fl (RW g) H M Q (.ok (.d (.tup ds)) h)) (r : RDs g H M.B xs ds) (hp : H p = none) : Q (.ref p) (upd H p (.tup xs)) := by
  have x : Ext H M (upd H p (.tup xs)) M := Ext.fresh hp rh
  exact q _ _ M x (rh.fresh hp) (.d (.tup (SqT.of upd_same) (RDs.mono x rh.sub r)))
theorem po_lst {ds : List D} {xs : List V} {p : Addr} (rh : RH g H M fl h) (q : Po g Z σ fl (RW g) H M Q (.ok (.d (.lst ds)) h)) (r : RDs g H M.B xs ds) (hp : H p = none) : Q (.ref p) (upd H p (.lst xs)) := by
  have x : Ext H M (upd H p (.lst xs)) (M.fz p) := Ext.freshF hp rh
  exact q _ _ (M.fz p) x (rh.freshF hp) (.d (.lst ⟨upd_same, fun z => z.2 rfl⟩ (RDs.mono x rh.sub r)))
/-- .. that may change -/
theorem po_new {ws : List W} {xs : List V} {p : Addr} (rh : RH g H M fl h) (q : Po g Z σ fl (RW g) H M Q (.ok (.l h.o.length) ⟨h.o ++ [.lst ws], h.c⟩)) (r : RWs g H M xs ws) (hp : H p = none) : Q (.ref p) (upd H p (.lst xs)) := by
  have x : Ext H M (upd H p (.lst xs)) (M.add p) := Ext.add hp rh
  exact q _ _ (M.add p) x (rh.add hp (show RWs g _ _ xs ws from RWs.mono x rh.sub r)) (RW.added rh)

/-! ### displays -/
@[simp] def mkTup (ws : List W) (h : Sto) : Re W := match pureL ws with
  | some ds => if ds.length ≤ lim then .ok (.d (.tup ds)) h else .stuck
  | none => .stuck
@[simp] def mkLst (ws : List W) (h : Sto) : Re W := match pureL ws with
  | some ds => if ds.length ≤ lim then .ok (.d (.lst ds)) h else .stuck
  | none => .stuck
@[simp] def mkNew (ws : List W) (h : Sto) : Re W := if ws.length ≤ lim then .ok (.l h.o.length) ⟨h.o ++ [.lst ws], h.c⟩ else .stuck
theorem se_tup {es : List Expr} {ta : XA} {x1} (ha : PA X es (rdA g Z ta)) : PE X (.Tuple es x1 pos) (rdE g Z (xApp mkTup ta)) :=
  PE.imp (pe_tup ha) fun σ H Q ⟨r, h, M, fl, rs, rh, p⟩ => ⟨r, h, M, fl, rs, rh, Po.bind p fun ws h1 vs H1 M1 e1 rh1 rw1 p1 => by
    simp only [mkTup] at p1
    cases e : pureL ws with
    | none => rw [e] at p1; exact p1.elim
    | some ds =>
      rw [e] at p1
      rw [pureL_some e] at rw1
      have hd := RWs.toD rw1
      simp only at p1
      by_cases hl : ds.length ≤ lim
      · rw [if_pos hl] at p1
        exact ⟨by rw [hd.len, ← lim_line]; exact hl, fun a ha => po_tup rh1 p1 hd ha⟩
      · rw [if_neg hl] at p1
        exact p1.elim⟩
theorem se_lst {es : List Expr} {ta : XA} (ha : PA X es (rdA g Z ta)) : PE X (.List es pos) (rdE g Z (xApp mkLst ta)) :=
  PE.imp (pe_lst ha) fun σ H Q ⟨r, h, M, fl, rs, rh, p⟩ => ⟨r, h, M, fl, rs, rh, Po.bind p fun ws h1 vs H1 M1 e1 rh1 rw1 p1 => by
    simp only [mkLst] at p1
    cases e : pureL ws with
    | none => rw [e] at p1; exact p1.elim
    | some ds =>
      rw [e] at p1
      rw [pureL_some e] at rw1
      have hd := RWs.toD rw1
      simp only at p1
      by_cases hl : ds.length ≤ lim
      · rw [if_pos hl] at p1
        exact ⟨by rw [hd.len, ← lim_line]; exact hl, fun a ha => po_lst rh1 p1 hd ha⟩
      · rw [if_neg hl] at p1
        exact p1.elim⟩
theorem se_new {es : List Expr} {ta : XA} (ha : PA X es (rdA g Z ta)) : PE X (.List es pos) (rdE g Z (xApp mkNew ta)) :=
  PE.imp (pe_lst ha) fun σ H Q ⟨r, h, M, fl, rs, rh, p⟩ => ⟨r, h, M, fl, rs, rh, Po.bind p fun ws h1 vs H1 M1 e1 rh1 rw1 p1 => by
    have p1 : Po g Z σ fl (RW g) H1 M1 Q (if ws.length ≤ lim then .ok (.l h1.o.length) ⟨h1.o ++ [.lst ws], h1.c⟩ else .stuck) := p1
    by_cases hl : ws.length ≤ lim
    · rw [if_pos hl] at p1
      exact ⟨by rw [RWs.length rw1, ← lim_line]; exact hl, fun a ha => po_new rh1 p1 rw1 ha⟩
    · rw [if_neg hl] at p1
      exact p1.elim⟩

/-! ### operators on ints -/
@[simp] def i2 (f : Int → Int → Re W) (w y : W) : Re W := match w.int?, y.int? with
  | some i, some j => f i j
  | _, _ => .stuck
theorem i2_inv {F : Int → Int → Re W} (p : Po g Z σ fl (RW g) H M Q (i2 F w y)) (rw : RW g H M v w) (ry : RW g H M u y) : ∃ i j, v = .int i ∧ u = .int j ∧ Po g Z σ fl (RW g) H M Q (F i j) := by
  simp only [i2] at p
  cases ex : w.int? with
  | none => rw [ex] at p; exact p.elim
  | some i =>
    cases ey : y.int? with
    | none => rw [ex, ey] at p; exact p.elim
    | some j =>
      rw [ex, ey] at p
      rw [W.int?_some ex] at rw
      rw [W.int?_some ey] at ry
      exact ⟨i, j, rw.int_inv, ry.int_inv, p⟩
@[simp] def fSub (w y : W) (h : Sto) : Re W := i2 (fun i j => .ok (.d (.int (i - j))) h) w y
@[simp] def fMul (w y : W) (h : Sto) : Re W := i2 (fun i j => if (w64 i || w64 j) = true then .ok (.d (.int (i * j))) h else .stuck) w y
@[simp] def fDiv (w y : W) (h : Sto) : Re W := i2 (fun i j => if decide (0 < j) && decide (j < 1073741824) then .ok (.d (.int (i / j))) h else .stuck) w y
@[simp] def fMod (w y : W) (h : Sto) : Re W := i2 (fun i j => if decide (0 < j) then .ok (.d (.int (i % j))) h else .stuck) w y
@[simp] def fPow (w y : W) (h : Sto) : Re W := i2 (fun i j => if decide (0 ≤ j) && decide (j ≤ 1000000) && decide (i.natAbs < 2 ^ 64) then .ok (.d (.int (i ^ j.toNat))) h else .stuck) w y
@[simp] def fLt (w y : W) (h : Sto) : Re W := i2 (fun i j => .ok (.d (.bl (decide (i < j)))) h) w y
@[simp] def fLe (w y : W) (h : Sto) : Re W := i2 (fun i j => .ok (.d (.bl (decide (i ≤ j)))) h) w y
@[simp] def fGt (w y : W) (h : Sto) : Re W := i2 (fun i j => .ok (.d (.bl (decide (j < i)))) h) w y
@[simp] def fGe (w y : W) (h : Sto) : Re W := i2 (fun i j => .ok (.d (.bl (decide (j ≤ i)))) h) w y
theorem po_int {i : Int} (rh : RH g H M fl h) (p : Po g Z σ fl (RW g) H M Q (.ok (.d (.int i)) h)) : Q (.int i) H := p _ H M (Ext.refl H M) rh (.d (.int i))
theorem po_bl {i : Bool} (rh : RH g H M fl h) (p : Po g Z σ fl (RW g) H M Q (.ok (.d (.bl i)) h)) : Q (.bl i) H := p _ H M (Ext.refl H M) rh (.d (.bl i))
theorem po_if {c : Bool} {x : Re W} (p : Po g Z σ fl (RW g) H M Q (if c = true then x else .stuck)) : c = true ∧ Po g Z σ fl (RW g) H M Q x := by
  cases c with
  | true => exact ⟨rfl, p⟩
  | false => exact p.elim
theorem po_ifP {c : Prop} [Decidable c] {x : Re W} (p : Po g Z σ fl (RW g) H M Q (if c then x else .stuck)) : c ∧ Po g Z σ fl (RW g) H M Q x := by
  by_cases hc : c
  · rw [if_pos hc] at p
    exact ⟨hc, p⟩
  · rw [if_neg hc] at p
    exact p.elim
theorem o_sub : Op2 X g Z (binaryOp .Sub) fSub := ⟨_, op_sub, fun rh rx ry p => by
  obtain ⟨i, j, rfl, rfl, p⟩ := i2_inv p rx ry
  exact ⟨i, j, rfl, rfl, po_int rh p⟩⟩
theorem mul_ok {i j : Int} (q : (w64 i || w64 j) = true) : CMul i j := by
  rw [w64_eq, w64_eq, Bool.or_eq_true, Bool.and_eq_true, Bool.and_eq_true, decide_eq_true_eq, decide_eq_true_eq, decide_eq_true_eq, decide_eq_true_eq] at q
  exact q
theorem o_div : Op2 X g Z (binaryOp .FloorDiv) fDiv := ⟨_, op_fdiv, fun rh rx ry p => by
  obtain ⟨i, j, rfl, rfl, p⟩ := i2_inv p rx ry
  obtain ⟨q, p⟩ := po_if p
  rw [Bool.and_eq_true, decide_eq_true_eq, decide_eq_true_eq] at q
  exact ⟨i, j, rfl, rfl, q, po_int rh p⟩⟩
theorem o_mod : Op2 X g Z (binaryOp .Mod) fMod := ⟨_, op_mod, fun rh rx ry p => by
  obtain ⟨i, j, rfl, rfl, p⟩ := i2_inv p rx ry
  obtain ⟨q, p⟩ := po_if p
  rw [decide_eq_true_eq] at q
  exact ⟨i, j, rfl, rfl, q, po_int rh p⟩⟩
theorem o_pow : Op2 X g Z (binaryOp .Pow) fPow := ⟨_, op_pow, fun rh rx ry p => by
  obtain ⟨i, j, rfl, rfl, p⟩ := i2_inv p rx ry
  obtain ⟨q, p⟩ := po_if p
  rw [Bool.and_eq_true, Bool.and_eq_true, decide_eq_true_eq, decide_eq_true_eq, decide_eq_true_eq] at q
  exact ⟨i, j, rfl, rfl, ⟨q.1.1, q.1.2, q.2⟩, po_int rh p⟩⟩
theorem o_lt : Op2 X g Z (compareOp .Lt) fLt := ⟨_, op_lt, fun rh rx ry p => by
  obtain ⟨i, j, rfl, rfl, p⟩ := i2_inv p rx ry
  exact ⟨i, j, rfl, rfl, po_bl rh p⟩⟩
theorem o_le : Op2 X g Z (compareOp .LtE) fLe := ⟨_, op_le, fun rh rx ry p => by
  obtain ⟨i, j, rfl, rfl, p⟩ := i2_inv p rx ry
  exact ⟨i, j, rfl, rfl, po_bl rh p⟩⟩
theorem o_gt : Op2 X g Z (compareOp .Gt) fGt := ⟨_, op_gt, fun rh rx ry p => by
  obtain ⟨i, j, rfl, rfl, p⟩ := i2_inv p rx ry
  exact ⟨i, j, rfl, rfl, po_bl rh p⟩⟩
theorem o_ge : Op2 X g Z (compareOp .GtE) fGe := ⟨_, op_ge, fun rh rx ry p => by
  obtain ⟨i, j, rfl, rfl, p⟩ := i2_inv p rx ry
  exact ⟨i, j, rfl, rfl, po_bl rh p⟩⟩
/-- unary minus -/
@[simp] def fNeg (w : W) (h : Sto) : Re W := match w.int? with
  | some i => .ok (.d (.int (-i))) h
  | none => .stuck
theorem se_neg (ha : PE X a (rdE g Z xa)) : PE X (.UnaryOp .USub a pos) (rdE g Z (xUn fNeg xa)) :=
  PE.imp (pe_un un_neg ha) fun σ H Q ⟨r, h, M, fl, rs, rh, p⟩ => ⟨r, h, M, fl, rs, rh, Po.bind p fun w h1 v H1 M1 e1 rh1 rw1 p1 => by
    simp only [fNeg] at p1
    cases e : w.int? with
    | none => rw [e] at p1; exact p1.elim
    | some i =>
      rw [e] at p1
      rw [W.int?_some e] at rw1
      obtain rfl := rw1.int_inv
      exact ⟨i, rfl, po_int rh1 p1⟩⟩
end
end
end Xs

/-! XsE: data compared, shown; items, slices, built-ins. -/
namespace Xs
noncomputable section
open PySem PySem.Spec PyProof.Rows L2
mutual
def D.py : D → PyData
  | .non => .none
  | .bl b => .bool b
  | .int i => .int i
  | .str s => .str s
  | .tup xs => .tuple (D.pys xs)
  | .lst xs => .list (D.pys xs)
def D.pys : List D → List PyData
  | [] => []
  | x :: r => x.py :: D.pys r
end
mutual
/-- == -/
@[simp] def D.eq : D → D → Bool
  | .non, .non => true
  | .bl a, .bl b => a == b
  | .bl a, .int j => (if a then 1 else 0) == j
  | .int i, .bl b => i == (if b then 1 else 0)
  | .int i, .int j => i == j
  | .str x, .str y => x == y
  | .lst xs, .lst ys => D.eqs xs ys
  | .tup xs, .tup ys => D.eqs xs ys
  | .non, .bl _ | .non, .int _ | .non, .str _ | .non, .lst _ | .non, .tup _ => false
  | .bl _, .non | .bl _, .str _ | .bl _, .lst _ | .bl _, .tup _ => false
  | .int _, .non | .int _, .str _ | .int _, .lst _ | .int _, .tup _ => false
  | .str _, .non | .str _, .bl _ | .str _, .int _ | .str _, .lst _ | .str _, .tup _ => false
  | .lst _, .non | .lst _, .bl _ | .lst _, .int _ | .lst _, .str _ | .lst _, .tup _ => false
  | .tup _, .non | .tup _, .bl _ | .tup _, .int _ | .tup _, .str _ | .tup _, .lst _ => false
@[simp] def D.eqs : List D → List D → Bool
  | [], [] => true
  | x :: xs, y :: ys => x.eq y && D.eqs xs ys
  | [], _ :: _ => false
  | _ :: _, [] => false
end
mutual
@[simp] def D.depth : D → Nat
  | .lst xs => D.depths xs + 1
  | .tup xs => D.depths xs + 1
  | .non | .bl _ | .int _ | .str _ => 0
@[simp] def D.depths : List D → Nat
  | [] => 0
  | x :: r => max x.depth (D.depths r)
end
mutual
theorem D.eq_py : ∀ x y : D, x.eq y = PyData.eqv x.py y.py
  | .non, y => by cases y <;> simp [D.py, PyData.eqv]
  | .bl _, y => by cases y <;> simp [D.py, PyData.eqv]
  | .int _, y => by cases y <;> simp [D.py, PyData.eqv]
  | .str _, y => by cases y <;> simp [D.py, PyData.eqv]
  | .lst xs, y => by
    cases y with
    | lst ys => simp only [D.eq, D.py, PyData.eqv]; exact D.eqs_py xs ys
    | _ => simp [D.py, PyData.eqv]
  | .tup xs, y => by
    cases y with
    | tup ys => simp only [D.eq, D.py, PyData.eqv]; exact D.eqs_py xs ys
    | _ => simp [D.py, PyData.eqv]
theorem D.eqs_py : ∀ xs ys : List D, D.eqs xs ys = PyData.eqvAll (D.pys xs) (D.pys ys)
  | [], [] => by simp [D.pys, PyData.eqvAll]
  | [], _ :: _ => by simp [D.pys, PyData.eqvAll]
  | _ :: _, [] => by simp [D.pys, PyData.eqvAll]
  | x :: xs, y :: ys => by simp only [D.eqs, D.pys, PyData.eqvAll]; rw [D.eq_py x y, D.eqs_py xs ys]
end
mutual
theorem D.depth_py : ∀ x : D, x.py.depth = x.depth
  | .non => by simp [D.py, PyData.depth]
  | .bl _ => by simp [D.py, PyData.depth]
  | .int _ => by simp [D.py, PyData.depth]
  | .str _ => by simp [D.py, PyData.depth]
  | .lst xs => by simp [D.py, PyData.depth, D.depths_py xs]
  | .tup xs => by simp [D.py, PyData.depth, D.depths_py xs]
theorem D.depths_py : ∀ x : List D, PyData.depthAll (D.pys x) = D.depths x
  | [] => by simp [D.pys, PyData.depthAll]
  | x :: r => by simp [D.pys, PyData.depthAll, D.depth_py x, D.depths_py r]
end
section
variable {g : G} {H : Hp} {B : Addr → Prop}
mutual
theorem RD.dp {v : V} {x : D} : RD g H B v x → Dp g.K H v x.py
  | .non => .non
  | .bl b => .bl b
  | .int i => .int i
  | .str s _ => .str s
  | .tup h1 h2 => by rw [D.py]; exact .tup h1 (RDs.dp h2)
  | .lst h1 h2 => by rw [D.py]; exact .lst h1.sq (RDs.dp h2)
theorem RDs.dp {v : List V} {x : List D} : RDs g H B v x → DpAll g.K H v (D.pys x)
  | .nil => .nil
  | .cons a b => .cons (RD.dp a) (RDs.dp b)
end
mutual
theorem RD.lay {v : V} {x : D} : RD g H B v x → x.py.canLay0 = true
  | .non => by simp [D.py, PyData.canLay0]
  | .bl b => by simp [D.py, PyData.canLay0]
  | .int i => by simp [D.py, PyData.canLay0]
  | .str s h => by simpa [D.py, PyData.canLay0] using h
  | .tup h1 h2 => by simpa [D.py, PyData.canLay0] using RDs.lay h2
  | .lst h1 h2 => by simpa [D.py, PyData.canLay0] using RDs.lay h2
theorem RDs.lay {v : List V} {x : List D} : RDs g H B v x → PyData.canLayAll0 (D.pys x) = true
  | .nil => by simp [D.pys, PyData.canLayAll0]
  | .cons a b => by simp [D.pys, PyData.canLayAll0, RD.lay a, RDs.lay b]
end
end
/-- a value as data -/
@[simp] def dataOf (h : Sto) : W → Option D
  | .d x => some x
  | .s ds => some (.lst ds)
  | .l k => match h.o[k]? with
    | some (.lst ws) => (pureL ws).map .lst
    | _ => none
  | _ => none
section
variable {X : Cx} {g : G} {Z : WX} {a b c : Expr} {xa xb xc : XE} {pos : Pos} {H : Hp} {M : Mu} {fl : List Nat} {h : Sto} {v u : V} {w y : W} {σ : L2.St} {Q : VK}
theorem dataOf_dp {x : D} (rh : RH g H M fl h) (r : RW g H M v w) (e : dataOf h w = some x) : Dp g.K H v x.py ∧ x.py.canLay0 = true := by
  cases w with
  | d x' =>
    cases e
    cases r with
    | d r => exact ⟨r.dp, r.lay⟩
  | s ds =>
    cases e
    obtain ⟨a, xs, rfl, ht, hd⟩ := r.s_inv
    exact ⟨by rw [D.py]; exact .lst ht.sq hd.dp, by simpa [D.py, PyData.canLay0] using hd.lay⟩
  | l k =>
    obtain ⟨a, rfl, e1⟩ := r.l_inv
    simp only [dataOf] at e
    split at e
    · rename_i ws ew
      obtain ⟨vs, hv, rv⟩ := rh.lst e1 ew
      simp only [Option.map_eq_some_iff] at e
      obtain ⟨ds, e2, rfl⟩ := e
      rw [pureL_some e2] at rv
      have hd := RWs.toD rv
      exact ⟨by rw [D.py]; exact .lst (SqL.of hv) hd.dp, by simpa [D.py, PyData.canLay0] using hd.lay⟩
    · cases e
  | _ => cases e
/-- == of data, one of which is not deep -/
def rEqM (K : PySem.W.Frag) (neg : Bool) : R2 := fun x y H Q => ∃ d e, Dp K H x d ∧ Dp K H y e ∧ d.canLay0 = true ∧ e.canLay0 = true ∧ min d.depth e.depth ≤ 64 ∧ Q (.bl (if neg then !PyData.eqv d e else PyData.eqv d e)) H
theorem op_eqM (hu : X.A.units + 64 < cLine) : OpR X (compareOp .Eq) (rEqM X.K false) := by
  intro pins s σ H x y v u Q I rx ry h
  obtain ⟨d, e, hd, he, sd, se, hm, q⟩ := h
  obtain ⟨as, r1⟩ := Dp.reads I d x v hd rx
  obtain ⟨bs, r2⟩ := Dp.reads I e y u he ry
  exact SeqAt.compareEq_reads r1 r2 sd se (by omega) ⟨.bl _, H, I, rfl, q⟩
theorem op_neM (hu : X.A.units + 64 < cLine) : OpR X (compareOp .NotEq) (rEqM X.K true) := by
  intro pins s σ H x y v u Q I rx ry h
  obtain ⟨d, e, hd, he, sd, se, hm, q⟩ := h
  obtain ⟨as, r1⟩ := Dp.reads I d x v hd rx
  obtain ⟨bs, r2⟩ := Dp.reads I e y u he ry
  exact SeqAt.compareNe_reads r1 r2 sd se (by omega) ⟨.bl _, H, I, rfl, q⟩
@[simp] def d2 (f : D → D → Re W) (a b : Option D) : Re W := match a, b with
  | some x, some y => f x y
  | _, _ => .stuck
@[simp] def shal (x y : D) : Bool := decide (x.depth ≤ 64) || decide (y.depth ≤ 64)
@[simp] def W.t? : W → Option Str
  | .t z => some z
  | _ => none
@[simp] def fEqT (neg : Bool) (w y : W) (h : Sto) : Re W := match w.t?, y.t? with
  | some a, some b => .ok (.d (.bl (if neg then !decide (a = b) else decide (a = b)))) h
  | _, _ => .stuck
theorem W.t?_some {w : W} {z : Str} (e : w.t? = some z) : w = .t z := by
  unfold W.t? at e
  split at e <;> simp_all
@[simp] def fEq (w y : W) (h : Sto) : Re W := d2 (fun x y => if shal x y = true then .ok (.d (.bl (x.eq y))) h else .stuck) (dataOf h w) (dataOf h y)
@[simp] def fNe (w y : W) (h : Sto) : Re W := d2 (fun x y => if shal x y = true then .ok (.d (.bl (!x.eq y))) h else .stuck) (dataOf h w) (dataOf h y)
theorem d2_inv {F : D → D → Re W} {a b : Option D} (p : Po g Z σ fl (RW g) H M Q (d2 F a b)) : ∃ x y, a = some x ∧ b = some y ∧ Po g Z σ fl (RW g) H M Q (F x y) := by
  cases a with
  | none => exact p.elim
  | some x =>
    cases b with
    | none => exact p.elim
    | some y => exact ⟨x, y, rfl, rfl, p⟩
theorem shal_min {x y : D} (h : shal x y = true) : min x.py.depth y.py.depth ≤ 64 := by
  rw [D.depth_py, D.depth_py]
  simp only [shal, Bool.or_eq_true, decide_eq_true_eq] at h
  omega
theorem o_eq (hu : X.A.units + 64 < cLine) (hK : X.K = g.K := by rfl) : Op2 X g Z (compareOp .Eq) fEq := ⟨_, op_eqM hu, fun rh rx ry p => by
  obtain ⟨x, y, e1, e2, p⟩ := d2_inv p
  obtain ⟨q, p⟩ := po_if p
  obtain ⟨d1, l1⟩ := dataOf_dp rh rx e1
  obtain ⟨d2, l2⟩ := dataOf_dp rh ry e2
  rw [hK]
  exact ⟨_, _, d1, d2, l1, l2, shal_min q, by rw [← D.eq_py]; exact po_bl rh p⟩⟩
theorem o_ne (hu : X.A.units + 64 < cLine) (hK : X.K = g.K := by rfl) : Op2 X g Z (compareOp .NotEq) fNe := ⟨_, op_neM hu, fun rh rx ry p => by
  obtain ⟨x, y, e1, e2, p⟩ := d2_inv p
  obtain ⟨q, p⟩ := po_if p
  obtain ⟨d1, l1⟩ := dataOf_dp rh rx e1
  obtain ⟨d2, l2⟩ := dataOf_dp rh ry e2
  rw [hK]
  exact ⟨_, _, d1, d2, l1, l2, shal_min q, by rw [← D.eq_py]; exact po_bl rh p⟩⟩
theorem fEqT_ok {neg : Bool} (rh : RH g H M fl h) (rx : RW g H M v w) (ry : RW g H M u y) (p : Po g Z σ fl (RW g) H M Q (fEqT neg w y h)) : ∃ a b, v = .str a ∧ u = .str b ∧ Q (.bl (if neg then !decide (a = b) else decide (a = b))) H := by
  simp only [fEqT] at p
  cases e1 : w.t? with
  | none => rw [e1] at p; exact p.elim
  | some a =>
    cases e2 : y.t? with
    | none => rw [e1, e2] at p; exact p.elim
    | some b =>
      rw [e1, e2] at p
      rw [W.t?_some e1] at rx
      rw [W.t?_some e2] at ry
      cases rx
      cases ry
      exact ⟨a, b, rfl, rfl, po_bl rh p⟩
theorem dec_strV {a b : Str} : decide (V.str a = V.str b) = decide (a = b) := by
  by_cases e : a = b
  · subst e; simp
  · rw [decide_eq_false e, decide_eq_false (fun q => e (V.str.inj q))]
theorem o_eqT : Op2 X g Z (compareOp .Eq) (fEqT false) := ⟨_, op_eq, fun rh rx ry p => by
  obtain ⟨a, b, rfl, rfl, q⟩ := fEqT_ok rh rx ry p
  exact ⟨rfl, by rw [dec_strV]; exact q⟩⟩
theorem o_neT : Op2 X g Z (compareOp .NotEq) (fEqT true) := ⟨_, op_ne, fun rh rx ry p => by
  obtain ⟨a, b, rfl, rfl, q⟩ := fEqT_ok rh rx ry p
  exact ⟨rfl, by rw [dec_strV]; exact q⟩⟩
end
end
end Xs

/-! XsF: items, slices, stores, methods of lists. -/
namespace Xs
noncomputable section
open PySem PySem.Spec PyProof.Rows L2
@[simp] def W.key? : W → Option Key
  | .d (.int i) => some (.inl i)
  | .d (.str z) => some (.inr z)
  | _ => none
/-- a value that the object at place k may hold while a def runs that will drop what is new: not a newer place -/
@[simp] def W.okAt (k : Nat) : W → Bool
  | .l j => decide (j ≤ k)
  | _ => true
@[simp] def W.isD : W → Bool
  | .l _ => false
  | _ => true
/-- a table's entry -/
def look {α : Type} (kvs : List (Key × α)) (k : Key) : Option α := (kvs.find? fun kv => decide (kv.1 = k)).map (·.2)
/-- what a dict holds -/
@[simp] def dctOf (h : Sto) : W → Option (List (Key × W))
  | .f kvs => some (kvs.map fun p => (p.1, .d p.2))
  | .l k => match h.o[k]? with
    | some (.dct kvs) => some kvs
    | _ => none
  | _ => none
section
variable {X : Cx} {g : G} {Z : WX} {a b c : Expr} {xa xb xc : XE} {pos : Pos} {H : Hp} {M : Mu} {fl : List Nat} {h : Sto} {v u : V} {w y : W} {σ : L2.St} {Q : VK}
theorem W.key?_some {k : Key} (e : y.key? = some k) (r : RW g H M u y) : u = kV k := by
  cases y with
  | d x =>
    cases x with
    | int i => cases e; exact r.int_inv
    | str s => cases e; exact r.str_inv.1
    | _ => cases e
  | _ => cases e
theorem RDk.toW {κ : Type} {vs : List (κ × V)} {ds : List (κ × D)} : RDk g H M.B vs ds → RWk g H M vs (ds.map fun p => (p.1, .d p.2))
  | .nil => .nil
  | .cons a b => .cons ⟨rfl, .d a⟩ (RDk.toW b)
theorem RWk.look {vs : List (Key × V)} {ws : List (Key × W)} (q : RWk g H M vs ws) (k : Key) : (look ws k = none ∧ valV vs k = none) ∨ ∃ v w, look ws k = some w ∧ valV vs k = some v ∧ RW g H M v w := by
  induction q with
  | nil => exact .inl ⟨rfl, rfl⟩
  | @cons p q vs ws h1 h2 ih =>
    unfold Xs.look valV at ih ⊢
    rw [List.find?_cons, List.find?_cons, h1.1]
    by_cases e : q.1 = k
    · rw [decide_eq_true e]
      exact .inr ⟨_, _, rfl, rfl, h1.2⟩
    · rw [decide_eq_false e]
      exact ih
theorem dctOf_h {ws : List (Key × W)} (rh : RH g H M fl h) (r : RW g H M v w) (e : dctOf h w = some ws) : ∃ a xs, v = .ref a ∧ H a = some (.dK xs) ∧ RWk g H M xs ws := by
  cases w with
  | f kvs =>
    cases e
    obtain ⟨a, xs, rfl, ht, hd⟩ := r.f_inv
    exact ⟨a, xs, rfl, ht.1, hd.toW⟩
  | l k =>
    obtain ⟨a, rfl, e1⟩ := r.l_inv
    simp only [dctOf] at e
    split at e
    · rename_i ws' ew
      cases e
      obtain ⟨vs, hv, rv⟩ := rh.dct e1 ew
      exact ⟨a, vs, rfl, hv, rv⟩
    · cases e
  | _ => cases e
/-! ### items -/
theorem ix_dict (hu : X.A.units + 1 < cLine) : IxR X (fun x y H Q => ∃ a v, x = .ref a ∧ DGet H a y (some v) ∧ Q v H) := by
  intro value slice pins s σ H x y v u Q I rx ry h hs
  obtain ⟨a, z, rfl, hg, q⟩ := h
  cases rx
  exact tail_any (dict_typeIs I hg) PySem.F.slot_dict_getitem.lookup (d_getItem hu I hg ry fun w' s3 I3 rw' => ⟨z, H, I3, rw', q⟩) hs
/-- an item of a list, a tuple, a text, a dict -/
@[simp] def fIx (w y : W) (h : Sto) : Re W := match seqOf h w with
  | some ws => match y.int? with
    | some i => match atI ws i with
      | some x => .ok x h
      | none => .stuck
    | none => .stuck
  | none => match dctOf h w with
    | some kvs => match y.key? with
      | some k => match look kvs k with
        | some x => .ok x h
        | none => .stuck
      | none => .stuck
    | none => match w.str?, y.int? with
      | some s, some i => match atI s.cps.toList i with
        | some c => if decide (s.length ≤ lim) then .ok (.d (.str ⟨#[c]⟩)) h else .stuck
        | none => .stuck
      | _, _ => .stuck
theorem atI_map {α β : Type} (f : α → β) (xs : List α) (i : Int) : atI (xs.map f) i = (atI xs i).map f := by
  unfold atI
  rw [List.length_map]
  cases ixN xs.length i with
  | none => rfl
  | some j => simp
theorem RWs.atI {vs : List V} {ws : List W} (q : RWs g H M vs ws) {i : Int} {x : W} (e : L2.atI ws i = some x) : ∃ v, L2.atI vs i = some v ∧ RW g H M v x := by
  unfold L2.atI at e ⊢
  rw [q.length]
  cases hj : ixN ws.length i with
  | none => rw [hj] at e; cases e
  | some j =>
    rw [hj] at e
    exact RWs.get q e
theorem strOk_one {s : Str} {i : Int} {c : Nat} (hs : PyData.strOk s = true) (e : L2.atI s.cps.toList i = some c) : PyData.strOk ⟨#[c]⟩ = true := by
  unfold L2.atI at e
  cases hj : ixN s.cps.toList.length i with
  | none => rw [hj] at e; cases e
  | some j =>
    rw [hj] at e
    have hm : c ∈ s.cps.toList := List.mem_of_getElem? e
    unfold PyData.strOk at hs ⊢
    rw [Array.all_eq_true'] at hs ⊢
    intro x hx
    have hx : x = c := by simpa using hx
    subst hx
    exact hs x (by simpa using hm)
theorem po_str {s : Str} (rh : RH g H M fl h) (hs : PyData.strOk s = true) (p : Po g Z σ fl (RW g) H M Q (.ok (.d (.str s)) h)) : Q (.str s) H := p _ H M (Ext.refl H M) rh (.d (.str s hs))
theorem se_ix (hu : X.A.units + 1 < cLine) (ha : PE X a (rdE g Z xa)) (hb : PE X b (rdE g Z xb)) (hs : PlainIx b := by exact fun _ _ => rfl) (hK : X.K = g.K := by rfl) : PE X (.Subscript a b pos) (rdE g Z (xBin fIx xa xb)) :=
  PE.imp (pe_ix (ix_seq.or (ix_dict hu)) ha hb hs) fun σ H Q => rd_bin (fun {σ H M fl h v u x y Q} rh rx ry p => by
    rw [hK]
    simp only [fIx] at p
    cases e : seqOf h x with
    | some ws =>
      rw [e] at p
      simp only at p
      cases e2 : y.int? with
      | none => rw [e2] at p; exact p.elim
      | some i =>
        rw [e2] at p
        simp only at p
        cases e3 : L2.atI ws i with
        | none => rw [e3] at p; exact p.elim
        | some z =>
          rw [e3] at p
          rw [W.int?_some e2] at ry
          obtain rfl := ry.int_inv
          obtain ⟨p1, xs, rfl, sq, rv⟩ := seqOf_sq rh rx e
          obtain ⟨z', e4, rz⟩ := RWs.atI rv e3
          rcases sq with sq | sq
          · exact .inl (.inl ⟨p1, xs, i, z', rfl, rfl, sq, e4, p _ H M (Ext.refl H M) rh rz⟩)
          · exact .inl (.inr (.inl ⟨p1, xs, i, z', rfl, rfl, sq, e4, p _ H M (Ext.refl H M) rh rz⟩))
    | none =>
      rw [e] at p
      simp only at p
      cases e1 : dctOf h x with
      | some kvs =>
        rw [e1] at p
        simp only at p
        cases e2 : y.key? with
        | none => rw [e2] at p; exact p.elim
        | some k =>
          rw [e2] at p
          simp only at p
          obtain rfl := W.key?_some e2 ry
          obtain ⟨p1, xs, rfl, hv, rv⟩ := dctOf_h rh rx e1
          rcases RWk.look rv k with ⟨l1, l2⟩ | ⟨v', w', l1, l2, rw'⟩
          · rw [l1] at p; exact p.elim
          · rw [l1] at p
            exact .inr ⟨p1, v', rfl, by rw [← l2]; exact DGet.k hv, p _ H M (Ext.refl H M) rh rw'⟩
      | none =>
        rw [e1] at p
        simp only at p
        cases e2 : x.str? with
        | none => rw [e2] at p; exact p.elim
        | some s =>
          cases e3 : y.int? with
          | none => rw [e2, e3] at p; exact p.elim
          | some i =>
            rw [e2, e3] at p
            simp only at p
            cases e4 : L2.atI s.cps.toList i with
            | none => rw [e4] at p; exact p.elim
            | some cc =>
              rw [e4] at p
              obtain ⟨q, p⟩ := po_if p
              rw [decide_eq_true_eq, lim_line] at q
              rw [W.str?_some e2] at rx
              rw [W.int?_some e3] at ry
              obtain ⟨rfl, hok⟩ := rx.str_inv
              obtain rfl := ry.int_inv
              exact .inl (.inr (.inr ⟨s, i, cc, rfl, rfl, q, e4, po_str rh (strOk_one hok e4) p⟩))) σ H Q

/-! ### stores -/
theorem PSet.or {t t' : TSet} (h : PSet X t) (h' : PSet X t') : PSet X (fun o i v H Q => t o i v H Q ∨ t' o i v H Q) := fun pins s σ H o i v ov iv u Q I r1 r2 r3 q => q.elim (fun q => h pins s σ H o i v ov iv u Q I r1 r2 r3 q) (fun q => h' pins s σ H o i v ov iv u Q I r1 r2 r3 q)
theorem set_dict (hu : X.A.units + 1 < cLine) : PSet X (fun o i v H Q => ∃ a H', o = .ref a ∧ DPut H a i v H' ∧ Q H') := by
  intro pins s σ H o i v ov iv u Q I ro ri rv h
  obtain ⟨a, H', rfl, hp, q⟩ := h
  cases ro
  exact d_setItem hu I hp ri rv fun s' I' => ⟨H', I', q⟩
/-- in its place, or at the end -/
def put {α : Type} (kvs : List (Key × α)) (k : Key) (v : α) : List (Key × α) :=
  if (kvs.any fun kv => decide (kv.1 = k)) = true then kvs.map (fun kv => if kv.1 = k then (kv.1, v) else kv) else kvs ++ [(k, v)]
/-- o[i] = v -/
@[simp] def fPut (o i v : W) (h : Sto) : Re Unit := match o with
  | .l k => match h.o[k]? with
    | some (.lst ws) => match i.int? with
      | some n => match ixN ws.length n with
        | some j => .ok () ⟨h.o.set k (.lst (ws.set j v)), h.c && v.okAt k⟩
        | none => .stuck
      | none => .stuck
    | some (.dct kvs) => match i.key? with
      | some n => if kvs.length < lim then .ok () ⟨h.o.set k (.dct (put kvs n v)), h.c && v.okAt k⟩ else .stuck
      | none => .stuck
    | _ => .stuck
  | _ => .stuck
theorem W.okAt_lt {k f : Nat} (e : w.okAt k = true) (hk : k < f) : w.lt f := by
  cases w <;> first | trivial | skip
  simp only [W.okAt, decide_eq_true_eq] at e
  show _ < f
  omega
theorem W.isD_lt {f : Nat} (e : w.isD = true) : w.lt f := by cases w <;> first | trivial | cases e
theorem RWs.set {vs : List V} {ws : List W} (q : RWs g H M vs ws) (r : RW g H M v w) (j : Nat) : RWs g H M (vs.set j v) (ws.set j w) := by
  induction q generalizing j with
  | nil => exact .nil
  | cons a b ih =>
    cases j with
    | zero => exact .cons r b
    | succ j => exact .cons a (ih j)
theorem RWk.any {vs : List (Key × V)} {ws : List (Key × W)} (q : RWk g H M vs ws) (k : Key) : (vs.any fun kv => decide (kv.1 = k)) = ws.any fun kv => decide (kv.1 = k) := by
  induction q with
  | nil => rfl
  | cons a b ih => rw [List.any_cons, List.any_cons, ih, a.1]
theorem RWk.map {vs : List (Key × V)} {ws : List (Key × W)} (q : RWk g H M vs ws) (k : Key) (r : RW g H M v w) : RWk g H M (vs.map fun kv => if kv.1 = k then (kv.1, v) else kv) (ws.map fun kv => if kv.1 = k then (kv.1, w) else kv) := by
  induction q with
  | nil => exact .nil
  | @cons p q vs ws a b ih =>
    refine .cons ?_ ih
    show (if p.1 = k then (p.1, v) else p).1 = (if q.1 = k then (q.1, w) else q).1 ∧ RW g H M (if p.1 = k then (p.1, v) else p).2 (if q.1 = k then (q.1, w) else q).2
    rw [a.1]
    by_cases e : q.1 = k
    · rw [if_pos e, if_pos e]
      exact ⟨rfl, r⟩
    · rw [if_neg e, if_neg e]
      exact a
theorem Paired.app {α β : Type} {F : α → β → Prop} : ∀ {xs ys : List α} {us ws : List β}, Paired F xs us → Paired F ys ws → Paired F (xs ++ ys) (us ++ ws)
  | _, _, _, _, .nil, s => s
  | _, _, _, _, .cons r t, s => .cons r (Paired.app t s)
theorem RWk.put {vs : List (Key × V)} {ws : List (Key × W)} (q : RWk g H M vs ws) (k : Key) (r : RW g H M v w) : RWk g H M (putK vs k v) (Xs.put ws k w) := by
  unfold putK Xs.put
  rw [RWk.any q k]
  by_cases e : (ws.any fun kv => decide (kv.1 = k)) = true
  · rw [if_pos e, if_pos e]
    exact RWk.map q k r
  · rw [if_neg e, if_neg e]
    exact Paired.app q (.cons ⟨rfl, r⟩ .nil)
theorem put_lt {kvs : List (Key × W)} {k : Key} {f : Nat} (h : ∀ p ∈ kvs, p.2.lt f) (hw : w.lt f) : ∀ p ∈ Xs.put kvs k w, p.2.lt f := by
  unfold Xs.put
  split
  · intro p hp
    obtain ⟨q, hq, rfl⟩ := List.mem_map.mp hp
    by_cases e : q.1 = k
    · simp only [if_pos e]; exact hw
    · simp only [if_neg e]; exact h q hq
  · intro p hp
    rcases List.mem_append.mp hp with hp | hp
    · exact h p hp
    · rw [List.mem_singleton.mp hp]; exact hw
/-- behind a store -/
def PoU (g : G) (fl : List Nat) (H : Hp) (M : Mu) (Q : Hp → Prop) (x : Re Unit) : Prop := ∃ h', x = .ok () h' ∧ ∀ H', Ext H M H' M → RH g H' M fl h' → Q H'
theorem fPut_ok {o i : W} {ov iv : V} {Q : Hp → Prop} {K : PySem.W.Frag} (rh : RH g H M fl h) (ro : RW g H M ov o) (ri : RW g H M iv i) (rv : RW g H M v w) (p : PoU g fl H M Q (fPut o i w h)) :
    rSetL ov iv v H Q ∨ ∃ a H', ov = .ref a ∧ DPut H a iv v H' ∧ Q H' := by
  obtain ⟨h', e, q⟩ := p
  cases o with
  | l k =>
    obtain ⟨a, rfl, e1⟩ := ro.l_inv
    simp only [fPut] at e
    cases e2 : h.o[k]? with
    | none => rw [e2] at e; cases e
    | some ob =>
      rw [e2] at e
      cases ob with
      | ins _ _ => cases e
      | lst ws =>
        simp only at e
        cases e3 : i.int? with
        | none => rw [e3] at e; cases e
        | some n =>
          rw [e3] at e
          simp only at e
          cases e4 : ixN ws.length n with
          | none => rw [e4] at e; cases e
          | some j =>
            rw [e4] at e
            cases e
            obtain ⟨vs, hv, rvs⟩ := rh.lst e1 e2
            rw [W.int?_some e3] at ri
            obtain rfl := ri.int_inv
            have x : Ext H M (upd H a (.lst (vs.set j v))) M := Ext.put rh e1
            refine .inl ⟨a, vs, n, j, rfl, rfl, hv, by rw [RWs.length rvs]; exact e4, q _ x (rh.put e1 e2 (RWs.mono x rh.sub (RWs.set rvs rv j)) fun hc => ?_)⟩
            rw [Bool.and_eq_true] at hc
            exact ⟨hc.1, fun f hn hf z hz => (List.mem_or_eq_of_mem_set hz).elim (fun z1 => hf z z1) fun z1 => by rw [z1]; exact W.okAt_lt hc.2 hn⟩
      | dct kvs =>
        simp only at e
        cases e3 : i.key? with
        | none => rw [e3] at e; cases e
        | some n =>
          rw [e3] at e
          simp only at e
          by_cases hl : kvs.length < lim
          · rw [if_pos hl] at e
            cases e
            obtain ⟨vs, hv, rvs⟩ := rh.dct e1 e2
            obtain rfl := W.key?_some e3 ri
            have x : Ext H M (upd H a (.dK (putK vs n v))) M := Ext.put rh e1
            refine .inr ⟨a, _, rfl, DPut.k hv (by rw [Paired.length rvs, ← lim_line]; exact hl), q _ x (rh.put e1 e2 (RWk.mono x rh.sub (RWk.put rvs n rv)) fun hc => ?_)⟩
            rw [Bool.and_eq_true] at hc
            exact ⟨hc.1, fun f hn hf => put_lt hf (W.okAt_lt hc.2 hn)⟩
          · rw [if_neg hl] at e
            cases e
  | _ => cases e
@[simp] def sPut (o i v : XE) : XS := fun r h => (v r h).then r fun w h1 => (o r h1).then r fun x h2 => (i r h2).then r fun y h3 => (fPut x y w h3).then r fun _ h4 => .nx r h4
theorem ss_put {o i e : Expr} {xo xi xe : XE} {tpos : Pos} (hu : X.A.units + 1 < cLine) (ho : PE X o (rdE g Z xo)) (hi : PE X i (rdE g Z xi)) (he : PE X e (rdE g Z xe)) (hs : swapsWithSole [.Subscript o i tpos] e pos.line X.env = pure false := by rfl) (hw : swappedStores [.Subscript o i tpos] e X.env = pure none := by rfl)
    (h1 : (assignEach [.Subscript o i tpos] X.env).map (·.2) = [assign (.Subscript o i tpos) X.env] := by rfl)
    (ha : ∀ v, assign (.Subscript o i tpos) X.env v = (do
      let ov ← holding [v] (eval o X.env)
      let iv ← holding [v, ov] (eval i X.env)
      standAt tpos
      holding [v, ov, iv] (setItem ov iv v)
      release [v, ov, iv] []) := by intro _; rfl) : PS X (.Assign [.Subscript o i tpos] e pos) (rdS g Z (sPut xo xi xe)) :=
  PS.imp (ps_asg he (pg_sub ho hi (PSet.or set_list (set_dict hu)) ha) hs hw h1) fun D σ H ⟨r, h, M, fl, rs, rh, p⟩ => ⟨r, h, M, fl, rs, rh, Po.then rs rh.sub p fun w h1 v H1 M1 e1 rs1 rh1 rw1 p1 =>
    ⟨r, h1, M1, fl, rs1, rh1, Po.then rs1 rh1.sub p1 fun x h2 ov H2 M2 e2 rs2 rh2 rx p2 => ⟨r, h2, M2, fl, rs2, rh2, Po.then rs2 rh2.sub p2 fun y h3 iv H3 M3 e3 rs3 rh3 ry p3 => by
      refine fPut_ok (K := X.K) rh3 (rx.mono e3 rh2.sub) ry ((rw1.mono e2 rh1.sub).mono e3 rh2.sub) ?_
      cases e4 : fPut x y w h3 with
      | ok z h4 =>
        rw [e4] at p3
        exact ⟨h4, rfl, fun H4 x4 rh4 => p3 σ H4 M3 x4 (rs3.mono x4 rh3.sub) rh4⟩
      | exc e h4 =>
        exfalso
        simp only [fPut] at e4
        split at e4 <;> first | (cases e4; done) | skip
        split at e4 <;> first | (cases e4; done) | skip
        · split at e4 <;> first | (cases e4; done) | skip
          split at e4 <;> cases e4
        · split at e4 <;> first | (cases e4; done) | skip
          split at e4 <;> cases e4
      | stuck => rw [e4] at p3; exact p3.elim⟩⟩⟩
end
end
end Xs

/-! XsG: more operators and built-ins. -/
namespace Xs
noncomputable section
open PySem PySem.Spec PyProof.Rows L2
@[simp] def D.flat : D → Bool
  | .lst _ => false
  | .tup _ => false
  | _ => true
theorem strOk_append {x y : Str} (hx : PyData.strOk x = true) (hy : PyData.strOk y = true) : PyData.strOk (x ++ y) = true := by
  unfold PyData.strOk at *
  show ((x.cps ++ y.cps).all fun c => decide (c < 0x110000)) = true
  rw [Array.all_append, hx, hy]
  rfl
section
variable {X : Cx} {g : G} {Z : WX} {a b c : Expr} {xa xb xc : XE} {pos : Pos} {H : Hp} {M : Mu} {fl : List Nat} {h : Sto} {v u : V} {w y : W} {σ : L2.St} {Q : VK}
/-! ### plus, times -/
@[simp] def fAddS (w y : W) (h : Sto) : Re W := match w.str?, y.str? with
  | some a, some b => if a.length + b.length ≤ lim then .ok (.d (.str (a ++ b))) h else .stuck
  | _, _ => .stuck
@[simp] def W.tup? : W → Option (List D)
  | .d (.tup z) => some z
  | _ => none
theorem W.tup?_some {w : W} {z : List D} (e : w.tup? = some z) : w = .d (.tup z) := by
  unfold W.tup? at e
  split at e <;> simp_all
@[simp] def fAddT (w y : W) (h : Sto) : Re W := match w.tup?, y.tup? with
  | some a, some b => if a.length + b.length ≤ lim then .ok (.d (.tup (a ++ b))) h else .stuck
  | _, _ => .stuck
/-- the data that a list holds, which isn't the script -/
@[simp] def ldOf (h : Sto) : W → Option (List D)
  | .d (.lst z) => some z
  | .l k => match h.o[k]? with
    | some (.lst ws) => pureL ws
    | _ => none
  | _ => none
theorem ldOf_h {ds : List D} (rh : RH g H M fl h) (r : RW g H M v w) (e : ldOf h w = some ds) : ∃ a xs, v = .ref a ∧ H a = some (.lst xs) ∧ RDs g H M.B xs ds := by
  cases w with
  | d x =>
    cases x with
    | lst z =>
      cases e
      obtain ⟨a, xs, rfl, ht, hd⟩ := r.lst_inv
      exact ⟨a, xs, rfl, ht.1, hd⟩
    | _ => cases e
  | l k =>
    obtain ⟨a, rfl, e1⟩ := r.l_inv
    simp only [ldOf] at e
    split at e
    · rename_i ws ew
      obtain ⟨vs, hv, rv⟩ := rh.lst e1 ew
      rw [pureL_some e] at rv
      exact ⟨a, vs, rfl, hv, RWs.toD rv⟩
    · cases e
  | _ => cases e
@[simp] def fAddL (w y : W) (h : Sto) : Re W := match ldOf h w, ldOf h y with
  | some a, some b => if a.length + b.length ≤ lim then .ok (.d (.lst (a ++ b))) h else .stuck
  | _, _ => .stuck
@[simp] def fAddI (w y : W) (h : Sto) : Re W := i2 (fun i j => .ok (.d (.int (i + j))) h) w y
theorem o_add : Op2 X g Z (binaryOp .Add) fAddI := ⟨_, op_add, fun rh rx ry p => by
  obtain ⟨i, j, rfl, rfl, p⟩ := i2_inv p rx ry
  exact ⟨i, j, rfl, rfl, po_int rh p⟩⟩
theorem o_addS : Op2 X g Z (binaryOp .Add) fAddS := ⟨_, op_add_str, fun {σ H M fl h v u w y Q} rh rx ry p => by
  simp only [fAddS] at p
  cases e1 : w.str? with
  | none => rw [e1] at p; exact p.elim
  | some a =>
    cases e2 : y.str? with
    | none => rw [e1, e2] at p; exact p.elim
    | some b =>
      rw [e1, e2] at p
      obtain ⟨q, p⟩ := po_ifP p
      rw [W.str?_some e1] at rx
      rw [W.str?_some e2] at ry
      obtain ⟨rfl, h1⟩ := rx.str_inv
      obtain ⟨rfl, h2⟩ := ry.str_inv
      exact ⟨a, b, rfl, rfl, by rw [← lim_line]; exact q, po_str rh (strOk_append h1 h2) p⟩⟩
theorem RDs.app {xs ys : List V} {ds es : List D} (q : RDs g H M.B xs ds) (r : RDs g H M.B ys es) : RDs g H M.B (xs ++ ys) (ds ++ es) := by
  induction ds generalizing xs with
  | nil => cases q; exact r
  | cons d ds ih =>
    cases q with
    | cons a b => exact .cons a (ih b)
theorem o_addT (hK : X.K = g.K := by rfl) : Op2 X g Z (binaryOp .Add) fAddT := ⟨_, op_catA, fun {σ H M fl h v u w y Q} rh rx ry p => by
  simp only [fAddT] at p
  cases e1 : w.tup? with
  | none => rw [e1] at p; exact p.elim
  | some a =>
    cases e2 : y.tup? with
    | none => rw [e1, e2] at p; exact p.elim
    | some b =>
      rw [e1, e2] at p
      obtain ⟨q, p⟩ := po_ifP p
      rw [W.tup?_some e1] at rx
      rw [W.tup?_some e2] at ry
      obtain ⟨p1, xs, rfl, t1, d1⟩ := rx.tup_inv
      obtain ⟨p2, ys, rfl, t2, d2⟩ := ry.tup_inv
      rw [hK]
      refine ⟨p1, p2, xs, ys, rfl, rfl, t1, t2, by rw [d1.len, d2.len, ← lim_line]; exact q, fun e => ?_, fun e e' => ?_, fun e e' z hz => ?_⟩
      · subst e
        cases d1
        exact p _ H M (Ext.refl H M) rh (.d (.tup t2 d2))
      · subst e'
        cases d2
        rw [List.append_nil] at p
        exact p _ H M (Ext.refl H M) rh (.d (.tup t1 d1))
      · exact po_tup rh p (RDs.app d1 d2) hz⟩
theorem o_addL : Op2 X g Z (binaryOp .Add) fAddL := ⟨_, op_cat, fun {σ H M fl h v u w y Q} rh rx ry p => by
  simp only [fAddL] at p
  cases e1 : ldOf h w with
  | none => rw [e1] at p; exact p.elim
  | some a =>
    cases e2 : ldOf h y with
    | none => rw [e1, e2] at p; exact p.elim
    | some b =>
      rw [e1, e2] at p
      obtain ⟨q, p⟩ := po_ifP p
      obtain ⟨p1, xs, rfl, t1, d1⟩ := ldOf_h rh rx e1
      obtain ⟨p2, ys, rfl, t2, d2⟩ := ldOf_h rh ry e2
      exact ⟨p1, p2, xs, ys, rfl, rfl, t1, t2, by rw [d1.len, d2.len, ← lim_line]; exact q, fun z hz => po_lst rh p (RDs.app d1 d2) hz⟩⟩
/-- either of two rules, by what they give -/
@[simp] def orElse (f g : W → W → Sto → Re W) (w y : W) (h : Sto) : Re W := match f w y h with
  | .stuck => g w y h
  | o => o
theorem Op2.or {f : Value → Value → Sem Value} {F F' : W → W → Sto → Re W} (o : Op2 X g Z f F) (o' : Op2 X g Z f F') : Op2 X g Z f (orElse F F') := by
  obtain ⟨r, h1, k1⟩ := o
  obtain ⟨r', h2, k2⟩ := o'
  refine ⟨_, h1.or h2, fun {σ H M fl h v u w y Q} rh rx ry p => ?_⟩
  simp only [orElse] at p
  cases e : F w y h with
  | stuck => rw [e] at p; exact .inr (k2 rh rx ry p)
  | ok _ _ => rw [e] at p; exact .inl (k1 rh rx ry (by rw [e]; exact p))
  | exc _ _ => rw [e] at p; exact .inl (k1 rh rx ry (by rw [e]; exact p))
/-- a list repeated -/
theorem repOk_ex : ∃ f : Nat → Int → Bool, f = fun l k => decide (-(2 ^ 63) ≤ k) && decide (k < 2 ^ 63) && decide (l * k.toNat ≤ lim) := ⟨_, rfl⟩
def repOk : Nat → Int → Bool := Classical.choose repOk_ex
theorem repOk_eq (l : Nat) (k : Int) : repOk l k = (decide (-(2 ^ 63) ≤ k) && decide (k < 2 ^ 63) && decide (l * k.toNat ≤ lim)) := congrFun (congrFun (Classical.choose_spec repOk_ex) l) k
theorem repOk_nat {l n : Nat} (h : l * n ≤ lim) (hn : n ≤ 16000000) : repOk l (n : Int) = true := by
  rw [repOk_eq]
  rw [Bool.and_eq_true, Bool.and_eq_true, decide_eq_true_eq, decide_eq_true_eq, decide_eq_true_eq]
  exact ⟨⟨by omega, by omega⟩, by simpa using h⟩
@[simp] def repL {α : Type} (xs : List α) (k : Int) : List α := (List.replicate k.toNat xs).flatten
@[simp] def fRepL (w y : W) (h : Sto) : Re W := match ldOf h w, y.int? with
  | some z, some k => if repOk z.length k = true then .ok (.d (.lst (repL z k))) h else .stuck
  | _, _ => .stuck
@[simp] def fRepN (w y : W) (h : Sto) : Re W := match ldOf h w, y.int? with
  | some z, some k => if repOk z.length k = true then .ok (.l h.o.length) ⟨h.o ++ [.lst ((repL z k).map .d)], h.c⟩ else .stuck
  | _, _ => .stuck
theorem RDs.rep {xs : List V} {ds : List D} (q : RDs g H M.B xs ds) (n : Nat) : RDs g H M.B (List.replicate n xs).flatten (List.replicate n ds).flatten := by
  induction n with
  | zero => exact .nil
  | succ n ih =>
    rw [List.replicate_succ, List.replicate_succ, List.flatten_cons, List.flatten_cons]
    exact RDs.app q ih
theorem o_mul : Op2 X g Z (binaryOp .Mult) fMul := ⟨_, op_mul, fun rh rx ry p => by
  obtain ⟨i, j, rfl, rfl, p⟩ := i2_inv p rx ry
  obtain ⟨q, p⟩ := po_if p
  exact ⟨i, j, rfl, rfl, mul_ok q, po_int rh p⟩⟩
theorem o_repL : Op2 X g Z (binaryOp .Mult) fRepL := ⟨_, op_rep, fun {σ H M fl h v u w y Q} rh rx ry p => by
  simp only [fRepL] at p
  cases e1 : ldOf h w with
  | none => rw [e1] at p; exact p.elim
  | some z =>
    cases e2 : y.int? with
    | none => rw [e1, e2] at p; exact p.elim
    | some k =>
      rw [e1, e2] at p
      obtain ⟨q, p⟩ := po_if p
      rw [repOk_eq] at q
      rw [Bool.and_eq_true, Bool.and_eq_true, decide_eq_true_eq, decide_eq_true_eq, decide_eq_true_eq] at q
      obtain ⟨p1, xs, rfl, t1, d1⟩ := ldOf_h rh rx e1
      rw [W.int?_some e2] at ry
      obtain rfl := ry.int_inv
      exact ⟨p1, k, xs, rfl, rfl, t1, q.1.1, q.1.2, by rw [d1.len, ← lim_line]; exact q.2, fun n hn => po_lst rh p (RDs.rep d1 _) hn⟩⟩
theorem o_repN : Op2 X g Z (binaryOp .Mult) fRepN := ⟨_, op_rep, fun {σ H M fl h v u w y Q} rh rx ry p => by
  simp only [fRepN] at p
  cases e1 : ldOf h w with
  | none => rw [e1] at p; exact p.elim
  | some z =>
    cases e2 : y.int? with
    | none => rw [e1, e2] at p; exact p.elim
    | some k =>
      rw [e1, e2] at p
      obtain ⟨q, p⟩ := po_if p
      rw [repOk_eq] at q
      rw [Bool.and_eq_true, Bool.and_eq_true, decide_eq_true_eq, decide_eq_true_eq, decide_eq_true_eq] at q
      obtain ⟨p1, xs, rfl, t1, d1⟩ := ldOf_h rh rx e1
      rw [W.int?_some e2] at ry
      obtain rfl := ry.int_inv
      exact ⟨p1, k, xs, rfl, rfl, t1, q.1.1, q.1.2, by rw [d1.len, ← lim_line]; exact q.2, fun n hn => po_new rh p (RDs.rep d1 _).toW hn⟩⟩

/-! ### in -/
theorem RD.flat {x : D} (r : RD g H M.B v x) (f : x.flat = true) : flatV v = true := by
  cases r <;> first | rfl | cases f
theorem RD.eqV {x z : D} (r : RD g H M.B v x) (q : RD g H M.B u z) (f : x.flat = true) (f' : z.flat = true) : L2.eqV v u = x.eq z := by
  cases r <;> first | (cases f; done) | skip
  all_goals cases q <;> first | (cases f'; done) | rfl | (simp only [L2.eqV, D.eq]; done) | (simp only [L2.eqV, D.eq]; split <;> rfl)
theorem RDs.flat {xs : List V} {ds : List D} (r : RDs g H M.B xs ds) (f : ds.all D.flat = true) : xs.all flatV = true := by
  induction ds generalizing xs with
  | nil => cases r; rfl
  | cons d ds ih =>
    cases r with
    | cons a b =>
      rw [List.all_cons, Bool.and_eq_true] at f ⊢
      exact ⟨a.flat f.1, ih b f.2⟩
theorem RDs.inV {xs : List V} {ds : List D} {x : D} (r : RDs g H M.B xs ds) (q : RD g H M.B v x) (f : ds.all D.flat = true) (f' : x.flat = true) : L2.inV v xs = ds.any fun z => z.eq x := by
  unfold L2.inV
  induction ds generalizing xs with
  | nil => cases r; rfl
  | cons d ds ih =>
    cases r with
    | cons a b =>
      rw [List.all_cons, Bool.and_eq_true] at f
      rw [List.any_cons, List.any_cons, ih b f.2, a.eqV q f.1 f']
/-- the data of a list or a tuple -/
@[simp] def sdOf (h : Sto) (w : W) : Option (List D) := match seqOf h w with
  | some ws => pureL ws
  | none => none
/-- x in a list, a tuple of flat data -/
@[simp] def fInL (neg : Bool) (w y : W) (h : Sto) : Re W := match w, sdOf h y with
  | .d x, some ds => if (x.flat && ds.all D.flat) = true then .ok (.d (.bl (if neg then !(ds.any fun z => z.eq x) else ds.any fun z => z.eq x))) h else .stuck
  | _, _ => .stuck
theorem fInL_ok {neg : Bool} {K : PySem.W.Frag} (hK : K = g.K) (rh : RH g H M fl h) (rx : RW g H M v w) (ry : RW g H M u y) (p : Po g Z σ fl (RW g) H M Q (fInL neg w y h)) : rIn K neg v u H Q := by
  subst hK
  simp only [fInL] at p
  cases w with
  | d x =>
    cases e : sdOf h y with
    | none => rw [e] at p; exact p.elim
    | some ds =>
      rw [e] at p
      obtain ⟨q, p⟩ := po_if p
      rw [Bool.and_eq_true] at q
      simp only [sdOf] at e
      cases e2 : seqOf h y with
      | none => rw [e2] at e; cases e
      | some ws =>
        rw [e2] at e
        obtain ⟨a, xs, rfl, sq, rv⟩ := seqOf_sq rh ry e2
        rw [pureL_some e] at rv
        have hd := RWs.toD rv
        cases rx with
        | d rx => exact ⟨a, xs, rfl, sq, rx.flat q.1, hd.flat q.2, by rw [RDs.inV hd rx q.2 q.1]; exact po_bl rh p⟩
  | _ => exact p.elim
theorem o_inL (hK : X.K = g.K := by rfl) : Op2 X g Z (compareOp .In) (fInL false) := ⟨_, op_in_seq, fun rh rx ry p => fInL_ok hK rh rx ry p⟩
theorem o_niL (hK : X.K = g.K := by rfl) : Op2 X g Z (compareOp .NotIn) (fInL true) := ⟨_, op_notIn_seq, fun rh rx ry p => fInL_ok hK rh rx ry p⟩
/-- a sign in a text -/
@[simp] def fInS (neg : Bool) (w y : W) (h : Sto) : Re W := match w.str?, y.str? with
  | some a, some b => match a.cps.toList with
    | [z] => .ok (.d (.bl (if neg then !decide (z ∈ b.cps.toList) else decide (z ∈ b.cps.toList)))) h
    | _ => .stuck
  | _, _ => .stuck
theorem fInS_ok {neg : Bool} (rh : RH g H M fl h) (rx : RW g H M v w) (ry : RW g H M u y) (p : Po g Z σ fl (RW g) H M Q (fInS neg w y h)) : ∃ (c : Nat) (z : Str), v = .str ⟨#[c]⟩ ∧ u = .str z ∧ Q (.bl (if neg then !decide (c ∈ z.cps.toList) else decide (c ∈ z.cps.toList))) H := by
  simp only [fInS] at p
  cases e1 : w.str? with
  | none => rw [e1] at p; exact p.elim
  | some a =>
    cases e2 : y.str? with
    | none => rw [e1, e2] at p; exact p.elim
    | some b =>
      rw [e1, e2] at p
      simp only at p
      split at p
      · rename_i z ez
        rw [W.str?_some e1] at rx
        rw [W.str?_some e2] at ry
        obtain ⟨rfl, _⟩ := rx.str_inv
        obtain ⟨rfl, _⟩ := ry.str_inv
        have ea : a = ⟨#[z]⟩ := by
          obtain ⟨cps⟩ := a
          have : cps = #[z] := Array.toList_inj.mp (by simpa using ez)
          rw [this]
        subst ea
        exact ⟨z, b, rfl, rfl, po_bl rh p⟩
      · exact p.elim
theorem o_inS : Op2 X g Z (compareOp .In) (fInS false) := ⟨_, op_in_sign, fun rh rx ry p => fInS_ok rh rx ry p⟩
theorem o_niS : Op2 X g Z (compareOp .NotIn) (fInS true) := ⟨_, op_notIn_sign, fun rh rx ry p => fInS_ok rh rx ry p⟩
/-- a key in a dict -/
@[simp] def fInD (neg : Bool) (w y : W) (h : Sto) : Re W := match w.key?, dctOf h y with
  | some k, some kvs => .ok (.d (.bl (if neg then !(look kvs k).isSome else (look kvs k).isSome))) h
  | _, _ => .stuck
theorem fInD_ok {neg : Bool} (rh : RH g H M fl h) (rx : RW g H M v w) (ry : RW g H M u y) (p : Po g Z σ fl (RW g) H M Q (fInD neg w y h)) : ∃ a o, u = .ref a ∧ DGet H a v o ∧ Q (.bl (if neg then !o.isSome else o.isSome)) H := by
  simp only [fInD] at p
  cases e1 : w.key? with
  | none => rw [e1] at p; exact p.elim
  | some k =>
    cases e2 : dctOf h y with
    | none => rw [e1, e2] at p; exact p.elim
    | some kvs =>
      rw [e1, e2] at p
      obtain rfl := W.key?_some e1 rx
      obtain ⟨a, xs, rfl, hv, rv⟩ := dctOf_h rh ry e2
      refine ⟨a, _, rfl, DGet.k (k := k) hv, ?_⟩
      have e3 : (look kvs k).isSome = (valV xs k).isSome := by
        rcases RWk.look rv k with ⟨l1, l2⟩ | ⟨v', w', l1, l2, _⟩ <;> rw [l1, l2] <;> rfl
      rw [← e3]
      exact po_bl rh p
theorem op_dinR (hu : X.A.units + 1 < cLine) : OpR X (compareOp .In) (fun x y H Q => ∃ a o, y = .ref a ∧ DGet H a x o ∧ Q (.bl o.isSome) H) := by
  intro pins s σ H x y v u Q I rx ry h
  obtain ⟨a, o, rfl, hg, q⟩ := h
  cases ry
  exact d_in hu I hg rx fun s3 I3 => ⟨.bl o.isSome, H, I3, rfl, q⟩
theorem op_dniR (hu : X.A.units + 1 < cLine) : OpR X (compareOp .NotIn) (fun x y H Q => ∃ a o, y = .ref a ∧ DGet H a x o ∧ Q (.bl (!o.isSome)) H) := by
  intro pins s σ H x y v u Q I rx ry h
  obtain ⟨a, o, rfl, hg, q⟩ := h
  cases ry
  exact d_notIn hu I hg rx fun s3 I3 => ⟨.bl (!o.isSome), H, I3, rfl, q⟩
theorem o_inD (hu : X.A.units + 1 < cLine) : Op2 X g Z (compareOp .In) (fInD false) := ⟨_, op_dinR hu, fun rh rx ry p => fInD_ok rh rx ry p⟩
theorem o_niD (hu : X.A.units + 1 < cLine) : Op2 X g Z (compareOp .NotIn) (fInD true) := ⟨_, op_dniR hu, fun rh rx ry p => fInD_ok rh rx ry p⟩

/-! ### truth -/
@[simp] def truth (h : Sto) (w : W) : Option Bool := match seqOf h w with
  | some ws => some !ws.isEmpty
  | none => match dctOf h w with
    | some kvs => some !kvs.isEmpty
    | none => match w with
      | .d .non => some false
      | .d (.bl z) => some z
      | .d (.int z) => some (z != 0)
      | .d (.str z) => if z.length ≤ lim then some ((z.length : Int) != 0) else none
      | _ => none
@[simp] def xTruth (a : XE) : XT := fun r h => (a r h).bind fun w h1 => match truth h1 w with
  | some z => .ok z h1
  | none => .stuck
theorem paired_empty {α β : Type} {F : α → β → Prop} {xs : List α} {ys : List β} (q : Paired F xs ys) : xs.isEmpty = ys.isEmpty := by cases q <;> rfl
theorem st_truth (ha : PE X a (rdE g Z xa)) (he : ∀ whole, isTrue a X.env whole = (do let v ← whole; standAt a.pos; holding [v] (truthy v)) := by intro _; rfl) (hK : X.K = g.K := by rfl) : PT X a (rdT g Z (xTruth xa)) :=
  PT.imp (pt_truth ha he) fun σ H Q ⟨r, h, M, fl, rs, rh, p⟩ => ⟨r, h, M, fl, rs, rh, Po.bind p fun w h1 v H1 M1 e1 rh1 rw1 p1 => by
    rw [hK]
    cases e : truth h1 w with
    | none => rw [e] at p1; exact p1.elim
    | some z =>
      rw [e] at p1
      refine ⟨z, ?_, p1 z H1 M1 (Ext.refl H1 M1) rh1 rfl⟩
      simp only [truth] at e
      cases e2 : seqOf h1 w with
      | some ws =>
        rw [e2] at e
        cases e
        obtain ⟨a, xs, rfl, sq, rv⟩ := seqOf_sq rh1 rw1 e2
        rcases sq with sq | sq
        · exact .inl ⟨xs, sq, by rw [paired_empty rv]⟩
        · exact .inr (.inl ⟨xs, sq, by rw [paired_empty rv]⟩)
      | none =>
        rw [e2] at e
        simp only at e
        cases e3 : dctOf h1 w with
        | some kvs =>
          rw [e3] at e
          cases e
          obtain ⟨a, xs, rfl, hv, rv⟩ := dctOf_h rh1 rw1 e3
          exact .inr (.inr ⟨xs, hv, by rw [paired_empty rv]⟩)
        | none =>
          rw [e3] at e
          cases w with
          | d x =>
            cases x with
            | non => cases e; obtain rfl := rw1.non_inv; rfl
            | bl _ => cases e; obtain rfl := rw1.bl_inv; rfl
            | int _ => cases e; obtain rfl := rw1.int_inv; rfl
            | str s =>
              obtain ⟨rfl, _⟩ := rw1.str_inv
              simp only at e
              by_cases hl : s.length ≤ lim
              · rw [if_pos hl] at e
                cases e
                exact ⟨by rw [← lim_line]; exact hl, rfl⟩
              · rw [if_neg hl] at e
                cases e
            | _ => cases e
          | _ => cases e⟩

/-! ### is None -/
@[simp] def isNon : W → Bool
  | .d .non => true
  | _ => false
@[simp] def xIsN (neg : Bool) (a : XE) : XE := fun r h => (a r h).bind fun w h1 => .ok (.d (.bl (if neg then !isNon w else isNon w))) h1
theorem isNon_iff (r : RW g H M v w) : isNon w = decide (v = .non) := by
  cases r with
  | d r => cases r <;> rfl
  | _ => rfl
theorem Re.bind_assoc {α β γ : Type} (x : Re α) (k : α → Sto → Re β) (l : β → Sto → Re γ) : (x.bind k).bind l = x.bind fun a h => (k a h).bind l := by
  cases x <;> rfl
theorem Po.assoc {α β γ δ : Type} {R : Hp → Mu → δ → γ → Prop} {Q : δ → Hp → Prop} {x : Re α} {k : α → Sto → Re β} {l : β → Sto → Re γ} (p : Po g Z σ fl R H M Q ((x.bind k).bind l)) : Po g Z σ fl R H M Q (x.bind fun a h => (k a h).bind l) := by
  rw [← Re.bind_assoc]
  exact p
theorem se_isN {j pos'} (ha : PE X a (rdE g Z xa)) : PE X (.Compare a [.Is] [.Constant .none j pos'] pos) (rdE g Z (xIsN false xa)) :=
  PE.imp (pe_cmp (pc_isN ha)) fun σ H Q ⟨r, h, M, fl, rs, rh, p⟩ => ⟨r, h, M, fl, rs, rh, Po.bind p fun w h1 v H1 M1 e1 rh1 rw1 p1 => by
    rw [← isNon_iff rw1]
    exact po_bl rh1 p1⟩
theorem se_notN {j pos'} (ha : PE X a (rdE g Z xa)) : PE X (.Compare a [.IsNot] [.Constant .none j pos'] pos) (rdE g Z (xIsN true xa)) :=
  PE.imp (pe_cmp (pc_notN ha)) fun σ H Q ⟨r, h, M, fl, rs, rh, p⟩ => ⟨r, h, M, fl, rs, rh, Po.bind p fun w h1 v H1 M1 e1 rh1 rw1 p1 => by
    rw [← isNon_iff rw1]
    exact po_bl rh1 p1⟩
theorem st_isN {j pos'} (ha : PE X a (rdE g Z xa)) : PT X (.Compare a [.Is] [.Constant .none j pos'] pos) (rdT g Z (xTest (xIsN false xa))) :=
  PT.imp (pt_cmp (pc_isN ha)) fun σ H Q ⟨r, h, M, fl, rs, rh, p⟩ => ⟨r, h, M, fl, rs, rh, Po.bind (Po.assoc p) fun w h1 v H1 M1 e1 rh1 rw1 p1 => ⟨_, rfl, by
    rw [← isNon_iff rw1]
    exact p1 _ H1 M1 (Ext.refl H1 M1) rh1 rfl⟩⟩
theorem st_notN {j pos'} (ha : PE X a (rdE g Z xa)) : PT X (.Compare a [.IsNot] [.Constant .none j pos'] pos) (rdT g Z (xTest (xIsN true xa))) :=
  PT.imp (pt_cmp (pc_notN ha)) fun σ H Q ⟨r, h, M, fl, rs, rh, p⟩ => ⟨r, h, M, fl, rs, rh, Po.bind (Po.assoc p) fun w h1 v H1 M1 e1 rh1 rw1 p1 => ⟨_, rfl, by
    rw [← isNon_iff rw1]
    exact p1 _ H1 M1 (Ext.refl H1 M1) rh1 rfl⟩⟩
end
end
end Xs

/-! XsH: built-ins. -/
namespace Xs
noncomputable section
open PySem PySem.Spec PyProof.Rows L2
section
variable {X : Cx} {g : G} {Z : WX} {a b c : Expr} {xa xb xc : XE} {pos : Pos} {H : Hp} {M : Mu} {fl : List Nat} {h : Sto} {v u : V} {w y : W} {σ : L2.St} {Q : VK}
/-- a call of one value -/
theorem Fn1.one {f : Value} {r : List V → Hp → VK → Prop} {F : W → Sto → Re W} (o : CallR X f r)
    (k : ∀ {σ : L2.St} {H : Hp} {M : Mu} {fl : List Nat} {h : Sto} {v : V} {w : W} {Q : VK}, RH g H M fl h → RW g H M v w → Po g Z σ fl (RW g) H M Q (F w h) → r [v] H Q) : Fn1 X g Z f (fun ws h => match ws with | [w] => F w h | _ => .stuck) :=
  ⟨r, o, fun {σ H M fl h vs ws Q} rh rw1 p => by
    cases ws with
    | nil => exact p.elim
    | cons w t =>
      cases t with
      | nil =>
        obtain ⟨v, rfl, rv⟩ := RWs.one rw1
        exact k rh rv p
      | cons _ _ => exact p.elim⟩
theorem Fn1.two {f : Value} {r : List V → Hp → VK → Prop} {F : W → W → Sto → Re W} (o : CallR X f r)
    (k : ∀ {σ : L2.St} {H : Hp} {M : Mu} {fl : List Nat} {h : Sto} {v u : V} {w y : W} {Q : VK}, RH g H M fl h → RW g H M v w → RW g H M u y → Po g Z σ fl (RW g) H M Q (F w y h) → r [v, u] H Q) : Fn1 X g Z f (fun ws h => match ws with | [w, y] => F w y h | _ => .stuck) :=
  ⟨r, o, fun {σ H M fl h vs ws Q} rh rw1 p => by
    cases ws with
    | nil => exact p.elim
    | cons w t =>
      cases t with
      | nil => exact p.elim
      | cons y t =>
        cases t with
        | nil =>
          obtain ⟨v, u, rfl, rv, ru⟩ := RWs.two rw1
          exact k rh rv ru p
        | cons _ _ => exact p.elim⟩
@[simp] def f1 (F : W → Sto → Re W) : List W → Sto → Re W := fun ws h => match ws with | [w] => F w h | _ => .stuck
@[simp] def f2 (F : W → W → Sto → Re W) : List W → Sto → Re W := fun ws h => match ws with | [w, y] => F w y h | _ => .stuck
/-- len -/
@[simp] def fLen (w : W) (h : Sto) : Re W := match seqOf h w with
  | some ws => .ok (.d (.int ws.length)) h
  | none => match w.str? with
    | some z => if z.length ≤ lim then .ok (.d (.int z.length)) h else .stuck
    | none => .stuck
theorem c_len (hK : X.K = g.K := by rfl) : Fn1 X g Z (.builtin "len") (f1 fLen) := Fn1.one call_len fun {σ H M fl h v w Q} rh rv p => by
  rw [hK]
  simp only [fLen] at p
  cases e : seqOf h w with
  | some ws =>
    rw [e] at p
    obtain ⟨a, xs, rfl, sq, r⟩ := seqOf_sq rh rv e
    refine ⟨_, ws.length, rfl, ?_, po_int rh p⟩
    rcases sq with sq | sq
    · exact .inl ⟨xs, sq, (RWs.length r).symm⟩
    · exact .inr ⟨xs, sq, (RWs.length r).symm⟩
  | none =>
    rw [e] at p
    simp only at p
    cases e2 : w.str? with
    | none => rw [e2] at p; exact p.elim
    | some z =>
      rw [e2] at p
      obtain ⟨q, p⟩ := po_ifP p
      rw [W.str?_some e2] at rv
      obtain ⟨rfl, _⟩ := rv.str_inv
      exact ⟨_, z.length, rfl, ⟨by rw [← lim_line]; exact q, rfl⟩, po_int rh p⟩
/-- int of a number -/
@[simp] def fInt (w : W) (h : Sto) : Re W := match w with
  | .d (.int z) => .ok (.d (.int z)) h
  | .d (.bl z) => .ok (.d (.int (if z then 1 else 0))) h
  | _ => .stuck
theorem c_int : Fn1 X g Z (.type "int") (f1 fInt) := Fn1.one call_int1 fun {σ H M fl h v w Q} rh rv p => by
  cases w with
  | d x =>
    cases x with
    | int z => obtain rfl := rv.int_inv; exact .inl ⟨z, rfl, po_int rh p⟩
    | bl z => obtain rfl := rv.bl_inv; exact .inr ⟨z, rfl, po_int rh p⟩
    | _ => exact p.elim
  | _ => exact p.elim
/-- list, tuple of a row -/
@[simp] def fList (w : W) (h : Sto) : Re W := match sdOf h w with
  | some ds => .ok (.d (.lst ds)) h
  | none => .stuck
@[simp] def fListN (w : W) (h : Sto) : Re W := match seqOf h w with
  | some ws => .ok (.l h.o.length) ⟨h.o ++ [.lst ws], h.c⟩
  | none => .stuck
@[simp] def fTuple (w : W) (h : Sto) : Re W := match sdOf h w with
  | some ds => .ok (.d (.tup ds)) h
  | none => .stuck
theorem sdOf_sq {ds : List D} (rh : RH g H M fl h) (r : RW g H M v w) (e : sdOf h w = some ds) : ∃ a xs, v = .ref a ∧ (SqL g.K H a xs ∨ SqT g.K H a xs) ∧ RDs g H M.B xs ds := by
  simp only [sdOf] at e
  cases e2 : seqOf h w with
  | none => rw [e2] at e; cases e
  | some ws =>
    rw [e2] at e
    obtain ⟨a, xs, rfl, sq, rv⟩ := seqOf_sq rh r e2
    rw [pureL_some e] at rv
    exact ⟨a, xs, rfl, sq, RWs.toD rv⟩
theorem c_list (hK : X.K = g.K := by rfl) : Fn1 X g Z (.type "list") (f1 fList) := Fn1.one call_list_of fun {σ H M fl h v w Q} rh rv p => by
  rw [hK]
  simp only [fList] at p
  cases e : sdOf h w with
  | none => rw [e] at p; exact p.elim
  | some ds =>
    rw [e] at p
    obtain ⟨a, xs, rfl, sq, hd⟩ := sdOf_sq rh rv e
    exact ⟨a, xs, rfl, sq, fun l hl => po_lst rh p hd hl⟩
theorem c_listN (hK : X.K = g.K := by rfl) : Fn1 X g Z (.type "list") (f1 fListN) := Fn1.one call_list_of fun {σ H M fl h v w Q} rh rv p => by
  rw [hK]
  simp only [fListN] at p
  cases e : seqOf h w with
  | none => rw [e] at p; exact p.elim
  | some ws =>
    rw [e] at p
    obtain ⟨a, xs, rfl, sq, hd⟩ := seqOf_sq rh rv e
    exact ⟨a, xs, rfl, sq, fun l hl => po_new rh p hd hl⟩
theorem c_tuple (hK : X.K = g.K := by rfl) : Fn1 X g Z (.type "tuple") (f1 fTuple) := Fn1.one call_tuple_of fun {σ H M fl h v w Q} rh rv p => by
  rw [hK]
  simp only [fTuple] at p
  cases e : sdOf h w with
  | none => rw [e] at p; exact p.elim
  | some ds =>
    rw [e] at p
    obtain ⟨a, xs, rfl, sq, hd⟩ := sdOf_sq rh rv e
    refine ⟨a, xs, rfl, ?_⟩
    rcases sq with sq | sq
    · exact .inl ⟨sq, fun l hl => po_tup rh p hd hl⟩
    · exact .inr ⟨sq, p _ H M (Ext.refl H M) rh (.d (.tup sq hd))⟩
/-- the ints of a row -/
@[simp] def intsD : List D → Option (List Int)
  | [] => some []
  | .int i :: r => (intsD r).map (i :: ·)
  | _ :: _ => none
@[simp] theorem intsD_map (ns : List Int) : intsD (ns.map .int) = some ns := by
  induction ns with
  | nil => rfl
  | cons n ns ih => simp [ih]
theorem intsD_some : ∀ {ds : List D} {ns : List Int}, intsD ds = some ns → ds = ns.map .int
  | [], _, h => by cases h; rfl
  | .int i :: r, ns, h => by
    simp only [intsD, Option.map_eq_some_iff] at h
    obtain ⟨rs, h1, rfl⟩ := h
    rw [intsD_some h1]
    rfl
  | .non :: _, _, h => nomatch h
  | .bl _ :: _, _, h => nomatch h
  | .str _ :: _, _, h => nomatch h
  | .tup _ :: _, _, h => nomatch h
  | .lst _ :: _, _, h => nomatch h
theorem RDs.ints {xs : List V} {ns : List Int} (q : RDs g H M.B xs (ns.map .int)) : xs = ns.map V.int := by
  induction ns generalizing xs with
  | nil => cases q; rfl
  | cons n ns ih =>
    cases q with
    | cons a b =>
      cases a
      rw [ih b]
      rfl
def maxI : List Int → Int
  | [] => 0
  | n :: r => r.foldl (fun a b => if b > a then b else a) n
theorem maxF_spec (r : List Int) : ∀ n : Int, r.foldl (fun a b => if b > a then b else a) n ∈ n :: r ∧ ∀ y ∈ n :: r, y ≤ r.foldl (fun a b => if b > a then b else a) n := by
  induction r with
  | nil => intro n; simp
  | cons m r ih =>
    intro n
    rw [List.foldl_cons]
    obtain ⟨h1, h2⟩ := ih (if m > n then m else n)
    generalize he : List.foldl (fun a b => if b > a then b else a) (if m > n then m else n) r = k at h1 h2
    refine ⟨?_, fun y hy => ?_⟩
    · rcases List.mem_cons.mp h1 with z | z
      · rw [z]; split <;> simp
      · simp [z]
    · have h3 := h2 (if m > n then m else n) List.mem_cons_self
      rcases List.mem_cons.mp hy with z | z
      · subst z; split at h3 <;> omega
      · rcases List.mem_cons.mp z with z | z
        · subst z; split at h3 <;> omega
        · exact h2 y (List.mem_cons_of_mem _ z)
theorem maxI_spec (n : Int) (r : List Int) : maxI (n :: r) ∈ n :: r ∧ ∀ y ∈ n :: r, y ≤ maxI (n :: r) := maxF_spec r n
@[simp] def fMax (w : W) (h : Sto) : Re W := match lstOf h w with
  | some ws => match pureL ws with
    | some ds => match intsD ds with
      | some ns => if 0 < ns.length then .ok (.d (.int (maxI ns))) h else .stuck
      | none => .stuck
    | none => .stuck
  | none => .stuck
theorem c_max (hc : X.calm = true) (hK : X.K = g.K := by rfl) : Fn1 X g Z (.builtin "max") (f1 fMax) := Fn1.one (cr_max hc) fun {σ H M fl h v w Q} rh rv p => by
  rw [hK]
  simp only [fMax] at p
  cases e : lstOf h w with
  | none => rw [e] at p; exact p.elim
  | some ws =>
    rw [e] at p
    simp only at p
    cases e2 : pureL ws with
    | none => rw [e2] at p; exact p.elim
    | some ds =>
      rw [e2] at p
      simp only at p
      cases e3 : intsD ds with
      | none => rw [e3] at p; exact p.elim
      | some ns =>
        rw [e3] at p
        obtain ⟨q, p⟩ := po_ifP p
        obtain ⟨a, xs, rfl, sq, r⟩ := lstOf_sq rh rv e
        rw [pureL_some e2, intsD_some e3] at r
        have hx := RDs.ints (RWs.toD r)
        subst hx
        refine ⟨a, ns, rfl, sq, q, fun m hm hle => ?_⟩
        cases ns with
        | nil => cases hm
        | cons n t =>
          obtain ⟨h1, h2⟩ := maxI_spec n t
          have : m = maxI (n :: t) := Int.le_antisymm (h2 m hm) (hle _ h1)
          rw [this]
          exact po_int rh p
@[simp] def fMax2 (w y : W) (h : Sto) : Re W := i2 (fun i j => .ok (.d (.int (if j > i then j else i))) h) w y
@[simp] def fMin2 (w y : W) (h : Sto) : Re W := i2 (fun i j => .ok (.d (.int (if j < i then j else i))) h) w y
theorem c_max2 (hc : X.calm = true) : Fn1 X g Z (.builtin "max") (f2 fMax2) := Fn1.two (call_max2 hc) fun {σ H M fl h v u w y Q} rh rv ru p => by
  obtain ⟨i, j, rfl, rfl, p⟩ := i2_inv p rv ru
  exact ⟨i, j, rfl, po_int rh p⟩
theorem c_min2 (hc : X.calm = true) : Fn1 X g Z (.builtin "min") (f2 fMin2) := Fn1.two (call_min2 hc) fun {σ H M fl h v u w y Q} rh rv ru p => by
  obtain ⟨i, j, rfl, rfl, p⟩ := i2_inv p rv ru
  exact ⟨i, j, rfl, po_int rh p⟩
end
/-! ### repr -/
mutual
@[simp] def D.rok : D → Bool
  | .int i => decide (i.natAbs.log2 < 1920)
  | .lst xs => D.roks xs
  | .tup xs => D.roks xs
  | _ => true
@[simp] def D.roks : List D → Bool
  | [] => true
  | x :: r => x.rok && D.roks r
end
mutual
@[simp] def D.cost : D → Nat
  | .non => 4
  | .bl _ => 5
  | .int _ => 1921
  | .str z => 10 * z.length + 2
  | .lst xs => D.costs xs + 3
  | .tup xs => D.costs xs + 3
@[simp] def D.costs : List D → Nat
  | [] => 0
  | x :: r => x.cost + 2 + D.costs r
end
mutual
theorem D.show_py : ∀ x : D, x.rok = true → x.py.showable = true
  | .non, _ => by simp [D.py, PyData.showable]
  | .bl _, _ => by simp [D.py, PyData.showable]
  | .int _, h => by simpa [D.py, PyData.showable] using h
  | .str _, _ => by simp [D.py, PyData.showable]
  | .lst xs, h => by simpa [D.py, PyData.showable] using D.shows_py xs (by simpa using h)
  | .tup xs, h => by simpa [D.py, PyData.showable] using D.shows_py xs (by simpa using h)
theorem D.shows_py : ∀ x : List D, D.roks x = true → PyData.showableAll (D.pys x) = true
  | [], _ => by simp [D.pys, PyData.showableAll]
  | x :: r, h => by
    simp only [D.roks, Bool.and_eq_true] at h
    simp [D.pys, PyData.showableAll, D.show_py x h.1, D.shows_py r h.2]
end
section
variable {X : Cx} {g : G} {Z : WX} {H : Hp} {B : Addr → Prop} {M : Mu} {fl : List Nat} {h : Sto} {v u : V} {w y : W} {σ : L2.St} {Q : VK}
mutual
theorem D.shown_len : ∀ {x : D}, x.py.canLay0 = true → x.rok = true → x.py.shown.length ≤ x.cost
  | .non, _, _ => by simp only [D.py, PyData.shown, D.cost]; decide +kernel
  | .bl b, _, _ => by cases b <;> (simp only [D.py, PyData.shown, D.cost]; decide +kernel)
  | .int i, _, h => by
    simp only [D.py, PyData.shown, D.cost]
    have h : i.natAbs.log2 < 1920 := by simpa using h
    have := int_text_length_le (k := 1920) (by decide) h
    rw [PySem.ofString_length]
    exact this
  | .str z, hl, _ => by
    simp only [D.py, PyData.shown, D.cost]
    refine StrLaws.reprText_len z fun c hc => ?_
    have hl : PyData.strOk z = true := by simpa [D.py, PyData.canLay0] using hl
    unfold PyData.strOk at hl
    rw [Array.all_eq_true'] at hl
    have := of_decide_eq_true (hl c (by simpa using hc))
    exact Nat.lt_of_lt_of_le this (by decide)
  | .lst xs, hl, h => by
    simp only [D.py, PyData.shown, D.cost]
    have h1 := D.showns_len (x := xs) (by simpa [D.py, PyData.canLay0] using hl) (by simpa using h)
    have h2 := listText_len_le (PyData.shownAll (D.pys xs))
    omega
  | .tup xs, hl, h => by
    simp only [D.py, PyData.shown, D.cost]
    have h1 := D.showns_len (x := xs) (by simpa [D.py, PyData.canLay0] using hl) (by simpa using h)
    have h2 := tupleText_len_le (PyData.shownAll (D.pys xs))
    omega
theorem D.showns_len : ∀ {x : List D}, PyData.canLayAll0 (D.pys x) = true → D.roks x = true → ((PyData.shownAll (D.pys x)).map (·.length)).sum + 2 * (PyData.shownAll (D.pys x)).length ≤ D.costs x
  | [], _, _ => by simp [D.pys, PyData.shownAll]
  | x :: r, hl, h => by
    simp only [D.pys, PyData.canLayAll0, Bool.and_eq_true, D.roks] at hl h
    have h1 := D.shown_len hl.1 h.1
    have h2 := D.showns_len hl.2 h.2
    simp only [D.pys, PyData.shownAll, D.costs, List.map_cons, List.sum_cons, List.length_cons]
    omega
end
theorem call_repr (hg : X.A.guards = some []) (hu : X.A.units + 100 < cLine) : CallR X (.builtin "repr") (fun xs H Q => ∃ v d, xs = [v] ∧ Dp X.K H v d ∧ d.showable = true ∧ d.canLay0 = true ∧ d.depth ≤ 64 ∧ d.shown.length ≤ sizeLine ∧ Q (.str d.shown) H) := by
  intro pins s σ H xs us Q I r h
  obtain ⟨v, d, rfl, dp, hs, hl, hd, hz, q⟩ := h
  obtain ⟨u, rfl, ru⟩ := vals1 r
  obtain ⟨as, rd1⟩ := Dp.reads I d v u dp ru
  cases dp with
  | non => cases ru; exact call_repr_gives (typeIs_none s) F.slot_NoneType_repr F.entry_NoneType_repr (F.args_NoneType_repr_1 _) gives_none_repr ⟨.str _, H, I.tok _, ⟨_, rfl⟩, q⟩
  | bl b => cases ru; exact P.repr_of_bool ⟨.str _, H, I.tok _, ⟨_, rfl⟩, q⟩
  | int i => obtain ⟨t, rfl⟩ := ru; exact P.repr_of_int (by simpa [PyData.showable] using hs) ⟨.str _, H, I.tok _, ⟨_, rfl⟩, q⟩
  | str z => obtain ⟨t, rfl⟩ := ru; exact P.repr_of_str ⟨.str _, H, I.tok _, ⟨_, rfl⟩, q⟩ hz
  | lst h1 h2 =>
    cases ru
    exact repr_of_reads' rd1 hs (PyData.noDict_hsm (PyData.hasDict_of_canLay _ hl)) hg (by omega) (fun b o e => e) (fun h' u tk hk => ⟨.str _, H, I.kept hk, ⟨_, rfl⟩, q⟩) hz
  | tup h1 h2 =>
    cases ru
    exact repr_of_reads' rd1 hs (PyData.noDict_hsm (PyData.hasDict_of_canLay _ hl)) hg (by omega) (fun b o e => e) (fun h' u tk hk => ⟨.str _, H, I.kept hk, ⟨_, rfl⟩, q⟩) hz
@[simp] def fRepr (w : W) (h : Sto) : Re W := match dataOf h w with
  | some x => if (x.rok && decide (x.depth ≤ 64) && decide (x.cost ≤ lim)) = true then .ok (.t x.py.shown) h else .stuck
  | none => .stuck
theorem c_repr (hg : X.A.guards = some []) (hu : X.A.units + 100 < cLine) (hK : X.K = g.K := by rfl) : Fn1 X g Z (.builtin "repr") (f1 fRepr) := Fn1.one (call_repr hg hu) fun {σ H M fl h v w Q} rh rv p => by
  simp only [fRepr] at p
  cases e : dataOf h w with
  | none => rw [e] at p; exact p.elim
  | some x =>
    rw [e] at p
    obtain ⟨q, p⟩ := po_if p
    rw [Bool.and_eq_true, Bool.and_eq_true, decide_eq_true_eq, decide_eq_true_eq] at q
    obtain ⟨d1, l1⟩ := dataOf_dp rh rv e
    rw [hK]
    exact ⟨v, _, rfl, d1, D.show_py _ q.1.1, l1, by rw [D.depth_py]; exact q.1.2, Nat.le_trans (D.shown_len l1 q.1.1) (by rw [← lim_line]; exact q.2), p _ H M (Ext.refl H M) rh .t⟩
end
end
end Xs

/-! XsI: comprehensions, slices, methods of lists. -/
namespace Xs
noncomputable section
open PySem PySem.Spec PyProof.Rows L2
def wipeR (r : Env) : List Nat → Env
  | [] => r
  | v :: vs => (wipeR r vs).set v none
/-- nothing is raised there -/
@[simp] def Re.noex {α : Type} : Re α → Re α
  | .exc _ _ => .stuck
  | o => o
/-- the turns of a comprehension -/
def lcLoop (nxt : Nxt) (tg : XG) (c : XT) (e : XE) : Nat → Nat → List W → Env → Sto → Re (List W)
  | 0, _, _, _, _ => .stuck
  | n + 1, i, acc, r, h => match nxt i h with
    | none => .stuck
    | some none => .ok acc h
    | some (some w) => match tg w r with
      | none => .stuck
      | some r1 => (c r1 h).noex.bind fun t h1 => if t = true then
          (e r1 h1).noex.bind fun x h2 => if acc.length < lim then lcLoop nxt tg c e n (i + 1) (acc ++ [x]) r h2 else .stuck
        else lcLoop nxt tg c e n (i + 1) acc r h1
def xLcs (src : XI) (tg : XG) (c : XT) (e : XE) (own : List Nat) : XA := fun r h => (src r h).bind fun p h1 => lcLoop p.2 tg c e p.1 0 [] (wipeR r own) h1
/-- its list: one that stays, one that may change -/
@[simp] def xLc (src : XI) (tg : XG) (c : XT) (e : XE) (own : List Nat) : XE := fun r h => (xLcs src tg c e own r h).bind fun ws h1 => match pureL ws with
  | some ds => .ok (.d (.lst ds)) h1
  | none => .stuck
@[simp] def xLcN (src : XI) (tg : XG) (c : XT) (e : XE) (own : List Nat) : XE := fun r h => (xLcs src tg c e own r h).bind fun ws h1 => .ok (.l h1.o.length) ⟨h1.o ++ [.lst ws], h1.c⟩
@[simp] def xYes : XT := fun _ h => .ok true h
section
variable {X : Cx} {g : G} {Z : WX} {pos : Pos} {H H' : Hp} {M M' : Mu} {fl : List Nat} {h : Sto} {v u : V} {w y : W} {σ : L2.St} {Q : VK} {r : Env}
theorem RS.wipe (q : RS g H M σ r) : ∀ own : List Nat, RS g H M (L2.wipe σ own) (wipeR r own)
  | [] => q
  | i :: own => (RS.wipe q own).unset
/-- the list at p is under work: it may change, it is no place of the store -/
structure Wk (H : Hp) (M : Mu) (p : Addr) (vs : List V) : Prop where
  at_ : H p = some (.lst vs)
  b : M.B p
  m : p ∉ M.m
theorem Wk.exw {p : Addr} {vs ys : List V} (k : Wk H M p vs) : Exw H M (upd H p (.lst ys)) M := by
  have e0 := k.at_
  refine ⟨fun _ _ e => e, fun a o e n => ⟨?_, n⟩, fun a xs e => ?_, fun a o u e => ?_⟩
  · refine .of ?_
    rw [upd_ne (fun z => n (by rw [z]; exact k.b))]; exact e
  · rw [upd_ne (fun z => by rw [z, e0] at e; cases e)]; exact e
  · rw [upd_ne (fun z => by rw [z, e0] at e; cases e)]; exact e
theorem RH.wk {p : Addr} {vs ys : List V} (q : RH g H M fl h) (k : Wk H M p vs) : RH g (upd H p (.lst ys)) M fl h :=
  ⟨q.nd, q.sub, q.len, fun n a o e1 e2 => by
    obtain ⟨u, h1, h2⟩ := q.ev n a o e1 e2
    exact ⟨u, by rw [upd_ne (fun z => k.m (by rw [← z]; exact List.mem_of_getElem? e1))]; exact h1, h2.mw k.exw⟩, q.cl, q.fle, fun t ht => by
    obtain ⟨ps, e, z⟩ := q.tb t ht
    exact ⟨ps, by rw [upd_ne (fun y => by rw [y, k.at_] at e; cases e)]; exact e, z⟩⟩
theorem Ext.wk {H1 : Hp} {M1 : Mu} {p : Addr} {ys : List V} (x : Ext H1 M1 H M) (hp : H1 p = none) : Ext H1 M1 (upd H p (.lst ys)) M := by
  have ne : ∀ a o, H1 a = some o → a ≠ p := fun a o e => ne_of_none e hp
  exact ⟨x.pre, fun a o e n => ⟨by rw [upd_ne (ne a o e)]; exact (x.old a o e n).1, (x.old a o e n).2⟩, x.bb, fun a xs e => by rw [upd_ne (ne a _ e)]; exact x.tup a xs e, fun a o u e => by rw [upd_ne (ne a _ e)]; exact x.frz a o u e,
    fun a o e => let ⟨o', e'⟩ := x.dom a o e; ⟨o', by rw [upd_ne (ne a o e)]; exact e'⟩⟩
theorem Wk.ext {p : Addr} {vs : List V} (k : Wk H M p vs) (x : Ext H M H' M') : Wk H' M' p vs := let ⟨e, n⟩ := x.old p _ k.at_ k.m; ⟨e, (x.bb p _ k.at_).mp k.b, n⟩
/-- the end: it stays from now on -/
theorem Wk.fz {H1 : Hp} {M1 : Mu} {p : Addr} {vs : List V} (k : Wk H M p vs) (x : Ext H1 M1 H M) (hp : H1 p = none) (q : RH g H M fl h) : Ext H1 M1 H (M.fz p) ∧ RH g H (M.fz p) fl h ∧ Exw H M H (M.fz p) := by
  have e : Exw H M H (M.fz p) := ⟨fun _ _ e => e, fun a o e n => ⟨.of e, fun z => n z.1⟩, fun _ _ e => e, fun _ _ _ e => e⟩
  refine ⟨⟨x.pre, x.old, fun a o e => (x.bb a o e).trans ⟨fun z => ⟨z, ne_of_none e hp⟩, fun z => z.1⟩, x.tup, x.frz, x.dom⟩, ⟨q.nd, fun a ha => ⟨q.sub a ha, fun z => k.m (by rw [← z]; exact ha)⟩, q.len, fun n a o e1 e2 => ?_, q.cl, q.fle, q.tb⟩, e⟩
  obtain ⟨u, h1, h2⟩ := q.ev n a o e1 e2
  exact ⟨u, h1, h2.mw e⟩
/-- the end: it is a place of the store from now on -/
theorem Wk.pl {H1 : Hp} {M1 : Mu} {p : Addr} {vs : List V} {ws : List W} (k : Wk H M p vs) (x : Ext H1 M1 H M) (hp : H1 p = none) (q : RH g H M fl h) (rv : RWs g H M vs ws) :
    Ext H1 M1 H ⟨M.B, M.m ++ [p]⟩ ∧ RH g H ⟨M.B, M.m ++ [p]⟩ fl ⟨h.o ++ [.lst ws], h.c⟩ := by
  have e : Exw H M H ⟨M.B, M.m ++ [p]⟩ := ⟨fun n a e => by
    show (M.m ++ [p])[n]? = _
    rw [List.getElem?_append_left (List.getElem?_eq_some_iff.mp e).1]
    exact e, fun a o e n => ⟨.of e, n⟩, fun _ _ e => e, fun _ _ _ e => e⟩
  refine ⟨⟨fun n a z => e.pre n a (x.pre n a z), fun a o e n => ⟨(x.old a o e n).1, fun z => ?_⟩, x.bb, x.tup, x.frz, x.dom⟩, ⟨?_, fun a ha => ?_, ?_, fun n a o e1 e2 => ?_, fun hc f hf j o hj ej => ?_, fun f hf => ?_, q.tb⟩⟩
  · rcases List.mem_append.mp z with z | z
    · exact (x.old a o e n).2 z
    · exact ne_of_none e hp (List.mem_singleton.mp z)
  · show (M.m ++ [p]).Nodup
    rw [List.nodup_append]
    exact ⟨q.nd, List.nodup_cons.mpr ⟨by simp, List.nodup_nil⟩, fun a ha b hb z => k.m (by rw [← List.mem_singleton.mp hb, ← z]; exact ha)⟩
  · rcases List.mem_append.mp ha with z | z
    · exact q.sub a z
    · rw [List.mem_singleton.mp z]; exact k.b
  · show (M.m ++ [p]).length = (h.o ++ [O.lst ws]).length
    rw [List.length_append, List.length_append, q.len]
    rfl
  · have e1' : (M.m ++ [p])[n]? = some a := e1
    have e2' : (h.o ++ [.lst ws])[n]? = some o := e2
    by_cases hn : n < M.m.length
    · rw [List.getElem?_append_left hn] at e1'
      rw [List.getElem?_append_left (by rw [← q.len]; exact hn)] at e2'
      obtain ⟨u', h1, h2⟩ := q.ev n a o e1' e2'
      exact ⟨u', h1, h2.mw e⟩
    · rw [List.getElem?_append_right (by omega)] at e1'
      rw [List.getElem?_append_right (by rw [← q.len]; omega)] at e2'
      have hz : n - M.m.length = 0 := by
        have := (List.getElem?_eq_some_iff.mp e1').1
        simp at this
        exact this
      rw [hz] at e1'
      rw [← q.len, hz] at e2'
      simp at e1' e2'
      subst e1' e2'
      exact ⟨_, k.at_, RWs.mw e rv⟩
  · have ej' : (h.o ++ [.lst ws])[j]? = some o := ej
    rw [List.getElem?_append_left (Nat.lt_of_lt_of_le hj (q.fle f hf))] at ej'
    exact q.cl hc f hf j o hj ej'
  · show f ≤ (h.o ++ [O.lst ws]).length
    rw [List.length_append]
    exact Nat.le_trans (q.fle f hf) (Nat.le_add_right _ _)
theorem RWs.app1 {vs : List V} {ws : List W} (q : RWs g H M vs ws) (r : RW g H M v w) : RWs g H M (vs ++ [v]) (ws ++ [w]) := Paired.app q (.cons r .nil)
theorem wipe_idem : ∀ own : List Nat, L2.wipe (L2.wipe σ own) own = L2.wipe σ own := fun own => by
  have key : ∀ (l : List Nat) (τ : L2.St), (∀ j ∈ l, ∀ v, τ[j]? ≠ some (some v)) → L2.wipe τ l = τ := by
    intro l
    induction l with
    | nil => intro τ _; rfl
    | cons i l ih =>
      intro τ hn
      show (L2.wipe τ l).set i none = τ
      rw [ih τ fun j hj => hn j (List.mem_cons_of_mem _ hj)]
      refine List.ext_getElem? fun k => ?_
      by_cases hk : i = k
      · subst hk
        rw [List.getElem?_set, if_pos rfl]
        split
        · rename_i hl
          have e := hn i List.mem_cons_self
          rw [List.getElem?_eq_getElem hl] at e ⊢
          cases e2 : τ[i] with
          | none => rfl
          | some v => exact absurd (by rw [e2]) (e v)
        · rename_i hl
          exact (List.getElem?_eq_none (by omega)).symm
      · rw [List.getElem?_set_ne hk]
  exact key own _ fun j hj v e => (wipe_some e).2 hj
theorem start_wk {H1 : Hp} {M1 : Mu} {D : Addr} (rh1 : RH g H1 M1 fl h) (hD : H1 D = none) : Ext H1 M1 (upd H1 D (.lst [])) ⟨fun a => M1.B a ∨ a = D, M1.m⟩ ∧ RH g (upd H1 D (.lst [])) ⟨fun a => M1.B a ∨ a = D, M1.m⟩ fl h ∧ Wk (upd H1 D (.lst [])) ⟨fun a => M1.B a ∨ a = D, M1.m⟩ D [] := by
  have ne : ∀ a o, H1 a = some o → a ≠ D := fun a o e => ne_of_none e hD
  have x : Ext H1 M1 (upd H1 D (.lst [])) ⟨fun a => M1.B a ∨ a = D, M1.m⟩ := ⟨fun _ _ e => e, fun a o e n => ⟨.of (by rw [upd_ne (ne a o e)]; exact e), n⟩, fun a o e => ⟨.inl, fun z => z.elim id fun z => absurd z (ne a o e)⟩,
    fun a xs e => by rw [upd_ne (ne a _ e)]; exact e, fun a o u e => by rw [upd_ne (ne a _ e)]; exact e, fun a o e => ⟨o, by rw [upd_ne (ne a o e)]; exact e⟩⟩
  refine ⟨x, rh1.ext x rfl (fun a ha => .inl (rh1.sub a ha)) fun a ha => ?_, upd_same, .inr rfl, fun ha => ?_⟩
  · obtain ⟨o, u, e, _⟩ := rh1.mem ha
    rw [upd_ne (ne a u e)]
  · obtain ⟨o, u, e, _⟩ := rh1.mem ha
    exact ne D u e rfl
/-- the turns, walked: E what is wanted of the list at the end -/
theorem lc_walk {nxt : Nxt} {J : It} {xg : XG} {xc : XT} {xe : XE} {own : List Nat} {H1 : Hp} {M1 : Mu} {h1 : Sto} {m0 : Nat} {E : Re (List W) → Prop} {Z0 : WX} (rs : RS g H1 M1 σ r) (rh1 : RH g H1 M1 fl h1) (ok : ItOk g J nxt H1 M1)
    (p : E (lcLoop nxt xg xc xe m0 0 [] (wipeR r own) h1)) (st : ¬ E .stuck)
    (fin : ∀ ws h2 D H2 M2 vs, H1 D = none → Ext H1 M1 H2 M2 → RH g H2 M2 fl h2 → Wk H2 M2 D vs → RWs g H2 M2 vs ws → E (.ok ws h2) → Q (.ref D) H2) (D : Addr) (hD : H1 D = none) :
    ∃ W : Nat → Nat → Hp → Prop, (∃ m, W 0 m (upd H1 D (.lst []))) ∧ ∀ i m H, W i m H →
      (J.stop i H ∧ Q (.ref D) H) ∨ (J.go i H ∧ ∃ Nx : Hp → Prop, (∀ H', Nx H' → ∃ m', m' < m ∧ W (i + 1) m' H') ∧ ∀ x H', J.yld i H x H' → rdG g own xg x (L2.wipe σ own) H' fun σ2 H2 => L2.wipe σ2 own = L2.wipe σ own ∧ rdT g Z0 xc σ2 H2 fun b H3 =>
        if b = true then rdE g Z0 xe σ2 H3 fun y H4 => ∃ acc, H4 D = some (.lst acc) ∧ acc.length < sizeLine ∧ Nx (upd H4 D (.lst (acc ++ [y]))) else Nx H3) := by
  obtain ⟨x0, rh0, k0⟩ := start_wk rh1 hD
  refine ⟨fun i m H' => ∃ h' M' acc vs, Ext H1 M1 H' M' ∧ RH g H' M' fl h' ∧ Wk H' M' D vs ∧ RWs g H' M' vs acc ∧ E (lcLoop nxt xg xc xe m i acc (wipeR r own) h'), ⟨m0, h1, _, [], [], x0, rh0, k0, .nil, p⟩, ?_⟩
  rintro i m H' ⟨h', M', acc, vs, x', rh', k', rv', p'⟩
  obtain ⟨s1, s2⟩ := ok fl i H' M' h' x' rh'
  have rs' : RS g H' M' (L2.wipe σ own) (wipeR r own) := (rs.mono x' rh1.sub).wipe own
  cases m with
  | zero => exact (st p').elim
  | succ m =>
    simp only [lcLoop] at p'
    cases e : nxt i h' with
    | none => rw [e] at p'; exact (st p').elim
    | some o =>
      rw [e] at p'
      cases o with
      | none => exact .inl ⟨s1 e, fin acc h' D H' M' vs hD x' rh' k' rv' p'⟩
      | some w =>
        obtain ⟨go, s3⟩ := s2 w e
        simp only at p'
        cases e2 : xg w (wipeR r own) with
        | none => rw [e2] at p'; exact (st p').elim
        | some r1 =>
          rw [e2] at p'
          simp only at p'
          refine .inr ⟨go, fun H2 => ∃ h2 M2 acc2 vs2, Ext H1 M1 H2 M2 ∧ RH g H2 M2 fl h2 ∧ Wk H2 M2 D vs2 ∧ RWs g H2 M2 vs2 acc2 ∧ E (lcLoop nxt xg xc xe m (i + 1) acc2 (wipeR r own) h2), fun H2 z => ⟨m, Nat.lt_succ_self m, z⟩, fun y H2 yd => ?_⟩
          obtain ⟨M2, x2, rh2, rw2⟩ := s3 y H2 yd
          refine ⟨wipeR r own, h', M2, fl, w, rs'.mono x2 rh'.sub, rh2, rw2, r1, e2, fun σ3 rs3 hw => ⟨hw.trans (wipe_idem own), ?_⟩⟩
          refine ⟨r1, h', M2, fl, rs3, rh2, ?_⟩
          cases e3 : xc r1 h' with
          | exc _ _ => rw [e3] at p'; exact (st p').elim
          | stuck => rw [e3] at p'; exact (st p').elim
          | ok t h3 =>
            rw [e3] at p'
            intro b H3 M3 x3 rh3 rb
            have rb : b = t := rb
            subst rb
            cases b with
            | false => exact ⟨h3, M3, acc, vs, (x'.trans x2).trans x3, rh3, (k'.ext x2).ext x3, RWs.mono x3 rh2.sub (RWs.mono x2 rh'.sub rv'), p'⟩
            | true =>
              have p' : E ((xe r1 h3).noex.bind fun x h2 => if acc.length < lim then lcLoop nxt xg xc xe m (i + 1) (acc ++ [x]) (wipeR r own) h2 else .stuck) := p'
              simp only [if_true]
              refine ⟨r1, h3, M3, fl, rs3.mono x3 rh2.sub, rh3, ?_⟩
              cases e4 : xe r1 h3 with
              | exc _ _ => rw [e4] at p'; exact (st p').elim
              | stuck => rw [e4] at p'; exact (st p').elim
              | ok z h4 =>
                rw [e4] at p'
                intro zv H4 M4 x4 rh4 rz
                have p' : E (if acc.length < lim then lcLoop nxt xg xc xe m (i + 1) (acc ++ [z]) (wipeR r own) h4 else .stuck) := p'
                have k4 := ((k'.ext x2).ext x3).ext x4
                have rv4 := RWs.mono x4 rh3.sub (RWs.mono x3 rh2.sub (RWs.mono x2 rh'.sub rv'))
                by_cases hl : acc.length < lim
                · rw [if_pos hl] at p'
                  have ew : Exw H4 M4 (upd H4 D (.lst (vs ++ [zv]))) M4 := k4.exw
                  refine ⟨vs, k4.at_, by rw [RWs.length rv4, ← lim_line]; exact hl, h4, M4, acc ++ [z], vs ++ [zv], (((x'.trans x2).trans x3).trans x4).wk hD, rh4.wk k4, ⟨upd_same, k4.b, k4.m⟩, RWs.mw ew (RWs.app1 rv4 rz), p'⟩
                · rw [if_neg hl] at p'
                  exact (st p').elim
theorem se_lc {elt tg iter : Expr} {ifs : List Expr} {scope : Scope} {own : List (Str × Nat)} {src : XI} {xg : XG} {xc : XT} {xe : XE} {Z0 : WX} (hc : X.calm = true) (hN : X.N.Nodup) (hi : PI X tg iter (rdI g Z src)) (ok : BlkOk X.N X.env.scope scope own)
    (hg : ∀ (s : Shared) (H : Hp) (C : Addr) (cl : List (Str × Addr)) (fp : List Addr), PG (X.blk s H scope (compEnvC scope cl C X.env) fp) tg (rdG g (own.map (·.2)) xg)) (ht : ∀ (s : Shared) (H : Hp) (C : Addr) (cl : List (Str × Addr)) (fp : List Addr), PTs (X.blk s H scope (compEnvC scope cl C X.env) fp) ifs (rdT g Z0 xc))
    (he : ∀ (s : Shared) (H : Hp) (C : Addr) (cl : List (Str × Addr)) (fp : List Addr), PE (X.blk s H scope (compEnvC scope cl C X.env) fp) elt (rdE g Z0 xe)) (hs : ∀ x, foldedSetIterable iter X.env x = pure x := by intro _; rfl) :
    PE X (.ListComp elt [⟨tg, iter, ifs, 0⟩] scope pos) (rdE g Z (xLc src xg xc xe (own.map (·.2)))) :=
  PE.imp (pe_lc hc hN hi ok hg ht he hs) fun σ H Q ⟨r, h, M, fl, rs, rh, p⟩ => ⟨r, h, M, fl, rs, rh, Po.bind (Po.assoc p) fun a h1 J H1 M1 e1 rh1 ok1 p1 D hD =>
    lc_walk (E := fun x => Po g Z σ fl (RW g) H1 M1 Q (x.bind fun ws h1 => match pureL ws with | some ds => .ok (.d (.lst ds)) h1 | none => .stuck)) (rs.mono e1 rh.sub) rh1 ok1 p1 (fun z => z) (fun ws h2 D H2 M2 vs hD x2 rh2 k2 rv p2 => by
      have p2 : Po g Z σ fl (RW g) H1 M1 Q (match pureL ws with | some ds => .ok (.d (.lst ds)) h2 | none => .stuck) := p2
      cases e : pureL ws with
      | none => rw [e] at p2; exact p2.elim
      | some ds =>
        rw [e] at p2
        obtain ⟨x3, rh3, ew⟩ := k2.fz x2 hD rh2
        rw [pureL_some e] at rv
        exact p2 _ _ _ x3 rh3 (.d (.lst ⟨k2.at_, fun z => z.2 rfl⟩ (RDs.mw ew.d (RWs.toD rv))))) D hD⟩
theorem se_lcN {elt tg iter : Expr} {ifs : List Expr} {scope : Scope} {own : List (Str × Nat)} {src : XI} {xg : XG} {xc : XT} {xe : XE} {Z0 : WX} (hc : X.calm = true) (hN : X.N.Nodup) (hi : PI X tg iter (rdI g Z src)) (ok : BlkOk X.N X.env.scope scope own)
    (hg : ∀ (s : Shared) (H : Hp) (C : Addr) (cl : List (Str × Addr)) (fp : List Addr), PG (X.blk s H scope (compEnvC scope cl C X.env) fp) tg (rdG g (own.map (·.2)) xg)) (ht : ∀ (s : Shared) (H : Hp) (C : Addr) (cl : List (Str × Addr)) (fp : List Addr), PTs (X.blk s H scope (compEnvC scope cl C X.env) fp) ifs (rdT g Z0 xc))
    (he : ∀ (s : Shared) (H : Hp) (C : Addr) (cl : List (Str × Addr)) (fp : List Addr), PE (X.blk s H scope (compEnvC scope cl C X.env) fp) elt (rdE g Z0 xe)) (hs : ∀ x, foldedSetIterable iter X.env x = pure x := by intro _; rfl) :
    PE X (.ListComp elt [⟨tg, iter, ifs, 0⟩] scope pos) (rdE g Z (xLcN src xg xc xe (own.map (·.2)))) :=
  PE.imp (pe_lc hc hN hi ok hg ht he hs) fun σ H Q ⟨r, h, M, fl, rs, rh, p⟩ => ⟨r, h, M, fl, rs, rh, Po.bind (Po.assoc p) fun a h1 J H1 M1 e1 rh1 ok1 p1 D hD =>
    lc_walk (E := fun x => Po g Z σ fl (RW g) H1 M1 Q (x.bind fun ws h1 => .ok (.l h1.o.length) ⟨h1.o ++ [.lst ws], h1.c⟩)) (rs.mono e1 rh.sub) rh1 ok1 p1 (fun z => z) (fun ws h2 D H2 M2 vs hD x2 rh2 k2 rv p2 => by
      obtain ⟨x3, rh3⟩ := k2.pl x2 hD rh2 rv
      refine p2 _ _ _ x3 rh3 (.l ?_)
      show (M2.m ++ [D])[h2.o.length]? = some D
      rw [List.getElem?_append_right (by rw [rh2.len]; exact Nat.le_refl _), rh2.len, Nat.sub_self]
      rfl) D hD⟩
/-- y = [..] in one statement -/
theorem ss_setLc {i : Nat} {y : Str} {py spos : Pos} {elt tg iter : Expr} {ifs : List Expr} {scope : Scope} {own : List (Str × Nat)} {src : XI} {xg : XG} {xc : XT} {xe : XE} {Z0 : WX} (hc : X.calm = true) (hN : X.N.Nodup) (hi : PI X tg iter (rdI g Z src)) (ok : BlkOk X.N X.env.scope scope own)
    (hg : ∀ (s : Shared) (H : Hp) (C : Addr) (cl : List (Str × Addr)) (fp : List Addr), PG (X.blk s H scope (compEnvC scope cl C X.env) fp) tg (rdG g (own.map (·.2)) xg)) (ht : ∀ (s : Shared) (H : Hp) (C : Addr) (cl : List (Str × Addr)) (fp : List Addr), PTs (X.blk s H scope (compEnvC scope cl C X.env) fp) ifs (rdT g Z0 xc))
    (he : ∀ (s : Shared) (H : Hp) (C : Addr) (cl : List (Str × Addr)) (fp : List Addr), PE (X.blk s H scope (compEnvC scope cl C X.env) fp) elt (rdE g Z0 xe))
    (hsw : swapsWith (.ListComp elt [⟨tg, iter, ifs, 0⟩] scope pos) (some (.Name y py)) spos.line X.env = pure true) (hy : X.N[i]? = some y := by rfl) (hyl : X.env.scope.names.lookup y = some .local := by rfl) (hs : ∀ x, foldedSetIterable iter X.env x = pure x := by intro _; rfl) :
    PS X (.Assign [.Name y py] (.ListComp elt [⟨tg, iter, ifs, 0⟩] scope pos) spos) (rdS g Z (sSet i (xLc src xg xc xe (own.map (·.2))))) :=
  PS.imp (ps_setLc (i := i) hc hN hy hyl hsw hi ok hg ht he hs) fun D' σ H ⟨r, h, M, fl, rs, rh, p⟩ => ⟨r, h, M, fl, rs, rh, by
    have p : PoS g Z fl H M D' (((src r h).bind fun p h1 => (lcLoop p.2 xg xc xe p.1 0 [] (wipeR r (own.map (·.2))) h1).bind fun ws h1 => match pureL ws with | some ds => .ok (.d (.lst ds)) h1 | none => .stuck).then r fun w h1 => .nx (r.set i (some w)) h1) := by
      rw [← Re.bind_assoc]
      exact p
    refine Po.bind (k := fun p h1 => (lcLoop p.2 xg xc xe p.1 0 [] (wipeR r (own.map (·.2))) h1).bind fun ws h1 => match pureL ws with | some ds => .ok (.d (.lst ds)) h1 | none => .stuck) (R2 := RW g) (Q := fun v H1 => D'.nx (σ.set i (some v)) H1) (Po.then (k := fun w h1 => Fl.nx (r.set i (some w)) h1) rs rh.sub p fun x h1 v H1 M1 e1 rs1 rh1 rx p1 => p1 _ H1 M1 (Ext.refl H1 M1) (rs1.set rx) rh1) fun a h1 J H1 M1 e1 rh1 ok1 p1 D hD => ?_
    exact lc_walk (Q := fun v H1 => D'.nx (σ.set i (some v)) H1) (E := fun x => Po g Z σ fl (RW g) H1 M1 (fun v H1 => D'.nx (σ.set i (some v)) H1) (x.bind fun ws h1 => match pureL ws with | some ds => .ok (.d (.lst ds)) h1 | none => .stuck)) (rs.mono e1 rh.sub) rh1 ok1 p1 (fun z => z) (fun ws h2 D H2 M2 vs hD x2 rh2 k2 rv p2 => by
      have p2 : Po g Z σ fl (RW g) H1 M1 (fun v H1 => D'.nx (σ.set i (some v)) H1) (match pureL ws with | some ds => .ok (.d (.lst ds)) h2 | none => .stuck) := p2
      cases e : pureL ws with
      | none => rw [e] at p2; exact p2.elim
      | some ds =>
        rw [e] at p2
        obtain ⟨x3, rh3, ew⟩ := k2.fz x2 hD rh2
        rw [pureL_some e] at rv
        exact p2 _ _ _ x3 rh3 (.d (.lst ⟨k2.at_, fun z => z.2 rfl⟩ (RDs.mw ew.d (RWs.toD rv))))) D hD⟩
theorem ss_setLcN {i : Nat} {y : Str} {py spos : Pos} {elt tg iter : Expr} {ifs : List Expr} {scope : Scope} {own : List (Str × Nat)} {src : XI} {xg : XG} {xc : XT} {xe : XE} {Z0 : WX} (hc : X.calm = true) (hN : X.N.Nodup) (hi : PI X tg iter (rdI g Z src)) (ok : BlkOk X.N X.env.scope scope own)
    (hg : ∀ (s : Shared) (H : Hp) (C : Addr) (cl : List (Str × Addr)) (fp : List Addr), PG (X.blk s H scope (compEnvC scope cl C X.env) fp) tg (rdG g (own.map (·.2)) xg)) (ht : ∀ (s : Shared) (H : Hp) (C : Addr) (cl : List (Str × Addr)) (fp : List Addr), PTs (X.blk s H scope (compEnvC scope cl C X.env) fp) ifs (rdT g Z0 xc))
    (he : ∀ (s : Shared) (H : Hp) (C : Addr) (cl : List (Str × Addr)) (fp : List Addr), PE (X.blk s H scope (compEnvC scope cl C X.env) fp) elt (rdE g Z0 xe))
    (hsw : swapsWith (.ListComp elt [⟨tg, iter, ifs, 0⟩] scope pos) (some (.Name y py)) spos.line X.env = pure true) (hy : X.N[i]? = some y := by rfl) (hyl : X.env.scope.names.lookup y = some .local := by rfl) (hs : ∀ x, foldedSetIterable iter X.env x = pure x := by intro _; rfl) :
    PS X (.Assign [.Name y py] (.ListComp elt [⟨tg, iter, ifs, 0⟩] scope pos) spos) (rdS g Z (sSet i (xLcN src xg xc xe (own.map (·.2))))) :=
  PS.imp (ps_setLc (i := i) hc hN hy hyl hsw hi ok hg ht he hs) fun D' σ H ⟨r, h, M, fl, rs, rh, p⟩ => ⟨r, h, M, fl, rs, rh, by
    have p : PoS g Z fl H M D' (((src r h).bind fun p h1 => (lcLoop p.2 xg xc xe p.1 0 [] (wipeR r (own.map (·.2))) h1).bind fun ws h1 => .ok (.l h1.o.length) ⟨h1.o ++ [.lst ws], h1.c⟩).then r fun w h1 => .nx (r.set i (some w)) h1) := by
      rw [← Re.bind_assoc]
      exact p
    refine Po.bind (k := fun p h1 => (lcLoop p.2 xg xc xe p.1 0 [] (wipeR r (own.map (·.2))) h1).bind fun ws h1 => .ok (.l h1.o.length) ⟨h1.o ++ [.lst ws], h1.c⟩) (R2 := RW g) (Q := fun v H1 => D'.nx (σ.set i (some v)) H1) (Po.then (k := fun w h1 => Fl.nx (r.set i (some w)) h1) rs rh.sub p fun x h1 v H1 M1 e1 rs1 rh1 rx p1 => p1 _ H1 M1 (Ext.refl H1 M1) (rs1.set rx) rh1) fun a h1 J H1 M1 e1 rh1 ok1 p1 D hD => ?_
    exact lc_walk (Q := fun v H1 => D'.nx (σ.set i (some v)) H1) (E := fun x => Po g Z σ fl (RW g) H1 M1 (fun v H1 => D'.nx (σ.set i (some v)) H1) (x.bind fun ws h1 => .ok (.l h1.o.length) ⟨h1.o ++ [.lst ws], h1.c⟩)) (rs.mono e1 rh.sub) rh1 ok1 p1 (fun z => z) (fun ws h2 D H2 M2 vs hD x2 rh2 k2 rv p2 => by
      obtain ⟨x3, rh3⟩ := k2.pl x2 hD rh2 rv
      refine p2 _ _ _ x3 rh3 (.l ?_)
      show (M2.m ++ [D])[h2.o.length]? = some D
      rw [List.getElem?_append_right (by rw [rh2.len]; exact Nat.le_refl _), rh2.len, Nat.sub_self]
      rfl) D hD⟩
theorem sts_nil : PTs X [] (rdT g Z xYes) := ⟨fun pins s σ H Q I h => pts_nil.run pins s σ H Q I (by
  obtain ⟨r, h', M, fl, rs, rh, p⟩ := h
  exact p true H M (Ext.refl H M) rh rfl)⟩
theorem sts_one {c : Expr} {t : XT} (h : PT X c (rdT g Z t)) : PTs X [c] (rdT g Z t) := pts_one h
end
end
end Xs

/-! XsJ: defs and their calls. -/
namespace Xs
noncomputable section
open PySem PySem.Spec PyProof.Rows L2
/-- what a def promises whose computation is F -/
def spF (g : G) (F : List W → Sto → Re W) : Sp := fun vs H Q E => ∃ ws h M fl, RWs g H M vs ws ∧ RH g H M fl h ∧ Po g (fun c d _ H' => E c d H') [] fl (RW g) H M Q (F ws h)
/-- a def at f keeps its promise, where no repr is under way -/
structure FnG (P : Program) (w : World) (K : PySem.W.Frag) (mg : Str → Option Value) (base : Heap) (k : Nat) (f : Addr) (fd : FuncData) (ps : List Str) (sp : Sp) : Prop where
  len : ∀ vs H Q E, sp vs H Q E → vs.length = ps.length
  go : ∀ (A : Around) (outer : List PySem.Env) (s : Shared) (H : Hp) (args : Args) (us : List Value) (vs : List V) (Q : VK) (E : XK), Room k A → A.guards = some [] → Env0 P w K mg base A outer s H → BindsTo s fd args (ps.zip us) → Vals vs us → sp vs H Q E →
    codeAny (model P w) A (.call (.ref f) args) (CR (L2.CX P w) outer P w H s Q E) s
section
variable {P : Program} {w : World} {K : PySem.W.Frag} {mg : Str → Option Value} {base : Heap} {j k : Nat} {f : Addr} {fd : FuncData} {ps : List Str} {sp sp' : Sp}
theorem FnG.mono (F : FnG P w K mg base j f fd ps sp) (h : j ≤ k) : FnG P w K mg base k f fd ps sp := ⟨F.len, fun A outer s H args us vs Q E hr => F.go A outer s H args us vs Q E (hr.mono h)⟩
theorem guards_deeper (A : Around) (env : PySem.Env) : (A.deeper env).guards = A.guards := by
  first
  | rfl
  | simp [Around.deeper]
/-- a def's body from its entry -/
theorem fng_core {name qual : Str} {params : Arguments} {body : List Stmt} {scope : Scope} {dV kV doc pm cdv ct oc : Value} {an od : Option Addr} {osl : Array (Option Value)} {N : List Str} {A : Around} {outer : List PySem.Env} {s : Shared} {H : Hp} {args : Args} {us : List Value} {vs : List V} {Q : VK} {E : XK}
    (lk : K.lookup f = some ⟨oc, od, .func (PySem.W.fnOf name qual params body scope dV kV doc pm an cdv ct), osl⟩) (hcd : PySem.W.codeIn K cdv qual = true) (S : FnScope N ps scope) (hr : Room (k + 1) A) (hgd : A.guards = some []) (e0 : Env0 P w K mg base A outer s H)
    (hb : BindsTo s (PySem.W.fnOf name qual params body scope dV kV doc pm an cdv ct) args (ps.zip us)) (r : Vals vs us) (hsp : sp vs H Q E) (hl : vs.length = ps.length)
    (go : ∃ t, PSs (cxOf (L2.CX P w) P w K mg base N qual scope f cdv A outer s H E) body t ∧ t { nx := fun _ H' => Q .non H', rt := Q } (start N vs) H) :
    codeAny (model P w) A (.call (.ref f) args) (CR (L2.CX P w) outer P w H s Q E) s := by
  have KX : K.In s.heap := e0.mod.kin.keeps fun b o e => (e0.bs b o e).1
  have room : s.heap.NoLimit := e0.mod.nolimit.keeps fun b o e => (e0.bs b o e).1
  have kinds : ∀ y ∈ ps.zip us, scope.names.lookup y.1 = some .local ∨ (scope.names.lookup y.1 = some .cell ∧ ((cellsFrom (s.heap.objs.size + 1) scope.names []).lookup y.1).isSome = true) := fun ⟨n, v⟩ hy =>
    (S.par n (List.of_mem_zip hy).1).elim .inl fun q => .inr ⟨q, PySem.W.cellsFrom_some _ _ _ (.inl q)⟩
  refine codeAny_call_function hr.depth (KX _ _ lk) rfl S.co S.gen rfl (PySem.W.codeRec_of KX hcd) (hb _ _ _ _ ?_)
  refine wpAny_newFunctionEnv_cells S.kind kinds fun env he s1 x => ?_
  subst he
  refine ⟨room.keeps x.toInCall.keep, codeAny_func ?_⟩
  obtain ⟨t, ht, hq⟩ := go
  have I := inv_start (CX := L2.CX P w) (E := E) S hr.hd e0 hl r x
  refine wpAny_mono (ht.run [] s1 (start N vs) H _ I hq) (fun fl s' hs => ?_) fun e s' hs => hs
  cases fl with
  | ret u =>
    obtain ⟨v, σ', H', J, rv, q⟩ := hs
    exact ⟨v, H', J.os, J.bare, J.base, J.hok, rv, q⟩
  | next =>
    obtain ⟨σ', H', J, q⟩ := hs
    exact ⟨V.non, H', J.os, J.bare, J.base, J.hok, rfl, q⟩
  | brk => obtain ⟨_, _, _, q⟩ := hs; exact q.elim
  | cont => obtain ⟨_, _, _, q⟩ := hs; exact q.elim
/-- THE RULE for a def -/
theorem fng {x qual : Str} {st : Stmt} {N : List Str} (F : Fun K x qual st f fd) (S : FnScope N ps (defScope st)) (len : ∀ vs H Q E, sp vs H Q E → vs.length = ps.length)
    (body : ∀ (cdv : Value) (A : Around) (outer : List PySem.Env) (s : Shared) (H : Hp) (vs : List V) (Q : VK) (E : XK), Room k (A.deeper (envOfC qual (defScope st) s.heap.objs.size f cdv)) → A.guards = some [] → sp vs H Q E →
      ∃ t, PSs (cxOf (L2.CX P w) P w K mg base N qual (defScope st) f cdv A outer s H E) (defBody st) t ∧ t { nx := fun _ H' => Q .non H', rt := Q } (start N vs) H) : FnG P w K mg base (k + 1) f fd ps sp := by
  obtain ⟨oc, od, kV, doc, pm, an, cdv, ct, osl, rfl, lk, hcd⟩ := F.ex
  refine ⟨len, fun A outer s H args us vs Q E hr hgd e0 hb r hsp => ?_⟩
  exact fng_core lk hcd S hr hgd e0 hb r hsp (len _ _ _ _ hsp) (body cdv A outer s H vs Q E (hr.deeper _) hgd hsp)
end
end
end Xs

/-! XsK: calls, ends of defs, slices, methods of lists. -/
namespace Xs
noncomputable section
open PySem PySem.Spec PyProof.Rows L2
section
variable {X : Cx} {g : G} {Z : WX} {a b c : Expr} {xa xb xc : XE} {pos p apos : Pos} {H : Hp} {M : Mu} {fl : List Nat} {h : Sto} {v u : V} {w y : W} {σ : L2.St} {Q : VK} {k : Nat} {f C : Addr} {fd : FuncData} {ps : List Str} {F : List W → Sto → Re W} {x m : Str} {e o : Expr} {es : List Expr} {ta : XA}
theorem po_wish {R : Hp → Mu → V → W → Prop} {z : Re W} (q : Po g Z σ fl R H M Q z) : Po g (fun c d _ H' => WE Z σ c d H') [] fl R H M Q z := by
  cases z with
  | ok _ _ => exact q
  | exc _ _ => exact q
  | stuck => exact q
theorem run_g {pins : List (Addr × Obj)} {s : Shared} {us : List Value} {vs : List V} {sp : Sp} {E : L2.St → XK} (Fn : FnG X.prog X.w X.K X.mg X.base k f fd ps sp) (hr : Room k X.A) (hgd : X.A.guards = some []) (hb : Binds X.K fd ps [])
    (hx : PassesAt (L2.CX X.prog X.w) X σ (E σ)) (I : Inv X pins σ H s) (r : Vals vs us) (h : sp vs H Q (E σ)) : wpAny (model X.prog X.w) X.A (call (.ref f) us) (EP X pins σ Q) X.xe s := by
  have b := hb s us I.kIn (by rw [List.append_nil, ← r.length]; exact Fn.len _ _ _ _ h)
  rw [List.append_nil] at b
  refine wpAny_call (codeAny_mono (Fn.go X.A X.stack s H ⟨us, []⟩ us vs Q (E σ) hr hgd I.env0 b r h) fun z s' hq => ?_)
  cases z with
  | error e => exact hx pins H s e s' I hq
  | ok fl =>
    cases fl with
    | ret u => exact I.after hq
    | next => exact hq.elim
    | brk => exact hq.elim
    | cont => exact hq.elim
/-- f(..) -/
theorem se_call (Fn : FnG X.prog X.w X.K X.mg X.base k f fd ps (spF g F)) (hr : Room k X.A) (hgd : X.A.guards = some []) (hb : Binds X.K fd ps []) (tk : Takes X Z) (hm : X.mg x = some (.ref f)) (hk : PySem.W.keepIn X.K (.ref f) = true) (ha : PA X (e :: es) (rdA g Z ta))
    (hg : Gl X x := by rfl) (hdb : (x == ("__debug__" : Str)) = false := by decide) (he : starEach (e :: es) X.env = (false, eval e X.env) :: starEach es X.env := by rfl) (hpl : (backTo pos (starEach es X.env)).any (·.1) = false := by rfl) :
    PE X (.Call (.Name x p) (e :: es) [] pos) (rdE g Z (xApp F ta)) :=
  PE.imp (t := fun σ H Q => rdA g Z ta σ H fun vs H1 => spF g F vs H1 Q (WE Z σ)) ⟨fun pins s σ H Q I h => by
    refine wpAny_Call_Name_kw (ld_glob I hg hm ?_ hdb)
    refine PySem.W.callWith_K (h₀ := X.base) I.ok.mod.kin hk (thn (ha.run pos pins s σ H _ I h) fun us s1 ⟨vs, H1, I1, r, q⟩ => ⟨I1.kIn, ?_⟩) he hpl
    exact run_g Fn hr hgd hb (passAt tk σ) I1 r q⟩ fun σ H Q ⟨r, h, M, fl, rs, rh, q⟩ => ⟨r, h, M, fl, rs, rh, Po.bind q fun ws h1 vs H1 M1 e1 rh1 rw1 p1 => ⟨ws, h1, M1, fl, rw1, rh1, po_wish p1⟩⟩
theorem se_call0 (Fn : FnG X.prog X.w X.K X.mg X.base k f fd ps (spF g F)) (hr : Room k X.A) (hgd : X.A.guards = some []) (hb : Binds X.K fd ps []) (tk : Takes X Z) (hm : X.mg x = some (.ref f)) (hk : PySem.W.keepIn X.K (.ref f) = true)
    (hg : Gl X x := by rfl) (hdb : (x == ("__debug__" : Str)) = false := by decide) : PE X (.Call (.Name x p) [] [] pos) (rdE g Z (xApp F xNil)) :=
  PE.imp (t := fun σ H Q => spF g F [] H Q (WE Z σ)) ⟨fun pins s σ H Q I h => by
    refine wpAny_Call_Name_kw (ld_glob I hg hm ?_ hdb)
    exact PySem.W.callWith_K0 I.kIn hk (run_g (us := []) Fn hr hgd hb (passAt tk σ) I .nil h)⟩ fun σ H Q ⟨r, h, M, fl, rs, rh, q⟩ => ⟨[], h, M, fl, .nil, rh, po_wish q⟩
/-- an instance of the class -/
@[simp] def insOf (c : Str) (h : Sto) : W → Option (List (Str × W))
  | .l k => match h.o[k]? with
    | some (.ins c' fs) => if c' = c then some fs else none
    | _ => none
  | _ => none
theorem insOf_h {c : Str} {fs : List (Str × W)} (rh : RH g H M fl h) (r : RW g H M v w) (hc : g.cm c = some C) (e : insOf c h w = some fs) : ∃ n a dx vs, w = .l n ∧ v = .ref a ∧ M.m[n]? = some a ∧ h.o[n]? = some (.ins c fs) ∧ H a = some (.ins C dx vs) ∧ RWk g H M vs fs := by
  cases w with
  | l n =>
    obtain ⟨a, rfl, e1⟩ := r.l_inv
    simp only [insOf] at e
    split at e
    · rename_i c' fs' ew
      by_cases hcc : c' = c
      · rw [if_pos hcc] at e
        cases e
        subst hcc
        obtain ⟨C', dx, vs, hv, h1, h2⟩ := rh.ins e1 ew
        rw [hc] at h1
        cases h1
        exact ⟨n, a, dx, vs, rfl, rfl, e1, ew, hv, h2⟩
      · rw [if_neg hcc] at e
        cases e
    · cases e
  | _ => cases e
theorem RWk.lookup {vs : List (Str × V)} {ws : List (Str × W)} (q : RWk g H M vs ws) (k : Str) : (ws.lookup k = none ∧ vs.lookup k = none) ∨ ∃ v w, ws.lookup k = some w ∧ vs.lookup k = some v ∧ RW g H M v w := by
  induction q with
  | nil => exact .inl ⟨rfl, rfl⟩
  | @cons p q vs ws h1 h2 ih =>
    obtain ⟨p1, p2⟩ := p
    obtain ⟨q1, q2⟩ := q
    obtain ⟨rfl, h1⟩ := h1
    rw [List.lookup_cons, List.lookup_cons]
    cases k == p1 with
    | true => exact .inr ⟨_, _, rfl, rfl, h1⟩
    | false => exact ih
/-- o.m(..) -/
def xMeth (c m : Str) (F : List W → Sto → Re W) (o : XE) (t : XA) : XE := fun r h => (o r h).bind fun w h1 => match insOf c h1 w with
  | some fs => if (fs.lookup m).isNone = true then (t r h1).bind fun ws h2 => F (w :: ws) h2 else .stuck
  | none => .stuck
theorem meth_ok {σ : L2.St} {H : Hp} {Q : VK} {cn : Str} {xo : XE} (hc : g.cm cn = some C) : rdE g Z (xMeth cn m F xo ta) σ H Q → rdE g Z xo σ H fun x H1 => ∃ a dx fs, x = .ref a ∧ H1 a = some (.ins C dx fs) ∧ fs.lookup m = none ∧
    rdA g Z ta σ H1 fun vs H2 => spF g F (x :: vs) H2 Q (WE Z σ) := fun ⟨r, h, M, fl, rs, rh, q⟩ =>
  ⟨r, h, M, fl, rs, rh, Po.bind q fun w h1 v H1 M1 e1 rh1 rw1 p1 => by
    cases e : insOf cn h1 w with
    | none => rw [e] at p1; exact p1.elim
    | some fs =>
      rw [e] at p1
      obtain ⟨q1, p1⟩ := po_if p1
      obtain ⟨n, a, dx, vs, rfl, rfl, e2, e3, hv, rv⟩ := insOf_h rh1 rw1 hc e
      refine ⟨a, dx, vs, rfl, hv, ?_, r, h1, M1, fl, rs.mono e1 rh.sub, rh1, Po.bind p1 fun ws h2 us H2 M2 x2 rh2 rw2 p2 => ⟨.l n :: ws, h2, M2, fl, .cons (rw1.mono x2 rh1.sub) rw2, rh2, po_wish p2⟩⟩
      rcases RWk.lookup rv m with ⟨_, l2⟩ | ⟨_, _, l1, _, _⟩
      · exact l2
      · rw [l1] at q1; cases q1⟩
theorem se_meth {pl : Sem Bool} {cn : Str} {xo : XE} (hc : g.cm cn = some C) (ho : PE X o (rdE g Z xo)) (cl : Cls X.K C) (hm : Meth X.K C m f) (Fn : FnG X.prog X.w X.K X.mg X.base k f fd ps (spF g F)) (hr : Room k X.A) (hgd : X.A.guards = some []) (hb : Binds X.K fd ps []) (tk : Takes X Z) (ha : PA X (e :: es) (rdA g Z ta))
    (hst : starEach (e :: es) X.env = (false, eval e X.env) :: starEach es X.env := by rfl) (hpl : (backTo pos (starEach es X.env)).any (·.1) = false := by rfl)
    (ht : eval (.Call (.Attribute o m apos) (e :: es) [] pos) X.env = (do
      let ov ← eval o X.env
      standAt apos.atName
      let (f, first) ← holding [ov] (getMethod ov m pl)
      callWith pos f first (backTo pos (starEach (e :: es) X.env)) (backToKw pos (keywordEach [] X.env))) := by rfl) :
    PE X (.Call (.Attribute o m apos) (e :: es) [] pos) (rdE g Z (xMeth cn m F xo ta)) :=
  PE.imp (t := fun σ H Q => rdE g Z xo σ H fun x H1 => ∃ a dx fs, x = .ref a ∧ H1 a = some (.ins C dx fs) ∧ fs.lookup m = none ∧ rdA g Z ta σ H1 fun vs H2 => spF g F (x :: vs) H2 Q (WE Z σ)) ⟨fun pins s σ H Q I h => by
    refine PySem.W.methodCall_KW (pl := pl) (thn (ho.run pins s σ H _ I h) fun u s1 ⟨x, H1, I1, rx, a, dx, fs, ex, ea, l, q⟩ => ?_) ht
    subst ex
    obtain rfl : u = Value.ref a := rx
    refine getmeth_ok I1 ea cl hm l ?_
    refine PySem.W.callWith_K (first := [.ref a]) (h₀ := X.base) I.ok.mod.kin hm.kp (thn (ha.run pos pins s1 σ H1 _ I1 q) fun us s2 ⟨vs, H2, I2, r, q2⟩ => ⟨I2.kIn, ?_⟩) hst hpl
    exact run_g (us := .ref a :: us) (vs := .ref a :: vs) Fn hr hgd hb (passAt tk σ) I2 (.cons rfl r) q2⟩ fun σ H Q => meth_ok hc
theorem se_meth0 {pl : Sem Bool} {cn : Str} {xo : XE} (hc : g.cm cn = some C) (ho : PE X o (rdE g Z xo)) (cl : Cls X.K C) (hm : Meth X.K C m f) (Fn : FnG X.prog X.w X.K X.mg X.base k f fd ps (spF g F)) (hr : Room k X.A) (hgd : X.A.guards = some []) (hb : Binds X.K fd ps []) (tk : Takes X Z)
    (ht : eval (.Call (.Attribute o m apos) [] [] pos) X.env = (do
      let ov ← eval o X.env
      standAt apos.atName
      let (f, first) ← holding [ov] (getMethod ov m pl)
      callWith pos f first (backTo pos (starEach [] X.env)) (backToKw pos (keywordEach [] X.env))) := by rfl) :
    PE X (.Call (.Attribute o m apos) [] [] pos) (rdE g Z (xMeth cn m F xo xNil)) :=
  PE.imp (t := fun σ H Q => rdE g Z xo σ H fun x H1 => ∃ a dx fs, x = .ref a ∧ H1 a = some (.ins C dx fs) ∧ fs.lookup m = none ∧ rdA g Z xNil σ H1 fun vs H2 => spF g F (x :: vs) H2 Q (WE Z σ)) ⟨fun pins s σ H Q I h => by
    refine PySem.W.methodCall_KW (pl := pl) (thn (ho.run pins s σ H _ I h) fun u s1 ⟨x, H1, I1, rx, a, dx, fs, ex, ea, l, q⟩ => ?_) ht
    subst ex
    obtain rfl : u = Value.ref a := rx
    refine getmeth_ok I1 ea cl hm l ?_
    obtain ⟨r, h, M, fl, rs, rh, q⟩ := q
    exact PySem.W.callWith_K0 (first := [.ref a]) I1.kIn hm.kp (run_g (us := [.ref a]) (vs := [.ref a]) Fn hr hgd hb (passAt tk σ) I1 (.cons rfl .nil) (q [] H1 M (Ext.refl H1 M) rh .nil))⟩ fun σ H Q => meth_ok hc
/-- o.f -/
@[simp] def fFld (c f : Str) (w : W) (h : Sto) : Re W := match insOf c h w with
  | some fs => match fs.lookup f with
    | some x => .ok x h
    | none => .stuck
  | none => .stuck
theorem se_fld {cn n : Str} {xo : XE} (hc : g.cm cn = some C) (cl : Cls X.K C) (na : NoAttr X.K C n) (ho : PE X o (rdE g Z xo)) (hb : attributeBase o n X.env (eval o X.env) = eval o X.env := by rfl) : PE X (.Attribute o n pos) (rdE g Z (xUn (fFld cn n) xo)) :=
  PE.imp (pe_fld ho hb) fun σ H Q ⟨r, h, M, fl, rs, rh, q⟩ => ⟨r, h, M, fl, rs, rh, Po.bind q fun w h1 v H1 M1 e1 rh1 rw1 p1 => by
    simp only [fFld] at p1
    cases e : insOf cn h1 w with
    | none => rw [e] at p1; exact p1.elim
    | some fs =>
      rw [e] at p1
      obtain ⟨n1, a, dx, vs, rfl, rfl, e2, e3, hv, rv⟩ := insOf_h rh1 rw1 hc e
      rcases RWk.lookup rv n with ⟨l1, l2⟩ | ⟨v', w', l1, l2, rw'⟩
      · simp only [l1] at p1; exact p1.elim
      · simp only [l1] at p1
        exact ⟨a, C, dx, vs, v', rfl, hv, cl, na, l2, p1 _ H1 M1 (Ext.refl H1 M1) rh1 rw'⟩⟩
/-- o.f = e -/
def putS {α : Type} (f : Str) (v : α) : List (Str × α) → List (Str × α)
  | [] => [(f, v)]
  | (g, x) :: r => if g = f then (g, v) :: r else (g, x) :: putS f v r
theorem RWk.putS {vs : List (Str × V)} {ws : List (Str × W)} (q : RWk g H M vs ws) (r : RW g H M v w) (n : Str) : RWk g H M (putF n v vs) (Xs.putS n w ws) := by
  induction q with
  | nil => exact .cons ⟨rfl, r⟩ .nil
  | @cons p q vs ws h1 h2 ih =>
    obtain ⟨p1, p2⟩ := p
    obtain ⟨q1, q2⟩ := q
    obtain ⟨rfl, h1⟩ := h1
    unfold putF Xs.putS
    by_cases e : p1 = n
    · rw [if_pos e, if_pos e]
      exact .cons ⟨rfl, r⟩ h2
    · rw [if_neg e, if_neg e]
      exact .cons ⟨rfl, h1⟩ ih
theorem putS_lt {ws : List (Str × W)} {n : Str} {f : Nat} (hw : w.lt f) : (∀ p ∈ ws, p.2.lt f) → ∀ p ∈ Xs.putS n w ws, p.2.lt f := by
  induction ws with
  | nil =>
    intro _ p hp
    rw [List.mem_singleton.mp hp]
    exact hw
  | cons q ws ih =>
    intro h p hp
    obtain ⟨q1, q2⟩ := q
    unfold Xs.putS at hp
    split at hp
    · rcases List.mem_cons.mp hp with z | z
      · rw [z]; exact hw
      · exact h p (List.mem_cons_of_mem _ z)
    · rcases List.mem_cons.mp hp with z | z
      · rw [z]; exact h _ List.mem_cons_self
      · exact ih (fun p hp => h p (List.mem_cons_of_mem _ hp)) p z
@[simp] def fSetF (c f : Str) (o v : W) (h : Sto) : Re Unit := match o with
  | .l k => match insOf c h o with
    | some fs => if fs.length < 1000 then .ok () ⟨h.o.set k (.ins c (putS f v fs)), h.c && v.okAt k⟩ else .stuck
    | none => .stuck
  | _ => .stuck
@[simp] def sSetF (c f : Str) (o v : XE) : XS := fun r h => (v r h).then r fun w h1 => (o r h1).then r fun x h2 => (fSetF c f x w h2).then r fun _ h3 => .nx r h3
theorem setF_ok {cn n : Str} {D : Ends} {r : Env} {ov : V} {x : W} (hc : g.cm cn = some C) (rs : RS g H M σ r) (rh : RH g H M fl h) (ro : RW g H M ov x) (rv : RW g H M v w) (q : PoS g Z fl H M D ((fSetF cn n x w h).then r fun _ h3 => .nx r h3)) :
    ∃ a dx fs, ov = .ref a ∧ H a = some (.ins C dx fs) ∧ fs.length < 1000 ∧ D.nx σ (upd H a (.ins C dx (putF n v fs))) := by
  cases x with
  | l k =>
    simp only [fSetF] at q
    cases e : insOf cn h (.l k) with
    | none => rw [e] at q; exact q.elim
    | some fs =>
      rw [e] at q
      obtain ⟨n1, a, dx, vs, e0, rfl, e2, e3, hv, rvs⟩ := insOf_h rh ro hc e
      cases e0
      simp only at q
      by_cases hl : fs.length < 1000
      · rw [if_pos hl] at q
        have xt : Ext H M (upd H a (.ins C dx (putF n v vs))) M := Ext.put rh e2
        refine ⟨a, dx, vs, rfl, hv, by rw [Paired.length rvs]; exact hl, q σ _ M xt (rs.mono xt rh.sub) (rh.put e2 e3 ⟨hc, RWk.mono xt rh.sub (RWk.putS rvs rv n)⟩ fun hcc => ?_)⟩
        rw [Bool.and_eq_true] at hcc
        exact ⟨hcc.1, fun f hn hf => putS_lt (W.okAt_lt hcc.2 hn) hf⟩
      · rw [if_neg hl] at q
        exact q.elim
  | _ => exact q.elim
theorem ss_setF {cn n : Str} {xo xv : XE} {pos' : Pos} {value : Expr} (hc : g.cm cn = some C) (cl : Cls X.K C) (na : NoAttr X.K C n) (ho : PE X o (rdE g Z xo)) (hv : PE X value (rdE g Z xv)) (hs : swapsWith value (some (.Attribute o n pos')) pos.line X.env = pure false := by rfl) :
    PS X (.Assign [.Attribute o n pos'] value pos) (rdS g Z (sSetF cn n xo xv)) :=
  PS.imp (ps_fld ho hv hs) fun D σ H ⟨r, h, M, fl, rs, rh, q⟩ => ⟨r, h, M, fl, rs, rh, Po.then rs rh.sub q fun w h1 v H1 M1 e1 rs1 rh1 rw1 p1 => ⟨r, h1, M1, fl, rs1, rh1, Po.then rs1 rh1.sub p1 fun x h2 ov H2 M2 e2 rs2 rh2 rx p2 => by
    obtain ⟨a, dx, fs, h1, h2, h3, h4⟩ := setF_ok hc rs2 rh2 rx (rw1.mono e2 rh1.sub) p2
    exact ⟨a, C, dx, fs, h1, h2, cl, na, h3, h4⟩⟩⟩
/-- o.f += e -/
@[simp] def sAugF (c f : Str) (op : W → W → Sto → Re W) (o v : XE) : XS := fun r h => (o r h).then r fun x h1 => (fFld c f x h1).then r fun w h2 => (v r h2).then r fun y h3 => (op w y h3).then r fun z h4 => (fSetF c f x z h4).then r fun _ h5 => .nx r h5
end
end
end Xs

/-! XsL: the ends of defs. -/
namespace Xs
noncomputable section
open PySem PySem.Spec PyProof.Rows L2
/-- an object of data alone -/
@[simp] def O.pure : O → Bool
  | .lst z => z.all W.isD
  | .dct z => z.all fun q => q.2.isD
  | .ins _ z => z.all fun q => q.2.isD
/-- the data of pairs -/
@[simp] def pureK : List (Key × W) → Option (List (Key × D))
  | [] => some []
  | (k, .d q) :: r => (pureK r).map ((k, q) :: ·)
  | _ :: _ => none
/-- an object that stays from now on -/
@[simp] def frozen : O → Option W
  | .lst z => (pureL z).map fun ds => .d (.lst ds)
  | .dct z => (pureK z).map .f
  | .ins _ _ => none
/-- a def that stores no place anywhere: what is behind n is dropped. fz: a new object that comes back stays -/
@[simp] def closeT (fz : Bool) (n : Nat) (c0 : Bool) : Fl → Re W
  | .nx _ h => if h.c = true then .ok (.d .non) ⟨h.o.take n, c0⟩ else .stuck
  | .exc e _ h => if h.c = true then .exc e ⟨h.o.take n, c0⟩ else .stuck
  | .rt w h => if h.c = true then (match w with
      | .l k => if k < n then .ok (.l k) ⟨h.o.take n, c0⟩ else (match h.o[k]? with
        | some ob => if fz = true then (match frozen ob with
            | some z => .ok z ⟨h.o.take n, c0⟩
            | none => .stuck)
          else if ob.pure = true then .ok (.l n) ⟨h.o.take n ++ [ob], c0⟩ else .stuck
        | none => .stuck)
      | .x _ _ => .stuck
      | w => .ok w ⟨h.o.take n, c0⟩) else .stuck
  | _ => .stuck
@[simp] def entry (nl : Nat) (ws : List W) : Env := ws.map some ++ List.replicate (nl - ws.length) none
def fnT (na nl : Nat) (fz : Bool) (body : XS) : List W → Sto → Re W := fun ws h => if ws.length = na then closeT fz h.o.length h.c (body (entry nl ws) ⟨h.o, true⟩) else .stuck
/-- a def whose objects stay -/
@[simp] def closeA (c0 : Bool) : Fl → Re W
  | .nx _ h => .ok (.d .non) ⟨h.o, c0 && h.c⟩
  | .exc e _ h => .exc e ⟨h.o, c0 && h.c⟩
  | .rt w h => .ok w ⟨h.o, c0 && h.c⟩
  | _ => .stuck
def fnA (na nl : Nat) (body : XS) : List W → Sto → Re W := fun ws h => if ws.length = na then closeA h.c (body (entry nl ws) ⟨h.o, true⟩) else .stuck
/-- a def of data alone: it begins with no store -/
@[simp] def closeI (h0 : Sto) : Fl → Re W
  | .nx _ _ => .ok (.d .non) h0
  | .exc e _ _ => .exc e h0
  | .rt w h => (match w with
      | .l k => (match h.o[k]? with
        | some ob => (match frozen ob with
          | some z => .ok z h0
          | none => .stuck)
        | none => .stuck)
      | .x _ _ => .stuck
      | w => .ok w h0)
  | _ => .stuck
def fnI (na nl : Nat) (body : XS) : List W → Sto → Re W := fun ws h => if (decide (ws.length = na) && ws.all W.isD) = true then closeI h (body (entry nl ws) ⟨[], true⟩) else .stuck
section
variable {g : G} {Z : WX} {H H' : Hp} {M M' : Mu} {fl fl' : List Nat} {h h' : Sto} {v u : V} {w y : W} {σ : L2.St} {Q : VK} {n : Nat}
theorem pureK_some : ∀ {ws : List (Key × W)} {ds : List (Key × D)}, pureK ws = some ds → ws = ds.map fun q => (q.1, .d q.2)
  | [], _, h => by cases h; rfl
  | (k, .d x) :: r, ds, h => by
    simp only [pureK, Option.map_eq_some_iff] at h
    obtain ⟨rs, h1, rfl⟩ := h
    rw [pureK_some h1]
    rfl
  | (_, .l _) :: _, _, h => nomatch h
  | (_, .s _) :: _, _, h => nomatch h
  | (_, .f _) :: _, _, h => nomatch h
  | (_, .fn _) :: _, _, h => nomatch h
  | (_, .x _ _) :: _, _, h => nomatch h
  | (_, .t _) :: _, _, h => nomatch h
  | (_, .ty _) :: _, _, h => nomatch h
theorem RWk.toD {vs : List (Key × V)} : ∀ {ds : List (Key × D)}, RWk g H M vs (ds.map fun q => (q.1, .d q.2)) → RDk g H M.B vs ds := fun {ds} q => by
  induction ds generalizing vs with
  | nil => cases q; exact .nil
  | cons d ds ih =>
    cases q with
    | @cons p q vs ws a b =>
      obtain ⟨p1, p2⟩ := p
      obtain ⟨d1, d2⟩ := d
      obtain ⟨e, a⟩ := a
      cases e
      cases a with
      | d a => exact .cons a (ih b)
/-- the relation of values where the places behind n are dropped -/
theorem RW.cut {B' : Addr → Prop} (x : Exd H M.B H B') (r : RW g H M v w) (hl : w.lt n) : RW g H ⟨B', M.m.take n⟩ v w := by
  cases r with
  | d q => exact .d (q.mw x)
  | l q => exact .l (by show (M.m.take n)[_]? = _; rw [List.getElem?_take_of_lt hl]; exact q)
  | s q1 q2 => exact .s (q1.mw x) (q2.mw x)
  | f q1 q2 => exact .f (q1.mw x) (q2.mw x)
  | t => exact .t
  | ty => exact .ty
  | fn q => exact .fn q
  | x h1 h2 h3 h4 h5 => exact .x h1 h2 (x.old _ _ h3 h4).1 (x.old _ _ h3 h4).2 (h5.mw x)
  | x0 h1 h2 => exact .x0 h1 h2
theorem RWs.cut {B' : Addr → Prop} {vs : List V} {ws : List W} (x : Exd H M.B H B') (r : RWs g H M vs ws) (hl : ∀ z ∈ ws, z.lt n) : RWs g H ⟨B', M.m.take n⟩ vs ws := by
  induction r with
  | nil => exact .nil
  | cons a b ih => exact .cons (a.cut x (hl _ List.mem_cons_self)) (ih fun z hz => hl z (List.mem_cons_of_mem _ hz))
theorem RWk.cut {κ : Type} {B' : Addr → Prop} {vs : List (κ × V)} {ws : List (κ × W)} (x : Exd H M.B H B') (r : RWk g H M vs ws) (hl : ∀ z ∈ ws, z.2.lt n) : RWk g H ⟨B', M.m.take n⟩ vs ws := by
  induction r with
  | nil => exact .nil
  | cons a b ih => exact .cons ⟨a.1, a.2.cut x (hl _ List.mem_cons_self)⟩ (ih fun z hz => hl z (List.mem_cons_of_mem _ hz))
theorem RO.cut {B' : Addr → Prop} {u : HO} {o : O} (x : Exd H M.B H B') (r : RO g H M u o) (hl : o.lt n) : RO g H ⟨B', M.m.take n⟩ u o := by
  cases u <;> cases o <;> first | exact False.elim r | skip
  · exact RWs.cut x r hl
  · exact RWk.cut x r hl
  · exact ⟨r.1, RWk.cut x r.2 hl⟩
theorem RWs.lt {vs : List V} {ws : List W} (q : RH g H M fl h) (r : RWs g H M vs ws) : ∀ z ∈ ws, z.lt h.o.length := by
  induction r with
  | nil => intro z hz; cases hz
  | cons a b ih =>
    intro z hz
    rcases List.mem_cons.mp hz with e | e
    · rw [e]; exact a.lt q
    · exact ih z e
theorem RWk.lt {κ : Type} {vs : List (κ × V)} {ws : List (κ × W)} (q : RH g H M fl h) (r : RWk g H M vs ws) : ∀ z ∈ ws, z.2.lt h.o.length := by
  induction r with
  | nil => intro z hz; cases hz
  | cons a b ih =>
    intro z hz
    rcases List.mem_cons.mp hz with e | e
    · rw [e]; exact a.2.lt q
    · exact ih z e
theorem RO.lt {u : HO} {o : O} (q : RH g H M fl h) (r : RO g H M u o) : o.lt h.o.length := by
  cases u <;> cases o <;> first | exact False.elim r | skip
  · exact RWs.lt q r
  · exact RWk.lt q r
  · exact RWk.lt q r.2
/-- the store at a def's entry -/
theorem RH.enter (q : RH g H M fl h) : RH g H M (if h.c = true then h.o.length :: fl else [h.o.length]) ⟨h.o, true⟩ := by
  refine ⟨q.nd, q.sub, q.len, q.ev, fun _ f hf j o hj e => ?_, fun f hf => ?_, q.tb⟩
  · have own : o.lt h.o.length := by
      obtain ⟨a, u, _, _, h3⟩ := q.get e
      exact RO.lt q h3
    by_cases hc : h.c = true
    · rw [if_pos hc] at hf
      rcases List.mem_cons.mp hf with z | z
      · rw [z]; exact own
      · exact q.cl hc f z j o hj e
    · rw [if_neg hc] at hf
      rw [List.mem_singleton.mp hf]
      exact own
  · by_cases hc : h.c = true
    · rw [if_pos hc] at hf
      rcases List.mem_cons.mp hf with z | z
      · rw [z]; exact Nat.le_refl _
      · exact q.fle f z
    · rw [if_neg hc] at hf
      rw [List.mem_singleton.mp hf]
      exact Nat.le_refl _
/-- the places behind the entry dropped; B' may leave out what was new -/
theorem RH.cut {B' : Addr → Prop} {c0 : Bool} (rh : RH g H M fl h) (q : RH g H' M' (if h.c = true then h.o.length :: fl else [h.o.length]) h') (x : Ext H M H' M') (hc : h'.c = true) (hc0 : c0 = true → h.c = true)
    (xd : Exd H' M'.B H' B') (hB : ∀ a o, H a = some o → (M.B a ↔ B' a)) : RH g H' ⟨B', M'.m.take h.o.length⟩ fl ⟨h'.o.take h.o.length, c0⟩ ∧ Ext H M H' ⟨B', M'.m.take h.o.length⟩ := by
  have hn : h.o.length ∈ (if h.c = true then h.o.length :: fl else [h.o.length]) := by
    by_cases z : h.c = true
    · rw [if_pos z]; exact List.mem_cons_self
    · rw [if_neg z]; exact List.mem_cons_self
  have hle : h.o.length ≤ h'.o.length := q.fle _ hn
  have pre : ∀ (i : Nat) a, M.m[i]? = some a → (M'.m.take h.o.length)[i]? = some a := fun i a e => by
    have hi : i < h.o.length := by rw [← rh.len]; exact (List.getElem?_eq_some_iff.mp e).1
    rw [List.getElem?_take_of_lt hi]
    exact x.pre i a e
  have only : ∀ a ∈ M'.m.take h.o.length, a ∈ M.m := fun a ha => by
    obtain ⟨i, hi, e⟩ := List.mem_iff_getElem.mp ha
    have hi2 : i < M.m.length := by
      rw [rh.len]
      rw [List.length_take] at hi
      omega
    have e1 := pre i _ (List.getElem?_eq_getElem hi2)
    rw [List.getElem?_eq_getElem hi, e] at e1
    have e2 : a = M.m[i] := Option.some.inj e1
    rw [e2]
    exact List.getElem_mem hi2
  have stay : ∀ a o, H a = some o → a ∉ M.m → Stays o (H' a) ∧ a ∉ M'.m.take h.o.length := fun a o e n => ⟨(x.old a o e n).1, fun z => n (only a z)⟩
  refine ⟨⟨q.nd.sublist (List.take_sublist _ _), fun a ha => ?_, ?_, fun i a o e1 e2 => ?_, fun hc' f hf j o hj e => ?_, fun f hf => ?_, q.tb⟩, pre, stay, hB, x.tup, x.frz, x.dom⟩
  · have ha' := only a ha
    obtain ⟨o, u, e, _⟩ := rh.mem ha'
    exact (hB a u e).mp (rh.sub a ha')
  · show (M'.m.take h.o.length).length = (h'.o.take h.o.length).length
    rw [List.length_take, List.length_take, q.len]
  · have e1' : (M'.m.take h.o.length)[i]? = some a := e1
    have e2' : (h'.o.take h.o.length)[i]? = some o := e2
    have hi : i < h.o.length := by
      have := (List.getElem?_eq_some_iff.mp e2').1
      rw [List.length_take] at this
      omega
    rw [List.getElem?_take_of_lt hi] at e1' e2'
    obtain ⟨u, h1, h2⟩ := q.ev i a o e1' e2'
    exact ⟨u, h1, h2.cut xd (q.cl hc _ hn i o hi e2')⟩
  · have e' : (h'.o.take h.o.length)[j]? = some o := e
    have hj2 : j < h.o.length := Nat.lt_of_lt_of_le hj (rh.fle f hf)
    rw [List.getElem?_take_of_lt hj2] at e'
    have hf2 : f ∈ (if h.c = true then h.o.length :: fl else [h.o.length]) := by rw [if_pos (hc0 hc')]; exact List.mem_cons_of_mem _ hf
    exact q.cl hc f hf2 j o hj e'
  · show f ≤ (h'.o.take h.o.length).length
    rw [List.length_take]
    have := rh.fle f hf
    omega
theorem W.isD_all {ws : List W} (hp : ws.all W.isD = true) {f : Nat} : ∀ z ∈ ws, z.lt f := fun z hz => W.isD_lt (List.all_eq_true.mp hp z hz)
theorem O.pure_lt {o : O} (hp : o.pure = true) {f : Nat} : o.lt f := by
  cases o with
  | lst z => exact W.isD_all hp
  | dct z => exact fun q hq => W.isD_lt (List.all_eq_true.mp hp q hq)
  | ins _ z => exact fun q hq => W.isD_lt (List.all_eq_true.mp hp q hq)
/-- an object of the heap becomes a place -/
theorem RH.more {a : Addr} {u : HO} {o : O} (q : RH g H M fl h) (ha : H a = some u) (hb : M.B a) (hm : a ∉ M.m) (r : RO g H M u o) : RH g H ⟨M.B, M.m ++ [a]⟩ fl ⟨h.o ++ [o], h.c⟩ := by
  have e : Exw H M H ⟨M.B, M.m ++ [a]⟩ := ⟨fun n a e => by
    show (M.m ++ _)[n]? = _
    rw [List.getElem?_append_left (List.getElem?_eq_some_iff.mp e).1]
    exact e, fun a o e n => ⟨.of e, n⟩, fun _ _ e => e, fun _ _ _ e => e⟩
  refine ⟨?_, fun b hb' => ?_, ?_, fun n b o' e1 e2 => ?_, fun hc f hf j o' hj ej => ?_, fun f hf => ?_, q.tb⟩
  · show (M.m ++ [a]).Nodup
    rw [List.nodup_append]
    exact ⟨q.nd, List.nodup_cons.mpr ⟨by simp, List.nodup_nil⟩, fun b hb c hc z => hm (by rw [← List.mem_singleton.mp hc, ← z]; exact hb)⟩
  · rcases List.mem_append.mp hb' with z | z
    · exact q.sub b z
    · rw [List.mem_singleton.mp z]; exact hb
  · show (M.m ++ [a]).length = (h.o ++ [o]).length
    rw [List.length_append, List.length_append, q.len]
    rfl
  · have e1' : (M.m ++ [a])[n]? = some b := e1
    have e2' : (h.o ++ [o])[n]? = some o' := e2
    by_cases hn : n < M.m.length
    · rw [List.getElem?_append_left hn] at e1'
      rw [List.getElem?_append_left (by rw [← q.len]; exact hn)] at e2'
      obtain ⟨u', h1, h2⟩ := q.ev n b o' e1' e2'
      exact ⟨u', h1, h2.mw e⟩
    · rw [List.getElem?_append_right (by omega)] at e1'
      rw [List.getElem?_append_right (by rw [← q.len]; omega)] at e2'
      have hz : n - M.m.length = 0 := by
        have := (List.getElem?_eq_some_iff.mp e1').1
        simp at this
        exact this
      rw [hz] at e1'
      rw [← q.len, hz] at e2'
      simp at e1' e2'
      subst e1' e2'
      exact ⟨u, ha, r.mw e⟩
  · have ej' : (h.o ++ [o])[j]? = some o' := ej
    rw [List.getElem?_append_left (Nat.lt_of_lt_of_le hj (q.fle f hf))] at ej'
    exact q.cl hc f hf j o' hj ej'
  · show f ≤ (h.o ++ [o]).length
    rw [List.length_append]
    exact Nat.le_trans (q.fle f hf) (Nat.le_add_right _ _)
end
end
end Xs

/-! XsM: a def by its body. -/
namespace Xs
noncomputable section
open PySem PySem.Spec PyProof.Rows L2
section
variable {g : G} {H H' : Hp} {M M' : Mu} {fl fl' : List Nat} {h h' : Sto} {v u : V} {w y : W} {σ : L2.St} {Q : VK} {E : XK} {n na nl : Nat}
theorem entry_rs {N : List Str} {vs : List V} {ws : List W} (hN : N.length = nl) (r : RWs g H M vs ws) : RS g H M (start N vs) (entry nl ws) := by
  have hl := RWs.length r
  refine ⟨?_, fun i w e => ?_⟩
  · unfold L2.start entry
    rw [List.length_append, List.length_append, List.length_map, List.length_map, List.length_replicate, List.length_replicate, hl, hN]
  · unfold L2.start
    simp only [entry] at e
    by_cases hi : i < ws.length
    · rw [List.getElem?_append_left (by rw [List.length_map]; exact hi), List.getElem?_map] at e
      rw [List.getElem?_append_left (by rw [List.length_map, hl]; exact hi), List.getElem?_map]
      cases e2 : ws[i]? with
      | none => rw [e2] at e; cases e
      | some z =>
        rw [e2] at e
        cases e
        obtain ⟨v, e3, rv⟩ := RWs.get r e2
        exact ⟨v, by rw [e3]; rfl, rv⟩
    · rw [List.getElem?_append_right (by rw [List.length_map]; omega)] at e
      rw [List.getElem?_replicate] at e
      split at e <;> cases e
theorem Exd.refl (H : Hp) (B : Addr → Prop) : Exd H B H B := ⟨fun _ _ e n => ⟨.of e, n⟩, fun _ _ e => e, fun _ _ _ e => e⟩
theorem Exd.less (H : Hp) (B : Addr → Prop) (a : Addr) : Exd H B H (fun b => B b ∧ b ≠ a) := ⟨fun _ _ e n => ⟨.of e, fun z => n z.1⟩, fun _ _ e => e, fun _ _ _ e => e⟩
theorem REx.mw {B' : Addr → Prop} {m' : List Addr} {c : Value} {d : Option Addr} {e : Ex} (x : Exd H M.B H' B') (r : REx g H M c d e) : REx g H' ⟨B', m'⟩ c d e := by
  obtain ⟨C, h1, h2, h3⟩ := r
  refine ⟨C, h1, h2, ?_⟩
  rcases h3 with h3 | ⟨dd, fs, h4, h5, h6, h7⟩
  · exact .inl h3
  · exact .inr ⟨dd, fs, h4, (x.old _ _ h5 h6).1, (x.old _ _ h5 h6).2, h7.mw x⟩
/-- what is new stands apart from what was -/
theorem new_ne {k : Nat} {a : Addr} (rh : RH g H M fl h) (q : RH g H' M' fl' h') (x : Ext H M H' M') (hk : ¬ k < h.o.length) (e : M'.m[k]? = some a) : ∀ b o, H b = some o → b ≠ a := fun b o eb z => by
  subst z
  by_cases hm : b ∈ M.m
  · obtain ⟨i, hi, e1⟩ := List.mem_iff_getElem.mp hm
    have e2 := x.pre i b (by rw [List.getElem?_eq_getElem hi, e1])
    have h3 := List.getElem?_eq_some_iff.mp e2
    have h4 := List.getElem?_eq_some_iff.mp e
    have := (List.getElem_inj q.nd).mp (h3.2.trans h4.2.symm)
    rw [rh.len] at hi
    omega
  · exact (x.old b o eb hm).2 (List.mem_of_getElem? e)
/-- an object that stays from now on, as a value -/
theorem frozen_ok {k : Nat} {a : Addr} {ob : O} {z : W} (q : RH g H' M' fl' h') (e : M'.m[k]? = some a) (eo : h'.o[k]? = some ob) (ez : frozen ob = some z) {m' : List Addr} : RW g H' ⟨fun b => M'.B b ∧ b ≠ a, m'⟩ (.ref a) z := by
  have xd := Exd.less H' M'.B a
  cases ob with
  | lst ws =>
    simp only [frozen, Option.map_eq_some_iff] at ez
    obtain ⟨ds, e1, rfl⟩ := ez
    obtain ⟨vs, hv, rv⟩ := q.lst e eo
    rw [pureL_some e1] at rv
    exact .d (.lst ⟨hv, fun z => z.2 rfl⟩ ((RWs.toD rv).mw xd))
  | dct ws =>
    simp only [frozen, Option.map_eq_some_iff] at ez
    obtain ⟨ds, e1, rfl⟩ := ez
    obtain ⟨vs, hv, rv⟩ := q.dct e eo
    rw [pureK_some e1] at rv
    exact .f ⟨hv, fun z => z.2 rfl⟩ ((RWk.toD rv).mw xd)
  | ins _ _ => cases ez
theorem readT {N : List Str} {fz : Bool} {body : XS} {vs : List V} (hN : N.length = nl) (hs : spF g (fnT na nl fz body) vs H Q E) : rdS g (fun c d _ H => E c d H) body { nx := fun _ H' => Q .non H', rt := Q } (start N vs) H := by
  obtain ⟨ws, h, M, fl, rw1, rh, p⟩ := hs
  unfold fnT at p
  by_cases hl : ws.length = na
  · rw [if_pos hl] at p
    refine ⟨entry nl ws, ⟨h.o, true⟩, M, _, entry_rs hN rw1, rh.enter, ?_⟩
    cases e : body (entry nl ws) ⟨h.o, true⟩ with
    | stuck => rw [e] at p; exact p.elim
    | bk _ _ => rw [e] at p; exact p.elim
    | ct _ _ => rw [e] at p; exact p.elim
    | nx r' h' =>
      rw [e] at p
      intro σ' H' M' x rs' rh'
      obtain ⟨hc, p⟩ := po_if p
      obtain ⟨r1, x1⟩ := rh.cut rh' x hc (fun z => z) (Exd.refl H' M'.B) x.bb
      exact p .non H' _ x1 r1 (.d .non)
    | exc ee r' h' =>
      rw [e] at p
      intro c d σ' H' M' x rs' rh' re
      obtain ⟨hc, p⟩ := po_if p
      obtain ⟨r1, x1⟩ := rh.cut rh' x hc (fun z => z) (Exd.refl H' M'.B) x.bb
      exact p c d H' _ x1 r1 (re.mw (Exd.refl H' M'.B))
    | rt z h' =>
      rw [e] at p
      intro v H' M' x rh' rz
      obtain ⟨hc, p⟩ := po_if p
      obtain ⟨r1, x1⟩ := rh.cut rh' x hc (fun z => z) (Exd.refl H' M'.B) x.bb
      have same : ∀ {z : W}, RW g H' M' v z → z.lt h.o.length → RW g H' ⟨M'.B, M'.m.take h.o.length⟩ v z := fun r hlt => r.cut (Exd.refl H' M'.B) hlt
      cases z with
      | d _ => exact p v H' _ x1 r1 (same rz trivial)
      | s _ => exact p v H' _ x1 r1 (same rz trivial)
      | f _ => exact p v H' _ x1 r1 (same rz trivial)
      | t _ => exact p v H' _ x1 r1 (same rz trivial)
      | ty _ => exact p v H' _ x1 r1 (same rz trivial)
      | fn _ => exact p v H' _ x1 r1 (same rz trivial)
      | x _ _ => exact p.elim
      | l k =>
        obtain ⟨a, rfl, ea⟩ := rz.l_inv
        simp only at p
        by_cases hk : k < h.o.length
        · rw [if_pos hk] at p
          exact p _ H' _ x1 r1 (same rz hk)
        · rw [if_neg hk] at p
          have ne := new_ne rh rh' x hk ea
          cases eo : h'.o[k]? with
          | none => rw [eo] at p; exact p.elim
          | some ob =>
            rw [eo] at p
            simp only at p
            cases fz with
            | true =>
              simp only [if_true] at p
              cases ez : frozen ob with
              | none => rw [ez] at p; exact p.elim
              | some z =>
                rw [ez] at p
                obtain ⟨r2, x2⟩ := rh.cut rh' x hc (fun z => z) (Exd.less H' M'.B a) fun b o eb => (x.bb b o eb).trans ⟨fun q => ⟨q, ne b o eb⟩, fun q => q.1⟩
                exact p _ H' _ x2 r2 (frozen_ok rh' ea eo ez)
            | false =>
              simp only [Bool.false_eq_true, if_false] at p
              obtain ⟨hp, p⟩ := po_if p
              obtain ⟨u, h1, h2⟩ := rh'.ev k a ob ea eo
              have nm : a ∉ M'.m.take h.o.length := fun z => by
                obtain ⟨i, hi, e1⟩ := List.mem_iff_getElem.mp z
                rw [List.length_take] at hi
                have e2 : M'.m[i]? = some a := by
                  rw [← List.getElem?_take_of_lt (show i < h.o.length by omega), List.getElem?_eq_getElem (by rw [List.length_take]; omega), e1]
                have h3 := List.getElem?_eq_some_iff.mp e2
                have h4 := List.getElem?_eq_some_iff.mp ea
                have := (List.getElem_inj rh'.nd).mp (h3.2.trans h4.2.symm)
                omega
              have r3 := r1.more h1 (rh'.sub a (List.mem_of_getElem? ea)) nm (h2.cut (Exd.refl H' M'.B) (O.pure_lt hp))
              have len : (M'.m.take h.o.length).length = h.o.length := by
                rw [List.length_take]
                have := (List.getElem?_eq_some_iff.mp ea).1
                omega
              refine p _ H' ⟨M'.B, M'.m.take h.o.length ++ [a]⟩ ⟨fun i b eb => ?_, fun b o eb nb => ⟨(x1.old b o eb nb).1, fun z => ?_⟩, x1.bb, x1.tup, x1.frz, x1.dom⟩ r3 (.l ?_)
              · have e3 : (M'.m.take h.o.length)[i]? = some b := x1.pre i b eb
                show (M'.m.take h.o.length ++ [a])[i]? = some b
                rw [List.getElem?_append_left (List.getElem?_eq_some_iff.mp e3).1]
                exact e3
              · rcases List.mem_append.mp z with z | z
                · exact (x1.old b o eb nb).2 z
                · exact ne b o eb (List.mem_singleton.mp z)
              · show (M'.m.take h.o.length ++ [a])[h.o.length]? = some a
                rw [List.getElem?_append_right (by omega), len, Nat.sub_self]
                rfl
  · rw [if_neg hl] at p
    exact p.elim
theorem readA {N : List Str} {body : XS} {vs : List V} (hN : N.length = nl) (hs : spF g (fnA na nl body) vs H Q E) : rdS g (fun c d _ H => E c d H) body { nx := fun _ H' => Q .non H', rt := Q } (start N vs) H := by
  obtain ⟨ws, h, M, fl, rw1, rh, p⟩ := hs
  unfold fnA at p
  have fin : ∀ {H' : Hp} {M' : Mu} {h' : Sto}, RH g H' M' (if h.c = true then h.o.length :: fl else [h.o.length]) h' → RH g H' M' fl ⟨h'.o, h.c && h'.c⟩ := fun {H' M' h'} q => by
    refine ⟨q.nd, q.sub, q.len, q.ev, fun hc f hf j o hj e => ?_, fun f hf => ?_, q.tb⟩
    · rw [Bool.and_eq_true] at hc
      exact q.cl hc.2 f (by rw [if_pos hc.1]; exact List.mem_cons_of_mem _ hf) j o hj e
    · have hn : h.o.length ∈ (if h.c = true then h.o.length :: fl else [h.o.length]) := by
        by_cases z : h.c = true
        · rw [if_pos z]; exact List.mem_cons_self
        · rw [if_neg z]; exact List.mem_cons_self
      exact Nat.le_trans (rh.fle f hf) (q.fle _ hn)
  by_cases hl : ws.length = na
  · rw [if_pos hl] at p
    refine ⟨entry nl ws, ⟨h.o, true⟩, M, _, entry_rs hN rw1, rh.enter, ?_⟩
    cases e : body (entry nl ws) ⟨h.o, true⟩ with
    | stuck => rw [e] at p; exact p.elim
    | bk _ _ => rw [e] at p; exact p.elim
    | ct _ _ => rw [e] at p; exact p.elim
    | nx r' h' => rw [e] at p; exact fun σ' H' M' x rs' rh' => p .non H' M' x (fin rh') (.d .non)
    | exc ee r' h' => rw [e] at p; exact fun c d σ' H' M' x rs' rh' re => p c d H' M' x (fin rh') re
    | rt z h' => rw [e] at p; exact fun v H' M' x rh' rz => p v H' M' x (fin rh') rz
  · rw [if_neg hl] at p
    exact p.elim
theorem RWs.iso {vs : List V} {ws : List W} (r : RWs g H M vs ws) (hp : ws.all W.isD = true) {m' : List Addr} : RWs g H ⟨M.B, m'⟩ vs ws := by
  induction r with
  | nil => exact .nil
  | cons a b ih =>
    rw [List.all_cons, Bool.and_eq_true] at hp
    refine .cons ?_ (ih hp.2)
    cases a with
    | d q => exact .d q
    | l _ => cases hp.1
    | s q1 q2 => exact .s q1 q2
    | f q1 q2 => exact .f q1 q2
    | t => exact .t
    | ty => exact .ty
    | fn q => exact .fn q
    | x h1 h2 h3 h4 h5 => exact .x h1 h2 h3 h4 h5
    | x0 h1 h2 => exact .x0 h1 h2
theorem readI {N : List Str} {body : XS} {vs : List V} (hN : N.length = nl) (hs : spF g (fnI na nl body) vs H Q E) : rdS g (fun c d _ H => E c d H) body { nx := fun _ H' => Q .non H', rt := Q } (start N vs) H := by
  obtain ⟨ws, h, M, fl, rw1, rh, p⟩ := hs
  unfold fnI at p
  obtain ⟨hcond, p⟩ := po_if p
  rw [Bool.and_eq_true, decide_eq_true_eq] at hcond
  have rw2 : RWs g H ⟨M.B, []⟩ vs ws := RWs.iso rw1 hcond.2
  have rh2 : RH g H ⟨M.B, []⟩ [] ⟨[], true⟩ := by
    refine ⟨List.nodup_nil, fun a ha => ?_, rfl, fun n a o e => ?_, fun _ f hf => ?_, fun f hf => ?_, rh.tb⟩
    · cases ha
    · cases e
    · cases hf
    · cases hf
  refine ⟨entry nl ws, ⟨[], true⟩, ⟨M.B, []⟩, [], entry_rs hN rw2, rh2, ?_⟩
  -- back to the caller's store
  have back : ∀ {H' : Hp} {M' : Mu} {B' : Addr → Prop}, Ext H ⟨M.B, []⟩ H' M' → (∀ a o, H a = some o → (M.B a ↔ B' a)) → Ext H M H' ⟨B', M.m⟩ ∧ RH g H' ⟨B', M.m⟩ fl h := fun {H' M' B'} x hB => by
    have x2 : Ext H M H' ⟨B', M.m⟩ := ⟨fun _ _ e => e, fun a o e n => ⟨(x.old a o e (fun z => nomatch z)).1, n⟩, hB, x.tup, x.frz, x.dom⟩
    refine ⟨x2, rh.ext x2 rfl (fun a ha => ?_) fun a ha => ?_⟩
    · obtain ⟨o, u, e, _⟩ := rh.mem ha
      exact (hB a u e).mp (rh.sub a ha)
    · obtain ⟨o, u, e, ro⟩ := rh.mem ha
      rw [e]
      exact ro.stays (x.old a u e (fun z => nomatch z)).1
  cases e : body (entry nl ws) ⟨[], true⟩ with
  | stuck => rw [e] at p; exact p.elim
  | bk _ _ => rw [e] at p; exact p.elim
  | ct _ _ => rw [e] at p; exact p.elim
  | nx r' h' =>
    rw [e] at p
    intro σ' H' M' x rs' rh'
    obtain ⟨x1, r1⟩ := back x x.bb
    exact p .non H' _ x1 r1 (.d .non)
  | exc ee r' h' =>
    rw [e] at p
    intro c d σ' H' M' x rs' rh' re
    obtain ⟨x1, r1⟩ := back x x.bb
    exact p c d H' _ x1 r1 (re.mw (Exd.refl H' M'.B))
  | rt z h' =>
    rw [e] at p
    intro v H' M' x rh' rz
    obtain ⟨x1, r1⟩ := back x x.bb
    have same : ∀ {z : W}, z.isD = true → RW g H' M' v z → RW g H' ⟨M'.B, M.m⟩ v z := fun hz r => by
      cases r with
      | d q => exact .d q
      | l _ => cases hz
      | s q1 q2 => exact .s q1 q2
      | f q1 q2 => exact .f q1 q2
      | t => exact .t
      | ty => exact .ty
      | fn q => exact .fn q
      | x h1 h2 h3 h4 h5 => exact .x h1 h2 h3 h4 h5
      | x0 h1 h2 => exact .x0 h1 h2
    cases z with
    | d _ => exact p v H' _ x1 r1 (same rfl rz)
    | s _ => exact p v H' _ x1 r1 (same rfl rz)
    | f _ => exact p v H' _ x1 r1 (same rfl rz)
    | t _ => exact p v H' _ x1 r1 (same rfl rz)
    | ty _ => exact p v H' _ x1 r1 (same rfl rz)
    | fn _ => exact p v H' _ x1 r1 (same rfl rz)
    | x _ _ => exact p.elim
    | l k =>
      obtain ⟨a, rfl, ea⟩ := rz.l_inv
      simp only [closeI] at p
      have ne := new_ne (fl := []) rh2 rh' x (Nat.not_lt_zero k) ea
      cases eo : h'.o[k]? with
      | none => rw [eo] at p; exact p.elim
      | some ob =>
        rw [eo] at p
        simp only at p
        cases ez : frozen ob with
        | none => rw [ez] at p; exact p.elim
        | some z =>
          rw [ez] at p
          obtain ⟨x2, r2⟩ := back (B' := fun b => M'.B b ∧ b ≠ a) x fun b o eb => (x.bb b o eb).trans ⟨fun q => ⟨q, ne b o eb⟩, fun q => q.1⟩
          exact p _ H' _ x2 r2 (frozen_ok rh' ea eo ez)
end
section
variable {P : Program} {w : World} {K : PySem.W.Frag} {mg : Str → Option Value} {base : Heap} {k na nl : Nat} {f : Addr} {fd : FuncData} {ps N : List Str} {g : G} {body : XS} {x qual : Str} {st : Stmt} {fz : Bool}
theorem fnT_len {vs : List V} {H : Hp} {Q : VK} {E : XK} (hp : ps.length = na) (h : spF g (fnT na nl fz body) vs H Q E) : vs.length = ps.length := by
  obtain ⟨ws, h, M, fl, rw1, rh, p⟩ := h
  unfold fnT at p
  obtain ⟨hl, _⟩ := po_ifP p
  rw [RWs.length rw1, hl, hp]
theorem fnA_len {vs : List V} {H : Hp} {Q : VK} {E : XK} (hp : ps.length = na) (h : spF g (fnA na nl body) vs H Q E) : vs.length = ps.length := by
  obtain ⟨ws, h, M, fl, rw1, rh, p⟩ := h
  unfold fnA at p
  obtain ⟨hl, _⟩ := po_ifP p
  rw [RWs.length rw1, hl, hp]
theorem fnI_len {vs : List V} {H : Hp} {Q : VK} {E : XK} (hp : ps.length = na) (h : spF g (fnI na nl body) vs H Q E) : vs.length = ps.length := by
  obtain ⟨ws, h, M, fl, rw1, rh, p⟩ := h
  unfold fnI at p
  obtain ⟨hl, _⟩ := po_if p
  rw [Bool.and_eq_true, decide_eq_true_eq] at hl
  rw [RWs.length rw1, hl.1, hp]
/-- what is asked of a body -/
abbrev Body (P : Program) (w : World) (K : PySem.W.Frag) (mg : Str → Option Value) (base : Heap) (k : Nat) (f : Addr) (N : List Str) (g : G) (body : XS) (qual : Str) (st : Stmt) : Prop :=
  ∀ (cdv : Value) (A : Around) (outer : List PySem.Env) (s : Shared) (H : Hp) (E : XK), Room k (A.deeper (envOfC qual (defScope st) s.heap.objs.size f cdv)) → (A.deeper (envOfC qual (defScope st) s.heap.objs.size f cdv)).guards = some [] →
    PSs (cxOf (L2.CX P w) P w K mg base N qual (defScope st) f cdv A outer s H E) (defBody st) (rdS g (fun c d _ H => E c d H) body)
theorem fngT (F : Fun K x qual st f fd) (S : FnScope N ps (defScope st)) (b : Body P w K mg base k f N g body qual st) (hN : N.length = nl := by rfl) (hp : ps.length = na := by rfl) : FnG P w K mg base (k + 1) f fd ps (spF g (fnT na nl fz body)) :=
  fng F S (fun vs H Q E h => fnT_len hp h) fun cdv A outer s H vs Q E hr hg h => ⟨_, b cdv A outer s H E hr (by rw [guards_deeper]; exact hg), readT hN h⟩
theorem fngA (F : Fun K x qual st f fd) (S : FnScope N ps (defScope st)) (b : Body P w K mg base k f N g body qual st) (hN : N.length = nl := by rfl) (hp : ps.length = na := by rfl) : FnG P w K mg base (k + 1) f fd ps (spF g (fnA na nl body)) :=
  fng F S (fun vs H Q E h => fnA_len hp h) fun cdv A outer s H vs Q E hr hg h => ⟨_, b cdv A outer s H E hr (by rw [guards_deeper]; exact hg), readA hN h⟩
theorem fngI (F : Fun K x qual st f fd) (S : FnScope N ps (defScope st)) (b : Body P w K mg base k f N g body qual st) (hN : N.length = nl := by rfl) (hp : ps.length = na := by rfl) : FnG P w K mg base (k + 1) f fd ps (spF g (fnI na nl body)) :=
  fng F S (fun vs H Q E h => fnI_len hp h) fun cdv A outer s H vs Q E hr hg h => ⟨_, b cdv A outer s H E hr (by rw [guards_deeper]; exact hg), readI hN h⟩
/-- what a body's context lets out -/
theorem takesE {cdv : Value} {A : Around} {outer : List PySem.Env} {s : Shared} {H : Hp} {E : XK} {sc : Scope} : Takes (cxOf (L2.CX P w) P w K mg base N qual sc f cdv A outer s H E) (fun c d _ H => E c d H) := takes_of rfl rfl rfl rfl
theorem ownsE {cdv : Value} {A : Around} {outer : List PySem.Env} {s : Shared} {H : Hp} {E : XK} {sc : Scope} : PassesOwn (model P w) (cxOf (L2.CX P w) P w K mg base N qual sc f cdv A outer s H E).A (cxOf (L2.CX P w) P w K mg base N qual sc f cdv A outer s H E).env (cxOf (L2.CX P w) P w K mg base N qual sc f cdv A outer s H E).xe := passes_of rfl
end
end
end Xs

/-! XsN: augmented stores, rows of targets, slices, methods of lists, new instances, isinstance. -/
namespace Xs
noncomputable section
open PySem PySem.Spec PyProof.Rows L2
section
variable {X : Cx} {g : G} {Z : WX} {a b c : Expr} {xa xb xc : XE} {pos p apos : Pos} {H : Hp} {M : Mu} {fl : List Nat} {h : Sto} {v u : V} {w y : W} {σ : L2.St} {Q : VK} {k : Nat} {f C : Addr} {fd : FuncData} {ps : List Str} {F : List W → Sto → Re W} {x m : Str} {e o : Expr} {es : List Expr} {ta : XA}
theorem i_add : Op2 X g Z (inplaceOp .Add) fAddI := ⟨_, iop_add, fun rh rx ry p => by
  obtain ⟨i, j, rfl, rfl, p⟩ := i2_inv p rx ry
  exact ⟨i, j, rfl, rfl, po_int rh p⟩⟩
theorem i_sub : Op2 X g Z (inplaceOp .Sub) fSub := ⟨_, iop_sub, fun rh rx ry p => by
  obtain ⟨i, j, rfl, rfl, p⟩ := i2_inv p rx ry
  exact ⟨i, j, rfl, rfl, po_int rh p⟩⟩
@[simp] def sAug (i : Nat) (F : W → W → Sto → Re W) (e : XE) : XS := fun r h => match r[i]? with
  | some (some w) => (e r h).then r fun y h1 => (F w y h1).then r fun z h2 => .nx (r.set i (some z)) h2
  | _ => .stuck
theorem ss_aug {i : Nat} {F : W → W → Sto → Re W} {op : Operator} {pos' : Pos} (hN : X.N.Nodup) (o : Op2 X g Z (inplaceOp op) F) (he : PE X e (rdE g Z xa)) (hi : X.N[i]? = some x := by rfl) (hx : Loc X.env.scope x := by first | exact Or.inl rfl | exact Or.inr rfl)
    (hf : X.fn x = true ∨ X.env.scope.names.lookup x = some .local := by first | exact .inl rfl | exact .inr rfl) : PS X (.AugAssign (.Name x pos') op e pos) (rdS g Z (sAug i F xa)) := by
  obtain ⟨r2, ho, k⟩ := o
  refine PS.imp (ps_aug hN hi hx he ho hf) fun D σ H ⟨r, h, M, fl, rs, rh, q⟩ => ?_
  simp only [sAug] at q
  cases e1 : r[i]? with
  | none => rw [e1] at q; exact q.elim
  | some o =>
    rw [e1] at q
    cases o with
    | none => exact q.elim
    | some w =>
      obtain ⟨v, e2, rv⟩ := rs.ev i w e1
      refine ⟨v, e2, r, h, M, fl, rs, rh, Po.then rs rh.sub q fun y h1 u H1 M1 x1 rs1 rh1 ry p1 => k rh1 (rv.mono x1 rh.sub) ry (Po.then rs1 rh1.sub p1 fun z h2 zv H2 M2 x2 rs2 rh2 rz p2 => ?_)⟩
      exact p2 _ H2 M2 (Ext.refl H2 M2) (rs2.set rz) rh2
/-- target = e, the target of names -/
@[simp] def sAsg (tg : XG) (e : XE) : XS := fun r h => (e r h).then r fun w h1 => match tg w r with
  | some r1 => .nx r1 h1
  | none => .stuck
theorem ss_asg {own : List Nat} {tg : Expr} {xg : XG} (he : PE X e (rdE g Z xa)) (hg : PG X tg (rdG g own xg)) (hs : swapsWithSole [tg] e pos.line X.env = pure false := by rfl) (hw : swappedStores [tg] e X.env = pure none := by rfl)
    (h1 : (assignEach [tg] X.env).map (·.2) = [assign tg X.env] := by rfl) : PS X (.Assign [tg] e pos) (rdS g Z (sAsg xg xa)) :=
  PS.imp (ps_asg he hg hs hw h1) fun D σ H ⟨r, h, M, fl, rs, rh, q⟩ => ⟨r, h, M, fl, rs, rh, Po.then rs rh.sub q fun w h1 v H1 M1 e1 rs1 rh1 rw1 p1 => by
    cases e2 : xg w r with
    | none => simp only [e2] at p1; exact p1.elim
    | some r1 =>
      simp only [e2] at p1
      exact ⟨r, h1, M1, fl, w, rs1, rh1, rw1, r1, e2, fun σ' rs' _ => p1 σ' H1 M1 (Ext.refl H1 M1) rs' rh1⟩⟩

/-! ### slices -/
abbrev XO := Env → Sto → Re (Option Int)
abbrev rdO (g : G) (Z : WX) (z : XO) : TO := rd g Z (fun _ _ (a b : Option Int) => a = b) z
@[simp] def xNo : XO := fun _ h => .ok none h
@[simp] def xPart (a : XE) : XO := fun r h => (a r h).bind fun w h1 => match w.int? with
  | some i => .ok (some i) h1
  | none => .stuck
theorem so_none : PO X none (rdO g Z xNo) := ⟨fun pins s σ H Q I ⟨r, h, M, fl, rs, rh, q⟩ => po_none.run pins s σ H Q I (q none H M (Ext.refl H M) rh rfl)⟩
theorem so_some (ha : PE X a (rdE g Z xa)) : PO X (some a) (rdO g Z (xPart xa)) := ⟨fun pins s σ H Q I ⟨r, h, M, fl, rs, rh, q⟩ => (po_some ha).run pins s σ H Q I ⟨r, h, M, fl, rs, rh, Po.bind q fun w h1 v H1 M1 e1 rh1 rw1 p1 => by
  cases e : w.int? with
  | none => simp only [e] at p1; exact p1.elim
  | some i =>
    simp only [e] at p1
    rw [W.int?_some e] at rw1
    obtain rfl := rw1.int_inv
    exact ⟨i, rfl, p1 _ H1 M1 (Ext.refl H1 M1) rh1 rfl⟩⟩⟩
/-- the cut of a row -/
def cut {α : Type} (xs : List α) (lo hi : Option Int) : List α := (xs.drop (HT.sIx xs.length 0 lo)).take (HT.sIx xs.length xs.length hi - HT.sIx xs.length 0 lo)
theorem RDs.take {B : Addr → Prop} {xs : List V} {ds : List D} (n : Nat) (q : RDs g H B xs ds) : RDs g H B (xs.take n) (ds.take n) := by
  induction n generalizing xs ds with
  | zero => exact .nil
  | succ n ih =>
    cases q with
    | nil => exact .nil
    | cons a b => exact .cons a (ih b)
theorem RDs.drop {B : Addr → Prop} {xs : List V} {ds : List D} (n : Nat) (q : RDs g H B xs ds) : RDs g H B (xs.drop n) (ds.drop n) := by
  induction n generalizing xs ds with
  | zero => exact q
  | succ n ih =>
    cases q with
    | nil => exact .nil
    | cons a b => exact ih b
theorem RDs.cut {B : Addr → Prop} {xs : List V} {ds : List D} (q : RDs g H B xs ds) (lo hi : Option Int) : RDs g H B (cutV xs lo hi) (Xs.cut ds lo hi) := by
  unfold cutV Xs.cut
  rw [q.len]
  exact RDs.take _ (RDs.drop _ q)
theorem strOk_cut {z : Str} (hz : PyData.strOk z = true) (lo hi : Option Int) : PyData.strOk (cutS z lo hi) = true := by
  unfold PyData.strOk cutS at *
  rw [Array.all_eq_true'] at *
  intro q hq
  have hq : q ∈ z.cps.toList := by
    have : q ∈ ((z.cps.toList.drop (HT.sIx z.length 0 lo)).take (HT.sIx z.length z.length hi - HT.sIx z.length 0 lo)) := by simpa using hq
    exact List.mem_of_mem_drop (List.mem_of_mem_take this)
  exact hz q (by simpa using hq)
@[simp] def fSl (w : W) (lo hi : Option Int) (h : Sto) : Re W := match w.tup? with
  | some ds => .ok (.d (.tup (cut ds lo hi))) h
  | none => match lstOf h w with
    | some ws => match pureL ws with
      | some ds => .ok (.d (.lst (cut ds lo hi))) h
      | none => .stuck
    | none => match w.str? with
      | some z => if z.length ≤ lim then .ok (.d (.str (cutS z lo hi))) h else .stuck
      | none => .stuck
@[simp] def xSl (a : XE) (lo hi : XO) : XE := fun r h => (a r h).bind fun w h1 => (lo r h1).bind fun l h2 => (hi r h2).bind fun u h3 => fSl w l u h3
theorem se_sl {lo hi : Option Expr} {xl xh : XO} {p2 : Pos} (ha : PE X a (rdE g Z xa)) (hl : PO X lo (rdO g Z xl)) (hh : PO X hi (rdO g Z xh)) (hK : X.K = g.K := by rfl) : PE X (.Subscript a (.Slice lo hi none p2) pos) (rdE g Z (xSl xa xl xh)) :=
  PE.imp (pe_slice (sl_list.or (sl_tupA.or sl_str)) ha hl hh) fun σ H Q ⟨r, h, M, fl, rs, rh, q⟩ => ⟨r, h, M, fl, rs, rh, Po.bind q fun w h1 v H1 M1 e1 rh1 rw1 p1 => ⟨r, h1, M1, fl, rs.mono e1 rh.sub, rh1, Po.bind p1 fun l h2 l' H2 M2 e2 rh2 el p2 =>
    ⟨r, h2, M2, fl, (rs.mono e1 rh.sub).mono e2 rh1.sub, rh2, Po.bind p2 fun u h3 u' H3 M3 e3 rh3 eu p3 => by
      have el : l' = l := el
      have eu : u' = u := eu
      subst el
      subst eu
      have rv := (rw1.mono e2 rh1.sub).mono e3 rh2.sub
      rw [hK]
      simp only [fSl] at p3
      cases et : w.tup? with
      | some ds =>
        rw [et] at p3
        have p3 : Po g Z σ fl (RW g) H3 M3 Q (.ok (.d (.tup (Xs.cut ds l' u'))) h3) := p3
        rw [W.tup?_some et] at rv
        obtain ⟨a, xs, rfl, ht, hd⟩ := rv.tup_inv
        refine .inr (.inl ⟨a, xs, rfl, ht, fun hw => ?_, fun _ n hn => po_tup rh3 p3 (hd.cut _ _) hn⟩)
        have e5 : Xs.cut ds l' u' = ds := by
          unfold Xs.cut
          rw [hd.len] at hw
          rw [hw.1, hw.2]
          simp
        rw [e5] at p3
        exact p3 _ H3 M3 (Ext.refl H3 M3) rh3 (.d (.tup ht hd))
      | none =>
        rw [et] at p3
        simp only at p3
        cases e4 : lstOf h3 w with
        | some ws =>
          rw [e4] at p3
          simp only at p3
          cases e5 : pureL ws with
          | none => rw [e5] at p3; exact p3.elim
          | some ds =>
            rw [e5] at p3
            obtain ⟨a, xs, rfl, sq, r2⟩ := lstOf_sq rh3 rv e4
            rw [pureL_some e5] at r2
            exact .inl ⟨a, xs, rfl, sq, fun n hn => po_lst rh3 p3 ((RWs.toD r2).cut _ _) hn⟩
        | none =>
          rw [e4] at p3
          simp only at p3
          cases e5 : w.str? with
          | none => rw [e5] at p3; exact p3.elim
          | some z =>
            rw [e5] at p3
            obtain ⟨hz, p3⟩ := po_ifP p3
            rw [W.str?_some e5] at rv
            obtain ⟨rfl, hok⟩ := rv.str_inv
            exact .inr (.inr ⟨z, rfl, by rw [← lim_line]; exact hz, po_str rh3 (strOk_cut hok _ _) p3⟩)⟩⟩⟩
/-- xs[::-1] -/
@[simp] def fRevL (w : W) (h : Sto) : Re W := match lstOf h w with
  | some ws => match pureL ws with
    | some ds => .ok (.d (.lst ds.reverse)) h
    | none => .stuck
  | none => .stuck
theorem RDs.rev {B : Addr → Prop} {xs : List V} {ds : List D} (q : RDs g H B xs ds) : RDs g H B xs.reverse ds.reverse := by
  induction ds generalizing xs with
  | nil => cases q; exact .nil
  | cons d ds ih =>
    cases q with
    | cons a b =>
      rw [List.reverse_cons, List.reverse_cons]
      exact RDs.app (M := ⟨B, []⟩) (ih b) (.cons a .nil)
theorem se_revL {n : Nat} {p1 p2 p3 : Pos} (ha : PE X a (rdE g Z xa)) (hK : X.K = g.K := by rfl) : PE X (.Subscript a (.Slice none none (some (.UnaryOp .USub (.Constant (.int 1) n p1) p2)) p3) pos) (rdE g Z (xUn fRevL xa)) :=
  PE.imp (pe_revL ha) fun σ H Q ⟨r, h, M, fl, rs, rh, q⟩ => ⟨r, h, M, fl, rs, rh, Po.bind q fun w h1 v H1 M1 e1 rh1 rw1 p1 => by
    rw [hK]
    simp only [fRevL] at p1
    cases e4 : lstOf h1 w with
    | none => rw [e4] at p1; exact p1.elim
    | some ws =>
      rw [e4] at p1
      simp only at p1
      cases e5 : pureL ws with
      | none => rw [e5] at p1; exact p1.elim
      | some ds =>
        rw [e5] at p1
        obtain ⟨a, xs, rfl, sq, r2⟩ := lstOf_sq rh1 rw1 e4
        rw [pureL_some e5] at r2
        exact ⟨a, xs, rfl, sq, fun n hn => po_lst rh1 p1 (RDs.rev (RWs.toD r2)) hn⟩⟩

/-! ### methods of built-in types -/
@[simp] def tyOk (T : String) (w : W) (h : Sto) : Bool := if T = "list" then (lstOf h w).isSome else if T = "str" then w.str?.isSome else if T = "dict" then (dctOf h w).isSome else false
@[simp] def xBm (T : String) (F : W → List W → Sto → Re W) (o : XE) (t : XA) : XE := fun r h => (o r h).bind fun w h1 => if tyOk T w h1 = true then (t r h1).bind fun ws h2 => F w ws h2 else .stuck
def Mt (X : Cx) (g : G) (Z : WX) (id : String) (F : W → List W → Sto → Re W) : Prop :=
  ∃ r, MtR X id r ∧ ∀ {σ : L2.St} {H : Hp} {M : Mu} {fl : List Nat} {h : Sto} {v : V} {w : W} {vs : List V} {ws : List W} {Q : VK}, RH g H M fl h → RW g H M v w → RWs g H M vs ws → Po g Z σ fl (RW g) H M Q (F w ws h) → r v vs H Q
theorem tyOk_v {T : String} (rh : RH g H M fl h) (r : RW g H M v w) (e : tyOk T w h = true) : tyV g.K T v H := by
  simp only [tyOk] at e
  split at e
  · rename_i hT
    subst hT
    cases e2 : lstOf h w with
    | none => rw [e2] at e; cases e
    | some ws =>
      obtain ⟨a, xs, rfl, sq, _⟩ := lstOf_sq rh r e2
      exact .inl ⟨rfl, xs, sq⟩
  · split at e
    · rename_i hT
      subst hT
      cases e2 : w.str? with
      | none => rw [e2] at e; cases e
      | some z =>
        rw [W.str?_some e2] at r
        obtain ⟨rfl, _⟩ := r.str_inv
        rfl
    · split at e
      · rename_i hT
        subst hT
        cases e2 : dctOf h w with
        | none => rw [e2] at e; cases e
        | some ws =>
          obtain ⟨a, xs, rfl, hv, _⟩ := dctOf_h rh r e2
          exact .inr (.inr (.inl ⟨rfl, .inl ⟨xs, hv⟩⟩))
      · cases e
theorem se_bm {T id : String} {name : Str} {F : W → List W → Sto → Re W} {cpos : Pos} {xo : XE} (pa : PlainAttrs T) (slot : Slot T name id) (hty : typeOf (.builtin id) = pure (.type "method_descriptor")) (mt : Mt X g Z id F) (ho : PE X o (rdE g Z xo)) (ha : PA X (e :: es) (rdA g Z ta)) (hK : X.K = g.K := by rfl)
    (hbase : attributeBase o name X.env (eval o X.env) = eval o X.env := by rfl)
    (hfew : ((backTo cpos (starEach (e :: es) X.env)).all (fun x => !x.1) && (backToKw cpos (keywordEach [] X.env)).all (fun x => x.1.isSome)
      && decide ((e :: es).length + ([] : List Keyword).length + (if ([] : List Keyword).isEmpty then 0 else 1) < 30)) = true := by rfl)
    (hline : (apos.endLine == cpos.line) = true := by rfl) (hs : starEach (e :: es) X.env = (false, eval e X.env) :: starEach es X.env := by rfl) (hplain : (backTo cpos (starEach es X.env)).any (·.1) = false := by rfl) :
    PE X (.Call (.Attribute o name apos) (e :: es) [] cpos) (rdE g Z (xBm T F xo ta)) := by
  obtain ⟨r2, hm, k⟩ := mt
  refine PE.imp (pe_bm pa slot hty hm ho ha hbase hfew hline hs hplain) fun σ H Q ⟨r, h, M, fl, rs, rh, q⟩ => ⟨r, h, M, fl, rs, rh, Po.bind q fun w h1 v H1 M1 e1 rh1 rw1 p1 => ?_⟩
  obtain ⟨ht, p1⟩ := po_if p1
  rw [hK]
  exact ⟨tyOk_v rh1 rw1 ht, r, h1, M1, fl, rs.mono e1 rh.sub, rh1, Po.bind p1 fun ws h2 vs H2 M2 e2 rh2 rw2 p2 => k rh2 (rw1.mono e2 rh1.sub) rw2 p2⟩
theorem se_bm0 {T id : String} {name : Str} {F : W → List W → Sto → Re W} {cpos : Pos} {xo : XE} (pa : PlainAttrs T) (slot : Slot T name id) (hty : typeOf (.builtin id) = pure (.type "method_descriptor")) (mt : Mt X g Z id F) (ho : PE X o (rdE g Z xo)) (hK : X.K = g.K := by rfl)
    (hbase : attributeBase o name X.env (eval o X.env) = eval o X.env := by rfl) (hline : (apos.endLine == cpos.line) = true := by rfl) :
    PE X (.Call (.Attribute o name apos) [] [] cpos) (rdE g Z (xBm T F xo xNil)) := by
  obtain ⟨r2, hm, k⟩ := mt
  refine PE.imp (pe_bm0 pa slot hty hm ho hbase hline) fun σ H Q ⟨r, h, M, fl, rs, rh, q⟩ => ⟨r, h, M, fl, rs, rh, Po.bind q fun w h1 v H1 M1 e1 rh1 rw1 p1 => ?_⟩
  obtain ⟨ht, p1⟩ := po_if p1
  rw [hK]
  exact ⟨tyOk_v rh1 rw1 ht, k rh1 rw1 .nil p1⟩
/-- the list at a place, changed -/
@[simp] def onLst (w : W) (h : Sto) (k : Nat → List W → Re W) : Re W := match w with
  | .l n => match h.o[n]? with
    | some (.lst ws) => k n ws
    | _ => .stuck
  | _ => .stuck
theorem onLst_inv {k : Nat → List W → Re W} (rh : RH g H M fl h) (r : RW g H M v w) (q : Po g Z σ fl (RW g) H M Q (onLst w h k)) : ∃ n a vs ws, w = .l n ∧ v = .ref a ∧ M.m[n]? = some a ∧ h.o[n]? = some (.lst ws) ∧ H a = some (.lst vs) ∧ RWs g H M vs ws ∧ Po g Z σ fl (RW g) H M Q (k n ws) := by
  cases w with
  | l n =>
    obtain ⟨a, rfl, e1⟩ := r.l_inv
    simp only [onLst] at q
    split at q
    · rename_i ws ew
      obtain ⟨vs, hv, rv⟩ := rh.lst e1 ew
      exact ⟨n, a, vs, ws, rfl, rfl, e1, ew, hv, rv, q⟩
    · exact q.elim
  | _ => exact q.elim
/-- a list written: the end -/
theorem po_put {n : Nat} {a : Addr} {ws ws' : List W} {vs' : List V} {c' : Bool} {z : W} {zv : V} (rh : RH g H M fl h) (e : M.m[n]? = some a) (eo : h.o[n]? = some (.lst ws)) (r : RWs g H M vs' ws') (rz : RW g H M zv z) (hc : c' = true → h.c = true ∧ ∀ f, n < f → (∀ q ∈ ws, q.lt f) → ∀ q ∈ ws', q.lt f)
    (q : Po g Z σ fl (RW g) H M Q (.ok z ⟨h.o.set n (.lst ws'), c'⟩)) : Q zv (upd H a (.lst vs')) := by
  have xt : Ext H M (upd H a (.lst vs')) M := Ext.put rh e
  exact q zv _ M xt (rh.put e eo (show RWs g _ M vs' ws' from RWs.mono xt rh.sub r) hc) (rz.mono xt rh.sub)
@[simp] def fAppend (w : W) (as : List W) (h : Sto) : Re W := match as with
  | [z] => onLst w h fun n ws => if ws.length < lim then .ok (.d .non) ⟨h.o.set n (.lst (ws ++ [z])), h.c && z.okAt n⟩ else .stuck
  | _ => .stuck
theorem m_append : Mt X g Z "list.append" fAppend := ⟨_, mt_append, fun {σ H M fl h v w vs ws Q} rh rv rws q => by
  cases ws with
  | nil => exact q.elim
  | cons z t =>
    cases t with
    | cons _ _ => exact q.elim
    | nil =>
      obtain ⟨zv, rfl, rz⟩ := RWs.one rws
      obtain ⟨n, a, us, ws, rfl, rfl, e1, e2, hv, ru, q⟩ := onLst_inv rh rv q
      obtain ⟨hl, q⟩ := po_ifP q
      refine ⟨a, us, zv, rfl, rfl, hv, by rw [RWs.length ru, ← lim_line]; exact hl, po_put rh e1 e2 (RWs.app1 ru rz) (.d .non) (fun hc => ?_) q⟩
      rw [Bool.and_eq_true] at hc
      exact ⟨hc.1, fun f hn hf y hy => (List.mem_append.mp hy).elim (hf y) fun z1 => by rw [List.mem_singleton.mp z1]; exact W.okAt_lt hc.2 hn⟩⟩
@[simp] def fExtend (w : W) (as : List W) (h : Sto) : Re W := match as with
  | [z] => onLst w h fun n ws => match ldOf h z with
    | some ds => if ws.length + ds.length ≤ lim then .ok (.d .non) ⟨h.o.set n (.lst (ws ++ ds.map .d)), h.c⟩ else .stuck
    | none => .stuck
  | _ => .stuck
theorem m_extend : Mt X g Z "list.extend" fExtend := ⟨_, mt_extend, fun {σ H M fl h v w vs ws Q} rh rv rws q => by
  cases ws with
  | nil => exact q.elim
  | cons z t =>
    cases t with
    | cons _ _ => exact q.elim
    | nil =>
      obtain ⟨zv, rfl, rz⟩ := RWs.one rws
      obtain ⟨n, a, us, ws, rfl, rfl, e1, e2, hv, ru, q⟩ := onLst_inv rh rv q
      cases e3 : ldOf h z with
      | none => rw [e3] at q; exact q.elim
      | some ds =>
        rw [e3] at q
        obtain ⟨hl, q⟩ := po_ifP q
        obtain ⟨b, ys, rfl, hy, hd⟩ := ldOf_h rh rz e3
        refine ⟨a, b, us, ys, rfl, rfl, hv, hy, by rw [RWs.length ru, hd.len, ← lim_line]; exact hl, po_put rh e1 e2 (Paired.app ru hd.toW) (.d .non) (fun hc => ⟨hc, fun f _ hf y hy => (List.mem_append.mp hy).elim (hf y) fun z1 => ?_⟩) q⟩
        obtain ⟨d, _, rfl⟩ := List.mem_map.mp z1
        trivial⟩
end
end
end Xs

/-! XsO: the end of a law. -/
namespace Xs
noncomputable section
open PySem PySem.Spec PyProof.Rows L2
theorem ints_rds {g : G} {H : Hp} {B : Addr → Prop} : ∀ ns : List Int, RDs g H B (ns.map V.int) (ns.map D.int)
  | [] => .nil
  | n :: ns => .cons (.int n) (ints_rds ns)
/-- the law's call gives True -/
def Good (F : List W → Sto → Re W) (ns : List Int) : Prop := ∃ h', F [.s (ns.map .int)] ⟨[], true⟩ = .ok (.d (.bl true)) h'
theorem good_sp {g : G} {F : List W → Sto → Re W} {ns : List Int} {H : Hp} {a : Addr} (gd : Good F ns) (fz : FzS g.K H a (ns.map V.int)) (tb : ∀ p ∈ g.tb, H p.2 = some (.tbl #[])) : spF g F [.ref a] H (fun v _ => v = .bl true) fun _ _ _ => False := by
  obtain ⟨h', e⟩ := gd
  refine ⟨[.s (ns.map .int)], ⟨[], true⟩, ⟨fun _ => False, []⟩, [], .cons (.s fz (ints_rds ns)) .nil, ⟨List.nodup_nil, ?_, rfl, ?_, ?_, ?_, fun p hp => ⟨#[], tb p hp, trivial⟩⟩, ?_⟩
  · intro b hb; cases hb
  · intro n b o h; cases h
  · intro _ f hf; cases hf
  · intro f hf; cases hf
  · rw [e]
    exact fun v H' M' x rh rv => rv.bl_inv
/-- the tables of code objects, empty as yet -/
structure Tabs0 (K : PySem.W.Frag) (h : Heap) (tb : List (Addr × Addr)) : Prop where
  obj : ∀ p ∈ tb, h.get? p.2 = some { cls := .none, data := .fields #[] }
  out : ∀ p ∈ tb, K.lookup p.2 = none
  hd : ∀ p ∈ tb, PySem.W.CodeHd h p.1 p.2
theorem Tabs0.nil {K : PySem.W.Frag} {h : Heap} : Tabs0 K h [] := ⟨fun p hp => (nomatch hp), fun p hp => (nomatch hp), fun p hp => (nomatch hp)⟩
/-- from an abstract heap that knows at most the script and the tables -/
theorem law_core {P : Program} {w : World} {K : PySem.W.Frag} {mg mb : Str → Option Value} {k : Nat} {fa a : Addr} {fd : FuncData} {x : Str} {g : G} {F : List W → Sto → Re W} {s : Shared} {vs : List Value} {ns : List Int} {H : Hp} (hK : g.K = K)
    (KX : K.In s.heap) (hns : s.heap.Ns mainGlobals mg) (hb : s.heap.Ns builtinsNs mb) (hbb : ∀ x : Str, x ≠ "__name__" → mb x = bootBuiltins x) (hlim : s.heap.NoLimit) (hg : s.gens = #[]) (T0 : Tabs0 K s.heap g.tb)
    (mn : ∃ (bm : Addr) (ob : Obj), mg "__builtins__" = some (.ref bm) ∧ bm ≠ builtinsNs ∧ s.heap.get? bm = some ob ∧ ob.cls = .type "module" ∧ ob.dict = some builtinsNs ∧ ob.data = .plain)
    (ha : s.heap.get? a = some { cls := .type "list", data := .seq vs.toArray }) (hr : Room k callerA) (fn : ∀ base : Heap, K.In base → base.Ns mainGlobals mg → (∀ p ∈ g.tb, GxR.TabB base mg p.1 p.2) → FnG P w K mg base k fa fd [x] (spF g F)) (bind : ∀ (s : Shared) (u : Value), BindsTo s fd ⟨[u], []⟩ [(x, u)])
    (gd : Good F ns) (fz : FzS K H a (ns.map V.int)) (ok : HOk P w H s.heap) (isT : ∀ p ∈ g.tb, H p.2 = some (.tbl #[])) (only : ∀ b u, H b = some u → (b = a ∧ K.lookup a = none ∧ ∃ o, u = .frz o (.lst (ns.map V.int))) ∨ ∃ p ∈ g.tb, p.2 = b) :
    codeAny (model P w) callerA (.call (.ref fa) ⟨[.ref a], []⟩) (fun r s' => r = .ok (.ret (.bool true)) ∧ OldK s.heap s'.heap ∧ s'.os = s.os ∧ AllBare s'.gens) s := by
  have keep : ∀ {b : Addr} {o : Obj}, s.heap.get? b = some o → (b = a → ¬ ∃ u, H b = some u) → (∀ p ∈ g.tb, p.2 ≠ b) → (hidT s.heap H).get? b = some o := fun {b o} e n m => hidT_get e (by
    cases q : H b with
    | none => rfl
    | some u =>
      rcases only b u q with z | ⟨p, hp, z⟩
      · exact absurd ⟨u, q⟩ (n z.1)
      · exact absurd z (m p hp))
  -- what is neither a list nor an empty record is not hidden
  have keep2 : ∀ {b : Addr} {o : Obj}, s.heap.get? b = some o → (∀ us n, o.data ≠ .seq us n) → o.data ≠ .fields #[] → (hidT s.heap H).get? b = some o := fun {b o} e n1 n2 => keep e (fun z => by
    subst z
    rw [ha] at e
    cases e
    exact absurd rfl (n1 _ _)) fun p hp z => by
      have e2 := T0.obj p hp
      rw [z, e] at e2
      cases e2
      exact n2 rfl
  have names : ∀ {b : Addr} {m : Str → Option Value}, s.heap.Ns b m → (hidT s.heap H).Ns b m := fun {b m} ⟨o, es, ep, e, d, r⟩ => ⟨o, es, ep, keep2 e (fun us n z => by rw [d] at z; cases z) (fun z => by rw [d] at z; cases z), d, r⟩
  have inK : K.In (hidT s.heap H) := fun b o e => keep (KX b o e) (fun z ⟨u, q⟩ => by
    subst z
    rcases only b u q with y | ⟨p, hp, y⟩
    · rw [y.2.1] at e
      cases e
    · have e2 := T0.out p hp
      rw [y, e] at e2
      cases e2) fun p hp z => by
      have e2 := T0.out p hp
      rw [z, e] at e2
      cases e2
  have md : Mod K mg (hidT s.heap H) := ⟨inK, names hns, ⟨mb, names hb, hbb⟩, let ⟨mc, h1, h2⟩ := hlim; ⟨mc, names h1, h2⟩⟩
  have nofr : ∀ b ∈ frs [], H b = none := fun b hb => by
    have hb : b ∈ ([] : List Addr) := hb
    cases hb
  have tabs : ∀ p ∈ g.tb, GxR.TabB (hidT s.heap H) mg p.1 p.2 := fun p hp => by
    have hob := T0.obj p hp
    have mgl : mainGlobals ≠ p.2 := fun z => by
      obtain ⟨o, es, ep, e, d, _⟩ := hns
      rw [z, hob] at e
      cases e
      cases d
    refine ⟨?_, ?_, mgl⟩
    · obtain ⟨o, us, x1, x2, x3, x4, x5, x6, x7, e1, y1, y2, y3, yy⟩ := T0.hd p hp
      exact ⟨o, us, x1, x2, x3, x4, x5, x6, x7, keep2 e1 (fun us n z => by rw [y2] at z; cases z) (fun z => by
        rw [y2] at z
        cases z
        simp at y3), y1, y2, y3, yy⟩
    · obtain ⟨bm, ob, z1, z2, z3, z4, z5, z6⟩ := mn
      refine ⟨bm, ob, z1, z2, fun q => ?_, fun q => ?_, keep2 z3 (fun us n z => by rw [z6] at z; cases z) (fun z => by rw [z6] at z; cases z), z4, z5, z6⟩
      · obtain ⟨o, es, ep, e, d, _⟩ := hns
        rw [← q, z3] at e
        cases e
        rw [z6] at d
        cases d
      · rw [q, hob] at z3
        cases z3
        cases z6
  have e0 : Env0 P w K mg (hidT s.heap H) callerA [] s H := ⟨rfl, md, fun b o e => of_hidT e, Nat.le_of_eq (hidT_size _ _), trivial, nofr, ok, .of_eq hg⟩
  refine codeAny_mono ((fn _ inK (names hns) tabs).go callerA [] s H ⟨[.ref a], []⟩ [.ref a] [.ref a] _ _ hr rfl e0 (bind s (.ref a)) (.cons rfl .nil) (good_sp gd (by rw [hK]; exact fz) isT)) fun r s' h => ?_
  cases r with
  | error e =>
    obtain ⟨_, _, _, _, _, _, _, _, _, _, _, _, z⟩ := h
    exact z.elim
  | ok f =>
    cases f with
    | next => exact h.elim
    | brk => exact h.elim
    | cont => exact h.elim
    | ret u =>
      obtain ⟨v, H', os, bare, un, ok', rv, q⟩ := h
      subst q
      obtain rfl : u = Value.bool true := rv
      have stays : ∀ b o, (∀ p ∈ g.tb, p.2 ≠ b) → s.heap.get? b = some o → s'.heap.get? b = some o := fun b o nb e => by
        cases q : H b with
        | none => exact un.keep b o e q (by intro z; have z : b ∈ ([] : List Addr) := z; cases z) (by intro z; cases z)
        | some u =>
          rcases only b u q with ⟨_, _, ob, rfl⟩ | ⟨p, hp, z⟩
          · obtain ⟨e1, _⟩ := ok b _ q
            obtain ⟨e2, _⟩ := ok' b _ (un.frzs b ob _ q)
            rw [e] at e1
            cases e1
            exact e2
          · exact absurd z (nb p hp)
      have grows : ∀ p ∈ g.tb, ∃ more : Array Value, s'.heap.get? p.2 = some { cls := .none, data := .fields more } := fun p hp => by
        obtain ⟨more, z⟩ := un.tbls p.2 #[] (isT p hp)
        exact ⟨_, ok' p.2 _ z⟩
      refine ⟨rfl, ⟨fun b o e => ?_, fun b o e => ?_⟩, os, bare⟩
      all_goals
        by_cases hb : ∃ p ∈ g.tb, p.2 = b
        · obtain ⟨p, hp, rfl⟩ := hb
          obtain ⟨more, hm⟩ := grows p hp
          first
            | exact ⟨_, hm⟩
            | (have e2 := T0.obj p hp
               rw [e2] at e
               cases e
               exact .inr (.inl ⟨((T0.hd p hp).tab e2).isCodeTable, rfl, #[], more, rfl, by rw [Array.empty_append]; exact hm⟩))
        · have nb : ∀ p ∈ g.tb, p.2 ≠ b := fun p hp z => hb ⟨p, hp, z⟩
          first
            | exact .inl (stays b o nb e)
            | exact ⟨o, stays b o nb e⟩
theorem law_endT {l : PySem.W.OpenLaw} {n k : Nat} {q : Program} {loose : List Str} {XP : (Str → Option Value) → Heap → Prop} {YP : World → Heap → Prop} {d : DefRec} {K : Params → PySem.W.Frag} {F : List W → Sto → Re W} {x : Str}
    (hn : l.most = some n) (hn2 : n ≤ sizeLine) (hdf : d.params.defaults = []) (hr : Room k callerA) (hY : ∀ (w : World) (h : Heap), YP w h → (K w.params).In h)
    (fn : ∀ (w : World) (mg : Str → Option Value) (fa : Addr) (h : Heap), YP w h → (K w.params).In h → h.Ns mainGlobals mg → mg d.name = some (.ref fa) →
      ∃ (fd : FuncData) (g : G), g.K = K w.params ∧ Tabs0 (K w.params) h g.tb ∧ (∀ (s : Shared) (u : Value), BindsTo s fd ⟨[u], []⟩ [(x, u)]) ∧ ∀ base : Heap, (K w.params).In base → base.Ns mainGlobals mg → (∀ p ∈ g.tb, GxR.TabB base mg p.1 p.2) → FnG l.prog w (K w.params) mg base k fa fd [x] (spF g F))
    (law : ∀ ns : List Int, ns.length ≤ n → (∀ z ∈ ns, Builtin.Int.intBits z ≤ 1048576) → Good F ns) : PySem.W.WalkO q loose XP YP l.row.toRowW d [] (fun f vs => PySem.call f vs) := by
  refine Att.attach_callB hn hdf fun w s₀ s mg mb fa o pm cd doc a vs ns G Y ho hd hcd hmg hobj hints hlen hbits hg => ?_
  have KX := hY w _ Y
  obtain ⟨fd, g, hK, T0, hb, hF⟩ := fn w mg fa _ Y KX G.T.g hmg
  have gd := law ns hlen hbits
  have rv := vals_ints hints
  have hl : ns.length ≤ sizeLine := Nat.le_trans hlen hn2
  have nota : ∀ p ∈ g.tb, p.2 ≠ a := fun p hp z => by
    have e := T0.obj p hp
    rw [z, hobj] at e
    cases e
  cases hk : (K w.params).lookup a with
  | some o =>
    have e := KX a o hk
    rw [hobj] at e
    cases e
    refine law_core (H := fun b => if ∃ p ∈ g.tb, p.2 = b then some (.tbl #[]) else none) hK KX G.T.g G.T.b G.T.builtins G.T.nolimit hg T0 G.T.bmain hobj hr hF hb gd (.inr (.inr ⟨_, vs.toArray, _, hk, rfl, rfl, rfl, by rw [List.size_toArray, hints.length]; exact hl, by simpa using rv⟩)) (fun b u z => ?_) (fun p hp => if_pos ⟨p, hp, rfl⟩) fun b u z => ?_
    all_goals
      by_cases hb : ∃ p ∈ g.tb, p.2 = b
      · first
          | exact .inr hb
          | (obtain ⟨p, hp, rfl⟩ := hb
             have z' := (if_pos ⟨p, hp, rfl⟩).symm.trans z
             cases z'
             exact T0.obj p hp)
      · exact nomatch (if_neg hb).symm.trans z
  | none =>
    refine law_core (H := fun b => if b = a then some (.frz { cls := .type "list", data := .seq vs.toArray } (.lst (ns.map V.int))) else if ∃ p ∈ g.tb, p.2 = b then some (.tbl #[]) else none) hK KX G.T.g G.T.b G.T.builtins G.T.nolimit hg T0 G.T.bmain hobj hr hF hb gd (.inl ⟨_, if_pos rfl⟩) (fun b u z => ?_)
      (fun p hp => (if_neg (nota p hp)).trans (if_pos ⟨p, hp, rfl⟩)) fun b u z => ?_
    all_goals
      by_cases hba : b = a
      · subst hba
        have z' := (if_pos rfl).symm.trans z
        cases z'
        first
          | exact ⟨hobj, by rw [List.length_map]; exact hl, vs, _, rv, hobj⟩
          | exact .inl ⟨rfl, hk, _, rfl⟩
      · have z1 := (if_neg hba).symm.trans z
        by_cases hb : ∃ p ∈ g.tb, p.2 = b
        · first
            | exact .inr hb
            | (obtain ⟨p, hp, rfl⟩ := hb
               have z' := (if_pos ⟨p, hp, rfl⟩).symm.trans z1
               cases z'
               exact T0.obj p hp)
        · exact nomatch (if_neg hb).symm.trans z1
end
end Xs

/-! XsP: isinstance over data. -/
namespace Xs
noncomputable section
open PySem PySem.Spec PyProof.Rows L2
@[simp] def tys : List String := ["NoneType", "bool", "int", "str", "tuple", "list", "dict"]
@[simp] def tns : List String := ["int", "bool", "str", "tuple", "list", "dict"]
@[simp] def isA (t n : String) : Bool := (t == n) || ((t == "bool") && (n == "int"))
theorem isA_kit : ∀ t ∈ tys, ∀ n ∈ tns, kitB t n = some (isA t n) := by decide +kernel
@[simp] def tyName (h : Sto) : W → Option String
  | .d .non => some "NoneType"
  | .d (.bl _) => some "bool"
  | .d (.int _) => some "int"
  | .d (.str _) => some "str"
  | .d (.tup _) => some "tuple"
  | .d (.lst _) => some "list"
  | .s _ => some "list"
  | .f _ => some "dict"
  | .t _ => some "str"
  | .l k => match h.o[k]? with
    | some (.lst _) => some "list"
    | some (.dct _) => some "dict"
    | _ => none
  | _ => none
@[simp] def fIsi (w y : W) (h : Sto) : Re W := match tyName h w, y with
  | some t, .ty n => if tns.contains n = true then .ok (.d (.bl (isA t n))) h else .stuck
  | _, _ => .stuck
section
variable {X : Cx} {g : G} {Z : WX} {a b c : Expr} {xa xb xc : XE} {pos p apos : Pos} {H : Hp} {M : Mu} {fl : List Nat} {h : Sto} {v u : V} {w y : W} {σ : L2.St} {Q : VK}
theorem tyName_ok {t : String} (rh : RH g H M fl h) (r : RW g H M v w) (e : tyName h w = some t) : t ∈ tys ∧ TyX g.K H v (.type t) := by
  cases r with
  | d r =>
    cases r with
    | non => cases e; exact ⟨by simp, .base .non⟩
    | bl b => cases e; exact ⟨by simp, .base (.bl b)⟩
    | int b => cases e; exact ⟨by simp, .base (.int b)⟩
    | str b _ => cases e; exact ⟨by simp, .base (.str b)⟩
    | tup h1 h2 =>
      cases e
      refine ⟨by simp, ?_⟩
      rcases h1 with (h1 | ⟨o, h1⟩) | ⟨o, its, n, h1, h3, _⟩
      · exact .base (.tup h1)
      · exact .fTuple h1
      · exact .kTuple h1 h3
    | lst h1 h2 => cases e; exact ⟨by simp, .base (.lst h1.1)⟩
  | l q =>
    simp only [tyName] at e
    split at e
    · rename_i ws ew
      cases e
      obtain ⟨vs, hv, _⟩ := rh.lst q ew
      exact ⟨by simp, .base (.lst hv)⟩
    · rename_i ws ew
      cases e
      obtain ⟨vs, hv, _⟩ := rh.dct q ew
      exact ⟨by simp, .base (.dK hv)⟩
    · cases e
  | s q1 q2 =>
    cases e
    refine ⟨by simp, ?_⟩
    rcases q1 with ⟨o, q1⟩ | (q1 | ⟨_, q1⟩) | ⟨o, its, n, q1, q3, _⟩
    · exact .base (.frz q1)
    · exact nomatch q1
    · exact nomatch q1
    · exact .kList q1 q3
  | f q1 q2 => cases e; exact ⟨by simp, .base (.dK q1.1)⟩
  | t => cases e; exact ⟨by simp, .base (.str _)⟩
  | ty => cases e
  | fn _ => cases e
  | x _ _ _ _ _ => cases e
  | x0 _ _ => cases e
theorem c_isi (hK : X.K = g.K := by rfl) : Fn1 X g Z (.builtin "isinstance") (f2 fIsi) := Fn1.two call_isi fun {σ H M fl h v u w y Q} rh rw1 ry p => by
  simp only [fIsi] at p
  cases e : tyName h w with
  | none => rw [e] at p; exact p.elim
  | some t =>
    rw [e] at p
    cases ry with
    | @ty n =>
      simp only at p
      obtain ⟨q, p⟩ := po_if p
      obtain ⟨h1, h2⟩ := tyName_ok rh rw1 e
      exact ⟨v, .ty n, .type t, .type n, _, rfl, .ty n, by rw [hK]; exact h2, kit_ty (isA_kit t h1 n (by simpa using q)), po_bl rh p⟩
    | _ => exact p.elim
/-- the name of a built-in type -/
@[simp] def xTy (n : String) : XE := fun _ h => .ok (.ty n) h
theorem se_ty {x : Str} {T : String} (hm : X.mg x = none) (hv : bootBuiltins x = some (.type T)) (hg : Gl X x := by rfl) (hn : x ≠ "__name__" := by decide) (hd : (x == ("__debug__" : Str)) = false := by decide) : PE X (.Name x pos) (rdE g Z (xTy T)) :=
  PE.imp (pe_bltn (v := .ty T) hg hm hv rfl hn hd) fun σ H Q ⟨r, h, M, fl, rs, rh, p⟩ => p _ H M (Ext.refl H M) rh .ty
end
theorem _root_.L2.Room.u {k n : Nat} {A : Around} (r : Room k A) (h : n ≤ 200) : A.units + n < cLine := by have := r.un; omega
end
end Xs

/-! XsQ: plain laws of the computations. -/
namespace Xs
noncomputable section
open PySem PySem.Spec PyProof.Rows L2
theorem le_lim {n : Nat} (h : n ≤ 16000000) : n ≤ lim := Nat.le_trans h (by rw [lim_eq]; decide)
theorem lt_lim {n : Nat} (h : n ≤ 16000000) : n < lim := Nat.lt_of_le_of_lt h (by rw [lim_eq]; decide)
@[simp] theorem lim0 : 0 < lim := lt_lim (by decide)
@[simp] theorem lim1 : 1 ≤ lim := le_lim (by decide)
@[simp] theorem lim2 : 2 ≤ lim := le_lim (by decide)
@[simp] theorem lim3 : 3 ≤ lim := le_lim (by decide)
@[simp] theorem lim4 : 4 ≤ lim := le_lim (by decide)
/-- ints as values -/
def wI (s : List Int) : List W := s.map fun z => .d (.int z)
@[simp] theorem wI_length (s : List Int) : (wI s).length = s.length := by simp [wI]
@[simp] theorem wI_get (s : List Int) (k : Nat) : (wI s)[k]? = s[k]?.map fun z => .d (.int z) := by simp [wI]
@[simp] theorem wI_set (s : List Int) (k : Nat) (z : Int) : (wI s).set k (.d (.int z)) = wI (s.set k z) := by simp [wI, List.map_set]
@[simp] theorem wI_app (s t : List Int) : wI s ++ wI t = wI (s ++ t) := by simp [wI]
@[simp] theorem wI_app1 (s : List Int) (z : Int) : wI s ++ [.d (.int z)] = wI (s ++ [z]) := by simp [wI]
@[simp] theorem wI_nil : ([] : List W) = wI [] ↔ True := by simp [wI]
@[simp] theorem wI_empty (s : List Int) : (wI s).isEmpty = s.isEmpty := by cases s <;> rfl
theorem wI_def (s : List Int) : wI s = (s.map D.int).map .d := by simp [wI]
@[simp] theorem pureL_wI (s : List Int) : pureL (wI s) = some (s.map .int) := by rw [wI_def, pureL_map]
@[simp] theorem map_d_wI (s : List Int) : List.map (W.d ∘ D.int) s = wI s := rfl
@[simp] theorem map_d_int (s : List Int) : List.map W.d (List.map D.int s) = wI s := by simp [wI]
theorem ixN_nat {n k : Nat} (h : k < n) : ixN n (k : Int) = some k := by
  unfold ixN
  rw [if_pos (Int.natCast_nonneg k), if_pos (by omega)]
  simp
theorem atI_nat {α : Type} {xs : List α} {k : Nat} (h : k < xs.length) : atI xs (k : Int) = some xs[k] := by
  unfold atI
  rw [ixN_nat h]
  simp [h]
theorem atI_last {α : Type} {xs : List α} (x : α) : atI (xs ++ [x]) (-1) = some x := by
  unfold atI ixN
  rw [if_neg (by decide), if_pos (by simp; omega)]
  have : ((-1 : Int) + ((xs ++ [x]).length : Nat)).toNat = xs.length := by simp; omega
  rw [this]
  simp
/-- the int at a place -/
def gi (s : List Int) (k : Nat) : Int := s.getD k 0
@[simp] theorem atI_wI {s : List Int} {k : Nat} (h : k < s.length) : atI (wI s) (k : Int) = some (.d (.int (gi s k))) := by
  rw [atI_nat (by simpa using h)]
  simp [wI, gi, List.getD, h]
@[simp] theorem atI_ints {s : List Int} {k : Nat} (h : k < s.length) : atI (s.map D.int) (k : Int) = some (.int (gi s k)) := by
  rw [atI_nat (by simpa using h)]
  simp [gi, List.getD, h]
@[simp] theorem atI_wI_last {s : List Int} {z : Int} : atI (wI (s ++ [z])) (-1) = some (.d (.int z)) := by
  rw [← wI_app1, atI_last]
@[simp] theorem wI_rep (n : Nat) (z : Int) : List.replicate n (W.d (.int z)) = wI (List.replicate n z) := by simp [wI]
theorem seq_nx {a b : XS} {r r1 : Env} {h h1 : Sto} (e : a r h = .nx r1 h1) : sSeq a b r h = b r1 h1 := by simp [e]
theorem fnI_go {na nl : Nat} {b : XS} {ws : List W} {h : Sto} {w : W} (hl : ws.length = na) (hd : ws.all W.isD = true) (e : closeI h (b (entry nl ws) ⟨[], true⟩) = .ok w h) : fnI na nl b ws h = .ok w h := by
  unfold fnI
  rw [if_pos (by simp [hl, hd])]
  exact e
/-- a loop over known items -/
theorem for_go {tg : XG} {body : XS} {ws : List W} (P : Nat → Env → Sto → Prop)
    (step : ∀ i w r h, ws[i]? = some w → P i r h → ∃ r1 r2 h2, tg w r = some r1 ∧ body r1 h = .nx r2 h2 ∧ P (i + 1) r2 h2) : ∀ (m i : Nat) (r : Env) (h : Sto), i + m = ws.length → P i r h →
    ∃ r' h', P ws.length r' h' ∧ ∀ n, m < n → forLoop (nL ws) tg body n i r h = .nx r' h' := by
  intro m
  induction m with
  | zero =>
    intro i r h hi p
    refine ⟨r, h, by rw [← hi]; exact p, fun n hn => ?_⟩
    cases n with
    | zero => omega
    | succ n =>
      have : ws[i]? = none := by simp; omega
      simp [forLoop, this]
  | succ m ih =>
    intro i r h hi p
    have hl : i < ws.length := by omega
    obtain ⟨r1, r2, h2, e1, e2, p2⟩ := step i ws[i] r h (by simp [hl]) p
    obtain ⟨r', h', p', k⟩ := ih (i + 1) r2 h2 (by omega) p2
    refine ⟨r', h', p', fun n hn => ?_⟩
    cases n with
    | zero => omega
    | succ n =>
      have : ws[i]? = some ws[i] := by simp [hl]
      simp only [forLoop, nL, this, e1, e2]
      exact k n (by omega)
theorem for_run {tg : XG} {body : XS} {ws : List W} {r : Env} {h : Sto} (P : Nat → Env → Sto → Prop) (h0 : P 0 r h)
    (step : ∀ i w r h, ws[i]? = some w → P i r h → ∃ r1 r2 h2, tg w r = some r1 ∧ body r1 h = .nx r2 h2 ∧ P (i + 1) r2 h2) :
    ∃ r' h', P ws.length r' h' ∧ forLoop (nL ws) tg body (ws.length + 1) 0 r h = .nx r' h' := by
  obtain ⟨r', h', p, k⟩ := for_go P step ws.length 0 r h (by omega) h0
  exact ⟨r', h', p, k _ (Nat.lt_succ_self _)⟩
@[simp] theorem upInts_length (lo : Int) (n : Nat) : (upInts lo n).length = n := by simp [upInts]
@[simp] theorem intsDown_length (lo : Int) (n : Nat) : (intsDown lo n).length = n := by simp [intsDown]
theorem upInts_get {lo : Int} {n i : Nat} {w : W} (h : (upInts lo n)[i]? = some w) : i < n ∧ w = .d (.int (lo + i)) := by
  simp only [upInts, List.getElem?_map, Option.map_eq_some_iff] at h
  obtain ⟨a, h1, rfl⟩ := h
  have := List.getElem?_eq_some_iff.mp h1
  simp at this
  obtain ⟨h2, h3⟩ := this
  exact ⟨h2, by rw [h3]⟩
theorem intsDown_get {hi : Int} {n i : Nat} {w : W} (h : (intsDown hi n)[i]? = some w) : i < n ∧ w = .d (.int (hi - 1 - i)) := by
  simp only [intsDown, List.getElem?_map, Option.map_eq_some_iff] at h
  obtain ⟨a, h1, rfl⟩ := h
  have := List.getElem?_eq_some_iff.mp h1
  simp at this
  obtain ⟨h2, h3⟩ := this
  exact ⟨h2, by rw [h3]⟩
/-- range's loops -/
theorem sFor_up1 {a : XA} {tg : XG} {b : XS} {r : Env} {h h1 : Sto} {n : Nat} (e : a r h = .ok [.d (.int (n : Nat))] h1) (hs : n < 2 ^ 62) : sFor (iRange1 a) tg b r h = forLoop (nL (upInts 0 n)) tg b (n + 1) 0 r h1 := by
  have hsm : small ((n : Nat) : Int) = true := small_iff.mpr ⟨by omega, by omega⟩
  simp [sFor, e, hsm]
theorem sFor_up2 {a : XA} {tg : XG} {b : XS} {r : Env} {h h1 : Sto} {i j : Int} (e : a r h = .ok [.d (.int i), .d (.int j)] h1) (hi : small i = true) (hj : small j = true) : sFor (iRange2 a) tg b r h = forLoop (nL (upInts i (j - i).toNat)) tg b ((j - i).toNat + 1) 0 r h1 := by
  simp [sFor, e, hi, hj]
theorem sFor_down {a : XE} {tg : XG} {b : XS} {r : Env} {h h1 : Sto} {n : Nat} (e : a r h = .ok (.d (.int (n : Nat))) h1) (hs : n < 2 ^ 62) : sFor (iRevRange1 a) tg b r h = forLoop (nL (intsDown n n)) tg b (n + 1) 0 r h1 := by
  have hsm : small ((n : Nat) : Int) = true := small_iff.mpr ⟨by omega, by omega⟩
  simp [sFor, e, hsm]
theorem small_nat {n : Nat} (h : n < 2 ^ 62) : small (n : Int) = true := small_iff.mpr ⟨by omega, by omega⟩
/-- f at 0, at 1, .. -/
def itr {α : Type} (f : Nat → α → α) : Nat → α → α
  | 0, a => a
  | i + 1, a => f i (itr f i a)
theorem itr_inv {α : Type} {f : Nat → α → α} (P : α → Prop) {n : Nat} {a : α} (h : P a) (k : ∀ i a, i < n → P a → P (f i a)) : P (itr f n a) := by
  induction n with
  | zero => exact h
  | succ n ih => exact k n _ (Nat.lt_succ_self n) (ih fun i a hi => k i a (by omega))
/-- a comprehension over known items, with nothing stored -/
theorem lc_go {tg : XG} {c : XT} {e : XE} {ws : List W} {r : Env} {h : Sto} (P : Nat → List W → Prop)
    (step : ∀ i w acc, ws[i]? = some w → P i acc → ∃ r1, tg w r = some r1 ∧ ((c r1 h = .ok false h ∧ P (i + 1) acc) ∨ (c r1 h = .ok true h ∧ acc.length < lim ∧ ∃ x, e r1 h = .ok x h ∧ P (i + 1) (acc ++ [x])))) : ∀ (m i : Nat) (acc : List W), i + m = ws.length → P i acc →
    ∃ acc', P ws.length acc' ∧ ∀ n, m < n → lcLoop (nL ws) tg c e n i acc r h = .ok acc' h := by
  intro m
  induction m with
  | zero =>
    intro i acc hi p
    refine ⟨acc, by rw [← hi]; exact p, fun n hn => ?_⟩
    cases n with
    | zero => omega
    | succ n =>
      have : ws[i]? = none := by simp; omega
      simp [lcLoop, this]
  | succ m ih =>
    intro i acc hi p
    have hl : i < ws.length := by omega
    have hw : ws[i]? = some ws[i] := by simp [hl]
    obtain ⟨r1, e1, ⟨e2, p2⟩ | ⟨e2, hlim, x, e3, p2⟩⟩ := step i ws[i] acc hw p
    · obtain ⟨acc', p', k⟩ := ih (i + 1) acc (by omega) p2
      refine ⟨acc', p', fun n hn => ?_⟩
      cases n with
      | zero => omega
      | succ n =>
        simp only [lcLoop, nL, hw, e1, e2, Re.noex, Re.bind]
        exact k n (by omega)
    · obtain ⟨acc', p', k⟩ := ih (i + 1) (acc ++ [x]) (by omega) p2
      refine ⟨acc', p', fun n hn => ?_⟩
      cases n with
      | zero => omega
      | succ n =>
        simp only [lcLoop, nL, hw, e1, e2, e3, Re.noex, Re.bind, if_true, if_pos hlim]
        exact k n (by omega)
theorem lc_run {tg : XG} {c : XT} {e : XE} {ws : List W} {r : Env} {h : Sto} (P : Nat → List W → Prop) (h0 : P 0 [])
    (step : ∀ i w acc, ws[i]? = some w → P i acc → ∃ r1, tg w r = some r1 ∧ ((c r1 h = .ok false h ∧ P (i + 1) acc) ∨ (c r1 h = .ok true h ∧ acc.length < lim ∧ ∃ x, e r1 h = .ok x h ∧ P (i + 1) (acc ++ [x])))) :
    ∃ acc', P ws.length acc' ∧ lcLoop (nL ws) tg c e (ws.length + 1) 0 [] r h = .ok acc' h := by
  obtain ⟨acc', p, k⟩ := lc_go P step ws.length 0 [] (by omega) h0
  exact ⟨acc', p, k _ (Nat.lt_succ_self _)⟩
theorem cut_take {α : Type} {xs : List α} {k : Nat} : cut xs none (some (k : Int)) = xs.take k := by
  unfold cut
  rw [HT.sIx_nat, HT.sIx_none]
  by_cases h : k ≤ xs.length
  · simp [Nat.min_eq_left h]
  · rw [Nat.min_eq_right (by omega)]
    simp [List.take_of_length_le (show xs.length ≤ k by omega)]
theorem cut_drop {α : Type} {xs : List α} {k : Nat} : cut xs (some (k : Int)) none = xs.drop k := by
  unfold cut
  rw [HT.sIx_nat, HT.sIx_none]
  by_cases h : k ≤ xs.length
  · rw [Nat.min_eq_left h, List.take_of_length_le (by simp)]
  · rw [Nat.min_eq_right (by omega), List.drop_of_length_le (show xs.length ≤ k by omega)]
    simp
end
end Xs

/-! XsR: dict comprehensions; tuples backwards. -/
namespace Xs
noncomputable section
open PySem PySem.Spec PyProof.Rows L2
def dcLoop (nxt : Nxt) (tg : XG) (c : XT) (ke ve : XE) : Nat → Nat → List (Key × W) → Env → Sto → Re (List (Key × W))
  | 0, _, _, _, _ => .stuck
  | n + 1, i, acc, r, h => match nxt i h with
    | none => .stuck
    | some none => .ok acc h
    | some (some w) => match tg w r with
      | none => .stuck
      | some r1 => (c r1 h).noex.bind fun t h1 => if t = true then
          (ke r1 h1).noex.bind fun y h2 => match y.key? with
            | none => .stuck
            | some k => (ve r1 h2).noex.bind fun x h3 => if acc.length < lim then dcLoop nxt tg c ke ve n (i + 1) (Xs.put acc k x) r h3 else .stuck
        else dcLoop nxt tg c ke ve n (i + 1) acc r h1
def xDcs (src : XI) (tg : XG) (c : XT) (ke ve : XE) (own : List Nat) (r : Env) (h : Sto) : Re (List (Key × W)) := (src r h).bind fun p h1 => dcLoop p.2 tg c ke ve p.1 0 [] (wipeR r own) h1
/-- a dict that stays -/
def xDc (src : XI) (tg : XG) (c : XT) (ke ve : XE) (own : List Nat) : XE := fun r h => (xDcs src tg c ke ve own r h).bind fun ws h1 => match pureK ws with
  | some ds => .ok (.f ds) h1
  | none => .stuck
section
variable {X : Cx} {g : G} {Z : WX} {pos : Pos} {H H' : Hp} {M M' : Mu} {fl : List Nat} {h : Sto} {v u : V} {w y : W} {σ : L2.St} {Q : VK} {r : Env}
theorem RWk.length {κ : Type} {vs : List (κ × V)} {ws : List (κ × W)} (q : RWk g H M vs ws) : vs.length = ws.length := by
  induction q with
  | nil => rfl
  | cons _ _ ih => simp [ih]
structure WkD (H : Hp) (M : Mu) (p : Addr) (vs : List (Key × V)) : Prop where
  at_ : H p = some (.dK vs)
  b : M.B p
  m : p ∉ M.m
theorem WkD.exw {p : Addr} {vs ys : List (Key × V)} (k : WkD H M p vs) : Exw H M (upd H p (.dK ys)) M := by
  have e0 := k.at_
  refine ⟨fun _ _ e => e, fun a o e n => ⟨?_, n⟩, fun a xs e => ?_, fun a o u e => ?_⟩
  · refine .of ?_
    rw [upd_ne (fun z => n (by rw [z]; exact k.b))]; exact e
  · rw [upd_ne (fun z => by rw [z, e0] at e; cases e)]; exact e
  · rw [upd_ne (fun z => by rw [z, e0] at e; cases e)]; exact e
theorem RH.wkD {p : Addr} {vs ys : List (Key × V)} (q : RH g H M fl h) (k : WkD H M p vs) : RH g (upd H p (.dK ys)) M fl h :=
  ⟨q.nd, q.sub, q.len, fun n a o e1 e2 => by
    obtain ⟨u, h1, h2⟩ := q.ev n a o e1 e2
    exact ⟨u, by rw [upd_ne (fun z => k.m (by rw [← z]; exact List.mem_of_getElem? e1))]; exact h1, h2.mw k.exw⟩, q.cl, q.fle, fun t ht => by
    obtain ⟨ps, e, z⟩ := q.tb t ht
    exact ⟨ps, by rw [upd_ne (fun y => by rw [y, k.at_] at e; cases e)]; exact e, z⟩⟩
theorem Ext.wkD {H1 : Hp} {M1 : Mu} {p : Addr} {ys : List (Key × V)} (x : Ext H1 M1 H M) (hp : H1 p = none) : Ext H1 M1 (upd H p (.dK ys)) M := by
  have ne : ∀ a o, H1 a = some o → a ≠ p := fun a o e => ne_of_none e hp
  exact ⟨x.pre, fun a o e n => ⟨by rw [upd_ne (ne a o e)]; exact (x.old a o e n).1, (x.old a o e n).2⟩, x.bb, fun a xs e => by rw [upd_ne (ne a _ e)]; exact x.tup a xs e, fun a o u e => by rw [upd_ne (ne a _ e)]; exact x.frz a o u e,
    fun a o e => let ⟨o', e'⟩ := x.dom a o e; ⟨o', by rw [upd_ne (ne a o e)]; exact e'⟩⟩
theorem WkD.ext {p : Addr} {vs : List (Key × V)} (k : WkD H M p vs) (x : Ext H M H' M') : WkD H' M' p vs := let ⟨e, n⟩ := x.old p _ k.at_ k.m; ⟨e, (x.bb p _ k.at_).mp k.b, n⟩
/-- the end: it stays from now on -/
theorem WkD.fz {H1 : Hp} {M1 : Mu} {p : Addr} {vs : List (Key × V)} (k : WkD H M p vs) (x : Ext H1 M1 H M) (hp : H1 p = none) (q : RH g H M fl h) : Ext H1 M1 H (M.fz p) ∧ RH g H (M.fz p) fl h ∧ Exw H M H (M.fz p) := by
  have e : Exw H M H (M.fz p) := ⟨fun _ _ e => e, fun a o e n => ⟨.of e, fun z => n z.1⟩, fun _ _ e => e, fun _ _ _ e => e⟩
  refine ⟨⟨x.pre, x.old, fun a o e => (x.bb a o e).trans ⟨fun z => ⟨z, ne_of_none e hp⟩, fun z => z.1⟩, x.tup, x.frz, x.dom⟩, ⟨q.nd, fun a ha => ⟨q.sub a ha, fun z => k.m (by rw [← z]; exact ha)⟩, q.len, fun n a o e1 e2 => ?_, q.cl, q.fle, q.tb⟩, e⟩
  obtain ⟨u, h1, h2⟩ := q.ev n a o e1 e2
  exact ⟨u, h1, h2.mw e⟩
theorem start_wkD {H1 : Hp} {M1 : Mu} {D : Addr} (rh1 : RH g H1 M1 fl h) (hD : H1 D = none) : Ext H1 M1 (upd H1 D (.dK [])) ⟨fun a => M1.B a ∨ a = D, M1.m⟩ ∧ RH g (upd H1 D (.dK [])) ⟨fun a => M1.B a ∨ a = D, M1.m⟩ fl h ∧ WkD (upd H1 D (.dK [])) ⟨fun a => M1.B a ∨ a = D, M1.m⟩ D [] := by
  have ne : ∀ a o, H1 a = some o → a ≠ D := fun a o e => ne_of_none e hD
  have x : Ext H1 M1 (upd H1 D (.dK [])) ⟨fun a => M1.B a ∨ a = D, M1.m⟩ := ⟨fun _ _ e => e, fun a o e n => ⟨.of (by rw [upd_ne (ne a o e)]; exact e), n⟩, fun a o e => ⟨.inl, fun z => z.elim id fun z => absurd z (ne a o e)⟩,
    fun a xs e => by rw [upd_ne (ne a _ e)]; exact e, fun a o u e => by rw [upd_ne (ne a _ e)]; exact e, fun a o e => ⟨o, by rw [upd_ne (ne a o e)]; exact e⟩⟩
  refine ⟨x, rh1.ext x rfl (fun a ha => .inl (rh1.sub a ha)) fun a ha => ?_, upd_same, .inr rfl, fun ha => ?_⟩
  · obtain ⟨o, u, e, _⟩ := rh1.mem ha
    rw [upd_ne (ne a u e)]
  · obtain ⟨o, u, e, _⟩ := rh1.mem ha
    exact ne D u e rfl
/-- the turns, walked: E what is wanted of the list at the end -/
theorem dc_walk {nxt : Nxt} {J : It} {xg : XG} {xc : XT} {xk xe : XE} {own : List Nat} {H1 : Hp} {M1 : Mu} {h1 : Sto} {m0 : Nat} {E : Re (List (Key × W)) → Prop} {Z0 : WX} (rs : RS g H1 M1 σ r) (rh1 : RH g H1 M1 fl h1) (ok : ItOk g J nxt H1 M1)
    (p : E (dcLoop nxt xg xc xk xe m0 0 [] (wipeR r own) h1)) (st : ¬ E .stuck)
    (fin : ∀ ws h2 D H2 M2 (vs : List (Key × V)), H1 D = none → Ext H1 M1 H2 M2 → RH g H2 M2 fl h2 → WkD H2 M2 D vs → RWk g H2 M2 vs ws → E (.ok ws h2) → Q (.ref D) H2) (D : Addr) (hD : H1 D = none) :
    ∃ W : Nat → Nat → Hp → Prop, (∃ m, W 0 m (upd H1 D (.dK []))) ∧ ∀ i m H, W i m H →
      (J.stop i H ∧ Q (.ref D) H) ∨ (J.go i H ∧ ∃ Nx : Hp → Prop, (∀ H', Nx H' → ∃ m', m' < m ∧ W (i + 1) m' H') ∧ ∀ x H', J.yld i H x H' → rdG g own xg x (L2.wipe σ own) H' fun σ2 H2 => L2.wipe σ2 own = L2.wipe σ own ∧ rdT g Z0 xc σ2 H2 fun b H3 =>
        if b = true then rdE g Z0 xk σ2 H3 fun y H4 => rdE g Z0 xe σ2 H4 fun z H5 => ∃ kvs k, y = kV k ∧ H5 D = some (.dK kvs) ∧ kvs.length < sizeLine ∧ Nx (upd H5 D (.dK (putK kvs k z))) else Nx H3) := by
  obtain ⟨x0, rh0, k0⟩ := start_wkD rh1 hD
  refine ⟨fun i m H' => ∃ h' M' acc vs, Ext H1 M1 H' M' ∧ RH g H' M' fl h' ∧ WkD H' M' D vs ∧ RWk g H' M' vs acc ∧ E (dcLoop nxt xg xc xk xe m i acc (wipeR r own) h'), ⟨m0, h1, _, [], [], x0, rh0, k0, .nil, p⟩, ?_⟩
  rintro i m H' ⟨h', M', acc, vs, x', rh', k', rv', p'⟩
  obtain ⟨s1, s2⟩ := ok fl i H' M' h' x' rh'
  have rs' : RS g H' M' (L2.wipe σ own) (wipeR r own) := (rs.mono x' rh1.sub).wipe own
  cases m with
  | zero => exact (st p').elim
  | succ m =>
    simp only [dcLoop] at p'
    cases e : nxt i h' with
    | none => rw [e] at p'; exact (st p').elim
    | some o =>
      rw [e] at p'
      cases o with
      | none => exact .inl ⟨s1 e, fin acc h' D H' M' vs hD x' rh' k' rv' p'⟩
      | some w =>
        obtain ⟨go, s3⟩ := s2 w e
        simp only at p'
        cases e2 : xg w (wipeR r own) with
        | none => rw [e2] at p'; exact (st p').elim
        | some r1 =>
          rw [e2] at p'
          simp only at p'
          refine .inr ⟨go, fun H2 => ∃ h2 M2 acc2 vs2, Ext H1 M1 H2 M2 ∧ RH g H2 M2 fl h2 ∧ WkD H2 M2 D vs2 ∧ RWk g H2 M2 vs2 acc2 ∧ E (dcLoop nxt xg xc xk xe m (i + 1) acc2 (wipeR r own) h2), fun H2 z => ⟨m, Nat.lt_succ_self m, z⟩, fun y H2 yd => ?_⟩
          obtain ⟨M2, x2, rh2, rw2⟩ := s3 y H2 yd
          refine ⟨wipeR r own, h', M2, fl, w, rs'.mono x2 rh'.sub, rh2, rw2, r1, e2, fun σ3 rs3 hw => ⟨hw.trans (wipe_idem own), ?_⟩⟩
          refine ⟨r1, h', M2, fl, rs3, rh2, ?_⟩
          cases e3 : xc r1 h' with
          | exc _ _ => rw [e3] at p'; exact (st p').elim
          | stuck => rw [e3] at p'; exact (st p').elim
          | ok t h3 =>
            rw [e3] at p'
            intro b H3 M3 x3 rh3 rb
            have rb : b = t := rb
            subst rb
            cases b with
            | false => exact ⟨h3, M3, acc, vs, (x'.trans x2).trans x3, rh3, (k'.ext x2).ext x3, RWk.mono x3 rh2.sub (RWk.mono x2 rh'.sub rv'), p'⟩
            | true =>
              have p' : E ((xk r1 h3).noex.bind fun y h2 => match y.key? with | none => .stuck | some k => (xe r1 h2).noex.bind fun x h4 => if acc.length < lim then dcLoop nxt xg xc xk xe m (i + 1) (Xs.put acc k x) (wipeR r own) h4 else .stuck) := p'
              simp only [if_true]
              refine ⟨r1, h3, M3, fl, rs3.mono x3 rh2.sub, rh3, ?_⟩
              cases e4 : xk r1 h3 with
              | exc _ _ => rw [e4] at p'; exact (st p').elim
              | stuck => rw [e4] at p'; exact (st p').elim
              | ok y h4 =>
                rw [e4] at p'
                intro yv H4 M4 x4 rh4 ry
                have p' : E (match y.key? with | none => .stuck | some k => (xe r1 h4).noex.bind fun x h4 => if acc.length < lim then dcLoop nxt xg xc xk xe m (i + 1) (Xs.put acc k x) (wipeR r own) h4 else .stuck) := p'
                cases ek : y.key? with
                | none => rw [ek] at p'; exact (st p').elim
                | some k =>
                  rw [ek] at p'
                  have hy := W.key?_some ek ry
                  refine ⟨r1, h4, M4, fl, (rs3.mono x3 rh2.sub).mono x4 rh3.sub, rh4, ?_⟩
                  cases e5 : xe r1 h4 with
                  | exc _ _ => rw [e5] at p'; exact (st p').elim
                  | stuck => rw [e5] at p'; exact (st p').elim
                  | ok z h5 =>
                    rw [e5] at p'
                    intro zv H5 M5 x5 rh5 rz
                    have p' : E (if acc.length < lim then dcLoop nxt xg xc xk xe m (i + 1) (Xs.put acc k z) (wipeR r own) h5 else .stuck) := p'
                    have k5 := (((k'.ext x2).ext x3).ext x4).ext x5
                    have rv5 := RWk.mono x5 rh4.sub (RWk.mono x4 rh3.sub (RWk.mono x3 rh2.sub (RWk.mono x2 rh'.sub rv')))
                    by_cases hl : acc.length < lim
                    · rw [if_pos hl] at p'
                      have ew : Exw H5 M5 (upd H5 D (.dK (putK vs k zv))) M5 := k5.exw
                      refine ⟨vs, k, hy, k5.at_, by rw [RWk.length rv5, ← lim_line]; exact hl, h5, M5, Xs.put acc k z, putK vs k zv, ((((x'.trans x2).trans x3).trans x4).trans x5).wkD hD, rh5.wkD k5, ⟨upd_same, k5.b, k5.m⟩, RWk.mw ew (RWk.put rv5 k rz), p'⟩
                    · rw [if_neg hl] at p'
                      exact (st p').elim

theorem se_dc {kx vx tg iter : Expr} {ifs : List Expr} {scope : Scope} {own : List (Str × Nat)} {src : XI} {xg : XG} {xc : XT} {xk xe : XE} {Z0 : WX} (hc : X.calm = true) (hN : X.N.Nodup) (hi : PI X tg iter (rdI g Z src)) (ok : BlkOk X.N X.env.scope scope own)
    (hg : ∀ (s : Shared) (H : Hp) (C : Addr) (cl : List (Str × Addr)) (fp : List Addr), PG (X.blk s H scope (compEnvC scope cl C X.env) fp) tg (rdG g (own.map (·.2)) xg)) (ht : ∀ (s : Shared) (H : Hp) (C : Addr) (cl : List (Str × Addr)) (fp : List Addr), PTs (X.blk s H scope (compEnvC scope cl C X.env) fp) ifs (rdT g Z0 xc))
    (hk : ∀ (s : Shared) (H : Hp) (C : Addr) (cl : List (Str × Addr)) (fp : List Addr), PE (X.blk s H scope (compEnvC scope cl C X.env) fp) kx (rdE g Z0 xk))
    (he : ∀ (s : Shared) (H : Hp) (C : Addr) (cl : List (Str × Addr)) (fp : List Addr), PE (X.blk s H scope (compEnvC scope cl C X.env) fp) vx (rdE g Z0 xe)) (hs : ∀ x, foldedSetIterable iter X.env x = pure x := by intro _; rfl) :
    PE X (.DictComp kx vx [⟨tg, iter, ifs, 0⟩] scope pos) (rdE g Z (xDc src xg xc xk xe (own.map (·.2)))) :=
  PE.imp (pe_dc hc hN hi ok hg ht hk he hs) fun σ H Q ⟨r, h, M, fl, rs, rh, p⟩ => ⟨r, h, M, fl, rs, rh, Po.bind (Po.assoc p) fun a h1 J H1 M1 e1 rh1 ok1 p1 D hD =>
    dc_walk (E := fun x => Po g Z σ fl (RW g) H1 M1 Q (x.bind fun ws h1 => match pureK ws with | some ds => .ok (.f ds) h1 | none => .stuck)) (rs.mono e1 rh.sub) rh1 ok1 p1 (fun z => z) (fun ws h2 D H2 M2 vs hD x2 rh2 k2 rv p2 => by
      have p2 : Po g Z σ fl (RW g) H1 M1 Q (match pureK ws with | some ds => .ok (.f ds) h2 | none => .stuck) := p2
      cases e : pureK ws with
      | none => rw [e] at p2; exact p2.elim
      | some ds =>
        rw [e] at p2
        obtain ⟨x3, rh3, ew⟩ := k2.fz x2 hD rh2
        rw [pureK_some e] at rv
        exact p2 _ _ _ x3 rh3 (.f ⟨k2.at_, fun z => z.2 rfl⟩ ((RWk.toD rv).mw ew.d))) D hD⟩
end
/-! ### t[::-1] -/
section
variable {prog : Program} {w : World} {A : Around} {E : Value → Shared → Prop} {s : Shared}
theorem sliceApplied_rev {sl : Addr} {vl vu vs : Value} {n : Nat} {Q : Int × Int × Nat → Shared → Prop} (hs : s.heap.IsSliceOf sl vl vu vs) (pl : IsPart vl none) (pu : IsPart vu none) (ps : IsPart vs (some (-1)))
    (h : Q ((n : Int) - 1, -1, n) s) : wpAny (model prog w) A (Builtin.Slice.sliceApplied (.ref sl) (pure (n : Int))) Q E s := by
  obtain ⟨os, hos, hcs, hds⟩ := id hs
  unfold Builtin.Slice.sliceApplied Builtin.Slice.sliceFields
  refine wpAny_bind (wpAny_bind (wpAny_field hos hds (x := vl) rfl (wpAny_bind (wpAny_field hos hds (x := vu) rfl (wpAny_bind (wpAny_field hos hds (x := vs) rfl (wpAny_pure ?_)))))))
  refine wpAny_bind (HT.slicePart_ ps ?_)
  show wpAny _ _ (if ((-1 : Int) == 0) = true then _ else _) _ _ s
  rw [if_neg (by decide)]
  refine wpAny_bind (HT.slicePart_ pl (wpAny_bind (HT.slicePart_ pu (wpAny_bind (wpAny_pure ?_)))))
  have e : Builtin.Slice.slicePlaces ((n : Int) - 1) (-1) (-1) = n := by
    unfold Builtin.Slice.slicePlaces
    have h1 : ¬ ((-1 : Int) > 0) := by omega
    rw [if_neg h1]
    split
    · rw [show (- -1 : Int) = 1 by decide, Int.ediv_one]
      omega
    · omega
  show wpAny _ _ (pure ((n : Int) - 1, (-1 : Int), Builtin.Slice.slicePlaces ((n : Int) - 1) (-1) (-1))) _ _ s
  rw [e]
  exact wpAny_pure h
theorem rev_pick (xs : Array Value) : ((List.range xs.size).filterMap fun (m : Nat) => xs[(((xs.size : Int) - 1) + (m : Int) * (-1)).toNat]?).toArray = xs.toList.reverse.toArray := by
  rw [← PySem.W.krv_all xs, ← List.filterMap_reverse, ← PySem.W.krv_range, List.filterMap_map]
  congr 1
  have key : ∀ l : List Nat, (∀ m ∈ l, m < xs.size) → l.filterMap (fun (m : Nat) => xs[(((xs.size : Int) - 1) + (m : Int) * (-1)).toNat]?) = l.filterMap ((fun x => xs[x]?) ∘ fun k => xs.size - 1 - k) := by
    intro l hl
    induction l with
    | nil => rfl
    | cons m l ih =>
      have h1 : (((xs.size : Int) - 1) + (m : Int) * (-1)).toNat = xs.size - 1 - m := by have := hl m (by simp); omega
      rw [List.filterMap_cons, List.filterMap_cons, ih fun k hk => hl k (by simp [hk])]
      simp only [h1, Function.comp]
  exact key _ fun m hm => List.mem_range.mp hm
theorem getItem_tuple_rev {t sl : Addr} {items : Array Value} {vl vu vs : Value} {Q : Value → Shared → Prop} (ht : IsTup s.heap t items) (hs : s.heap.IsSliceOf sl vl vu vs) (pl : IsPart vl none) (pu : IsPart vu none) (ps : IsPart vs (some (-1)))
    (h : Q (.ref s.heap.objs.size) { s with heap := s.heap.push { cls := .type "tuple", data := .seq items.toList.reverse.toArray } })
    (hsz : items.size ≤ sizeLine) : wpAny (model prog w) A (getItem (.ref t) (.ref sl)) Q E s := by
  have htake : sizeOk (.seq items.toList.reverse.toArray) := by
    show items.toList.reverse.toArray.size ≤ sizeLine
    rw [List.size_toArray, List.length_reverse, Array.length_toList]
    exact hsz
  obtain ⟨os, hos, hcs, hds⟩ := id hs
  have hTs : s.TypeIs (.ref sl) "slice" := ⟨os, hos, hcs⟩
  unfold getItem
  try with_reducible refine wpAny_holding ?_
  first | refine wpAny_bind (wpAny_pure ?_) | skip
  refine wpAny_bind (wpAny_sequenceKey ht.typeIs (by decide) ?_)
  refine wpAny_bind (wpAny_callSpecial?_slot (name := Str.ofString "__getitem__") ht.typeIs PyProof.Rows.slot_tuple_getitem
    (wpAny_call_entry PyProof.Rows.slot_tuple_getitem ht.typeIs PyProof.Rows.entry_tuple_getitem ?_ (PyProof.Rows.args_tuple_getitem _ _)))
  show wpAny _ _ (Builtin.Tuple.tupleItemsOf (.ref t) >>= _) _ _ s
  refine wpAny_bind (PyProof.Rows.tupleItemsOf_ ht ?_)
  refine wpAny_bind (wpAny_typeOf hTs ?_)
  rw [if_pos (by decide)]
  refine wpAny_bind (sliceApplied_rev hs pl pu ps ?_)
  have hno : ¬ ((((items.size : Int) - 1) == 0 && (-1 : Int) == 1 && items.size == items.size) = true) := by
    rw [show ((-1 : Int) == 1) = false by decide, Bool.and_false, Bool.false_and]
    exact Bool.false_ne_true
  show wpAny _ _ (if (((items.size : Int) - 1) == 0 && (-1 : Int) == 1 && items.size == items.size) = true then _ else _) _ _ s
  rw [if_neg hno, rev_pick]
  first
    | exact wpAny_bind (m := Builtin.Tuple.tupleExact _) (wpAny_newObj_type (wpAny_pure ⟨_, rfl, wpAny_pure h⟩) htake)
    | exact wpAny_bind (m := Builtin.Tuple.tupleExact _) (wpAny_newObj_type (wpAny_bind (wpAny_pure (wpAny_pure ⟨_, rfl, wpAny_pure h⟩))) htake)
    | exact wpAny_bind (wpAny_bind (m := Builtin.Tuple.tupleExact _) (wpAny_newObj_type (wpAny_pure (wpAny_pure ⟨_, rfl, wpAny_pure h⟩)) htake))
    | exact wpAny_bind (wpAny_bind (m := Builtin.Tuple.tupleExact _) (wpAny_newObj_type (wpAny_pure ⟨_, rfl, wpAny_pure h⟩) htake))
end
def tRevT (K : PySem.W.Frag) (te : TE) : TE := fun σ H Q => te σ H fun x H1 => ∃ a xs, x = .ref a ∧ SqT K H1 a xs ∧ ∀ p, H1 p = none → Q (.ref p) (upd H1 p (.tup xs.reverse))
section
variable {X : Cx} {g : G} {Z : WX} {xa : XE} {pos : Pos}
theorem pe_revT {e : Expr} {te : TE} {k : Nat} {p1 p2 p3 : Pos} (he : PE X e te) : PE X (.Subscript e (.Slice none none (some (.UnaryOp .USub (.Constant (.int 1) k p1) p2)) p3) pos) (tRevT X.K te) := by
  refine ⟨fun pins s σ H Q I h => ?_⟩
  refine Subscript_ (thn (he.run pins s σ H _ I h) fun v s1 ⟨x, H1, I1, r1, q1⟩ => ?_)
  obtain ⟨a, xs, ex, hx, q⟩ := q1
  subst ex
  cases r1
  have hst : PO X (some (.UnaryOp .USub (.Constant (.int 1) k p1) p2)) (tPart (tUn (rU fun i => .int (-i)) (tC (.int 1)))) := po_some (pe_un un_neg pe_int)
  refine wpAny_Slice (thn (po_none.run pins s1 σ H1 (fun o H2 => o = none ∧ H2 = H1) I1 ⟨rfl, rfl⟩) fun vl s2 ⟨l, H2, I2, pl, el, e2⟩ => ?_)
  subst el e2
  refine thn (po_none.run pins s2 σ H2 (fun o H3 => o = none ∧ H3 = H2) I2 ⟨rfl, rfl⟩) fun vu s3 ⟨u, H3, I3, pu, eu, e3⟩ => ?_
  subst eu e3
  refine thn (hst.run pins s3 σ H3 (fun o H4 => o = some (-1) ∧ H4 = H3) I3 ⟨1, rfl, -1, rfl, rfl, rfl⟩) fun vs s4 ⟨o, H4, I4, ps, eo, e4⟩ => ?_
  subst eo e4
  have I5 : Inv X pins σ H4 { s4 with heap := s4.heap.push { cls := .type "slice", data := .fields #[vl, vu, vs] } } := I4.kept (t' := s4.toks) fun b ob q => Heap.get?_push_of_some _ q
  obtain ⟨its, r, ht, hz⟩ := I5.tuple hx
  have hlen := r.length
  show wpAny (model X.prog X.w) X.A (subscriptTail e (.Slice none none (some (.UnaryOp .USub (.Constant (.int 1) k p1) p2)) p3) (.ref a) (.ref s4.heap.objs.size)) (EP X pins σ Q) X.xe { s4 with heap := s4.heap.push { cls := .type "slice", data := .fields #[vl, vu, vs] } }
  refine tail_any (ops := [.ref a, .ref s4.heap.objs.size]) ht.typeIs (PyProof.Rows.slot_tuple_getitem.lookup) ?_ (by with_unfolding_all rfl)
  refine getItem_tuple_rev ht (Heap.IsSliceOf.new _ vl vu vs) pl pu ps ?_ (by rw [List.size_toArray]; omega)
  refine ⟨.ref _, _, I5.laid (t' := s4.toks) (o := .tup xs.reverse) (fun b ob q => Heap.get?_push_of_some _ q) (Nat.le_refl _) ?_, rfl, q _ (I5.hok.fresh (Nat.le_refl _))⟩
  exact ⟨by rw [List.length_reverse]; exact hz, _, r.reverse, IsTup.new _ _⟩
@[simp] def fRevT (w : W) (h : Sto) : Re W := match w.tup? with
  | some ds => .ok (.d (.tup ds.reverse)) h
  | none => .stuck
theorem se_revT {e : Expr} {n : Nat} {p1 p2 p3 : Pos} (ha : PE X e (rdE g Z xa)) (hK : X.K = g.K := by rfl) : PE X (.Subscript e (.Slice none none (some (.UnaryOp .USub (.Constant (.int 1) n p1) p2)) p3) pos) (rdE g Z (xUn fRevT xa)) :=
  PE.imp (pe_revT ha) fun σ H Q ⟨r, h, M, fl, rs, rh, p⟩ => ⟨r, h, M, fl, rs, rh, Po.bind p fun w h1 v H1 M1 e1 rh1 rw1 p1 => by
    simp only [fRevT] at p1
    cases e : w.tup? with
    | none => rw [e] at p1; exact p1.elim
    | some ds =>
      rw [e] at p1
      rw [W.tup?_some e] at rw1
      obtain ⟨a, xs, rfl, ht, hd⟩ := rw1.tup_inv
      exact ⟨a, xs, rfl, by rw [hK]; exact ht, fun q hq => po_tup rh1 p1 (RDs.rev hd) hq⟩⟩
end
section
variable {X : Cx} {g : G} {Z : WX} {pos : Pos}
theorem sw_trueD {kx vx : Expr} {gs : List Comprehension} {scope : Scope} {pos py : Pos} {y : Str} {l : Nat} {env : PySem.Env} (hk : env.scope.kind = .function) (hy : env.scope.names.lookup y = some .local) (hl : (py.line == pos.line) = true)
    (ha : (scope.names.any fun (n, k) => n == y && (k == .local || k == .cell)) = false) : swapsWith (.DictComp kx vx gs scope pos) (some (.Name y py)) l env = pure true := by
  have ky : env.kindOf y = some .local := hy
  have hb : env.blockKind = .function := by unfold PySem.Env.blockKind; rw [hk]; rfl
  unfold swapsWith
  simp only [hb, ky, ha, Expr.pos, hl]
  rfl
theorem ps_setDc {i : Nat} {y : Str} {py : Pos} {kx vx tg iter : Expr} {ifs : List Expr} {scope : Scope} {own : List (Str × Nat)} {pos spos : Pos} {wi : TI} {g : TG} {tt : TT} {tk tv : TE} (hc : X.calm = true) (hN : X.N.Nodup) (hy : X.N[i]? = some y) (hyl : X.env.scope.names.lookup y = some .local)
    (hsw : swapsWith (.DictComp kx vx [⟨tg, iter, ifs, 0⟩] scope pos) (some (.Name y py)) spos.line X.env = pure true) (hi : PI X tg iter wi) (ok : BlkOk X.N X.env.scope scope own)
    (hg : ∀ (s : Shared) (H : Hp) (C : Addr) (cl : List (Str × Addr)) (fp : List Addr), PG (X.blk s H scope (compEnvC scope cl C X.env) fp) tg g) (ht : ∀ (s : Shared) (H : Hp) (C : Addr) (cl : List (Str × Addr)) (fp : List Addr), PTs (X.blk s H scope (compEnvC scope cl C X.env) fp) ifs tt)
    (hk : ∀ (s : Shared) (H : Hp) (C : Addr) (cl : List (Str × Addr)) (fp : List Addr), PE (X.blk s H scope (compEnvC scope cl C X.env) fp) kx tk)
    (he : ∀ (s : Shared) (H : Hp) (C : Addr) (cl : List (Str × Addr)) (fp : List Addr), PE (X.blk s H scope (compEnvC scope cl C X.env) fp) vx tv) (hs : ∀ x, foldedSetIterable iter X.env x = pure x := by intro _; rfl) :
    PS X (.Assign [.Name y py] (.DictComp kx vx [⟨tg, iter, ifs, 0⟩] scope pos) spos) (tAsg (tDc wi g tt tk tv (own.map (·.2))) (gName i)) := by
  refine ⟨fun pins s σ H D I h => ?_⟩
  rw [exec_Assign_Name_used _ _ _ _ hsw]
  refine wpAny_bind (wpAny_standAt (wpAny_bind ?_))
  show wpAny _ X.A (do let _ ← comprehension (.DictComp kx vx [⟨tg, iter, ifs, 0⟩] scope pos) scope X.env _ newDict false (eval iter X.env) (some (assign (.Name y py) X.env))) _ _ s
  have h : tDc wi g tt tk tv (own.map (·.2)) σ H (fun x H1 => gName i x σ H1 D.nx) := h
  refine wpAny_bind (thn (dc_core (Qf := fun _ s' => SP X pins D .next s') hc hN I hi ok hg ht hk he hs h fun L C s' m H' I' q hn f => ?_) fun _ s' hq => wpAny_pure (wpAny_pure hq))
  show wpAny _ _ (assign (.Name y py) X.env (.ref L)) _ _ _
  refine wpAny_assign_Name (store_ok2 (v := V.ref L) I' hN hy (.inl hyl) rfl (fun s2 I2 ⟨a, sb, ha⟩ => ?_) (.inr hyl))
  obtain ⟨f0, f1, f2, f3, f4, f5⟩ := f
  have haC : C ≠ a := by
    rcases ha with z | z
    · rw [z]; exact f1
    · exact fun e => f4 y a z e.symm
  refine ⟨m, hn.sameBut sb haC, fun h3 sb3 => ?_⟩
  exact ⟨_, H', I2.turned (t' := s2.toks) (fun b o hb e => (sb3.2 b hb).trans e) f0 f1 f3 f4 f5, q⟩
theorem ss_setDc {i : Nat} {y : Str} {py spos : Pos} {kx vx tg iter : Expr} {ifs : List Expr} {scope : Scope} {own : List (Str × Nat)} {src : XI} {xg : XG} {xc : XT} {xk xe : XE} {Z0 : WX} (hc : X.calm = true) (hN : X.N.Nodup) (hi : PI X tg iter (rdI g Z src)) (ok : BlkOk X.N X.env.scope scope own)
    (hg : ∀ (s : Shared) (H : Hp) (C : Addr) (cl : List (Str × Addr)) (fp : List Addr), PG (X.blk s H scope (compEnvC scope cl C X.env) fp) tg (rdG g (own.map (·.2)) xg)) (ht : ∀ (s : Shared) (H : Hp) (C : Addr) (cl : List (Str × Addr)) (fp : List Addr), PTs (X.blk s H scope (compEnvC scope cl C X.env) fp) ifs (rdT g Z0 xc))
    (hk : ∀ (s : Shared) (H : Hp) (C : Addr) (cl : List (Str × Addr)) (fp : List Addr), PE (X.blk s H scope (compEnvC scope cl C X.env) fp) kx (rdE g Z0 xk))
    (he : ∀ (s : Shared) (H : Hp) (C : Addr) (cl : List (Str × Addr)) (fp : List Addr), PE (X.blk s H scope (compEnvC scope cl C X.env) fp) vx (rdE g Z0 xe))
    (hsw : swapsWith (.DictComp kx vx [⟨tg, iter, ifs, 0⟩] scope pos) (some (.Name y py)) spos.line X.env = pure true) (hy : X.N[i]? = some y := by rfl) (hyl : X.env.scope.names.lookup y = some .local := by rfl) (hs : ∀ x, foldedSetIterable iter X.env x = pure x := by intro _; rfl) :
    PS X (.Assign [.Name y py] (.DictComp kx vx [⟨tg, iter, ifs, 0⟩] scope pos) spos) (rdS g Z (sSet i (xDc src xg xc xk xe (own.map (·.2))))) :=
  PS.imp (ps_setDc (i := i) hc hN hy hyl hsw hi ok hg ht hk he hs) fun D' σ H ⟨r, h, M, fl, rs, rh, p⟩ => ⟨r, h, M, fl, rs, rh, by
    have p : PoS g Z fl H M D' (((src r h).bind fun p h1 => (dcLoop p.2 xg xc xk xe p.1 0 [] (wipeR r (own.map (·.2))) h1).bind fun ws h1 => match pureK ws with | some ds => .ok (.f ds) h1 | none => .stuck).then r fun w h1 => .nx (r.set i (some w)) h1) := by
      rw [← Re.bind_assoc]
      exact p
    refine Po.bind (k := fun p h1 => (dcLoop p.2 xg xc xk xe p.1 0 [] (wipeR r (own.map (·.2))) h1).bind fun ws h1 => match pureK ws with | some ds => .ok (.f ds) h1 | none => .stuck) (R2 := RW g) (Q := fun v H1 => D'.nx (σ.set i (some v)) H1) (Po.then (k := fun w h1 => Fl.nx (r.set i (some w)) h1) rs rh.sub p fun x h1 v H1 M1 e1 rs1 rh1 rx p1 => p1 _ H1 M1 (Ext.refl H1 M1) (rs1.set rx) rh1) fun a h1 J H1 M1 e1 rh1 ok1 p1 D hD => ?_
    exact dc_walk (Q := fun v H1 => D'.nx (σ.set i (some v)) H1) (E := fun x => Po g Z σ fl (RW g) H1 M1 (fun v H1 => D'.nx (σ.set i (some v)) H1) (x.bind fun ws h1 => match pureK ws with | some ds => .ok (.f ds) h1 | none => .stuck)) (rs.mono e1 rh.sub) rh1 ok1 p1 (fun z => z) (fun ws h2 D H2 M2 vs hD x2 rh2 k2 rv p2 => by
      have p2 : Po g Z σ fl (RW g) H1 M1 (fun v H1 => D'.nx (σ.set i (some v)) H1) (match pureK ws with | some ds => .ok (.f ds) h2 | none => .stuck) := p2
      cases e : pureK ws with
      | none => rw [e] at p2; exact p2.elim
      | some ds =>
        rw [e] at p2
        obtain ⟨x3, rh3, ew⟩ := k2.fz x2 hD rh2
        rw [pureK_some e] at rv
        exact p2 _ _ _ x3 rh3 (.f ⟨k2.at_, fun z => z.2 rfl⟩ ((RWk.toD rv).mw ew.d))) D hD⟩
end
/-! ### plain laws of loops that may end in a return -/
theorem for_ret_go {tg : XG} {body : XS} {ws : List W} (P : Nat → Env → Sto → Prop) (R : W → Sto → Prop)
    (step : ∀ i w r h, ws[i]? = some w → P i r h → ∃ r1, tg w r = some r1 ∧ ((∃ r2 h2, body r1 h = .nx r2 h2 ∧ P (i + 1) r2 h2) ∨ ∃ z h2, body r1 h = .rt z h2 ∧ R z h2)) : ∀ (m i : Nat) (r : Env) (h : Sto), i + m = ws.length → P i r h →
    (∃ r' h', P ws.length r' h' ∧ ∀ n, m < n → forLoop (nL ws) tg body n i r h = .nx r' h') ∨ ∃ z h', R z h' ∧ ∀ n, m < n → forLoop (nL ws) tg body n i r h = .rt z h' := by
  intro m
  induction m with
  | zero =>
    intro i r h hi p
    refine .inl ⟨r, h, by rw [← hi]; exact p, fun n hn => ?_⟩
    cases n with
    | zero => omega
    | succ n =>
      have : ws[i]? = none := by simp; omega
      simp [forLoop, this]
  | succ m ih =>
    intro i r h hi p
    have hl : i < ws.length := by omega
    have hw : ws[i]? = some ws[i] := by simp [hl]
    obtain ⟨r1, e1, ⟨r2, h2, e2, p2⟩ | ⟨z, h2, e2, q⟩⟩ := step i ws[i] r h hw p
    · rcases ih (i + 1) r2 h2 (by omega) p2 with ⟨r', h', p', k⟩ | ⟨z, h', p', k⟩
      · refine .inl ⟨r', h', p', fun n hn => ?_⟩
        cases n with
        | zero => omega
        | succ n =>
          simp only [forLoop, nL, hw, e1, e2]
          exact k n (by omega)
      · refine .inr ⟨z, h', p', fun n hn => ?_⟩
        cases n with
        | zero => omega
        | succ n =>
          simp only [forLoop, nL, hw, e1, e2]
          exact k n (by omega)
    · refine .inr ⟨z, h2, q, fun n hn => ?_⟩
      cases n with
      | zero => omega
      | succ n => simp only [forLoop, nL, hw, e1, e2]
theorem for_ret {tg : XG} {body : XS} {ws : List W} {r : Env} {h : Sto} (P : Nat → Env → Sto → Prop) (R : W → Sto → Prop) (h0 : P 0 r h)
    (step : ∀ i w r h, ws[i]? = some w → P i r h → ∃ r1, tg w r = some r1 ∧ ((∃ r2 h2, body r1 h = .nx r2 h2 ∧ P (i + 1) r2 h2) ∨ ∃ z h2, body r1 h = .rt z h2 ∧ R z h2)) :
    (∃ r' h', P ws.length r' h' ∧ forLoop (nL ws) tg body (ws.length + 1) 0 r h = .nx r' h') ∨ ∃ z h', R z h' ∧ forLoop (nL ws) tg body (ws.length + 1) 0 r h = .rt z h' := by
  rcases for_ret_go P R step ws.length 0 r h (by omega) h0 with ⟨r', h', p, k⟩ | ⟨r', h', p, k⟩
  · exact .inl ⟨r', h', p, k _ (Nat.lt_succ_self _)⟩
  · exact .inr ⟨r', h', p, k _ (Nat.lt_succ_self _)⟩
/-- while, with a measure -/
theorem while_ret {c : XT} {body : XS} (P : Nat → Env → Sto → Prop) (Dn : Env → Sto → Prop) (R : W → Sto → Prop)
    (step : ∀ m r h, P m r h → (∃ h1, c r h = .ok false h1 ∧ Dn r h1) ∨ ∃ h1, c r h = .ok true h1 ∧ ((∃ r2 h2 m', body r h1 = .nx r2 h2 ∧ m' < m ∧ P m' r2 h2) ∨ ∃ z h2, body r h1 = .rt z h2 ∧ R z h2)) : ∀ (n m : Nat) (r : Env) (h : Sto), m < n → P m r h →
    (∃ r' h', Dn r' h' ∧ whileLoop c body n r h = .nx r' h') ∨ ∃ z h', R z h' ∧ whileLoop c body n r h = .rt z h' := by
  intro n
  induction n with
  | zero => intro m r h hm; omega
  | succ n ih =>
    intro m r h hm p
    rcases step m r h p with ⟨h1, e, d⟩ | ⟨h1, e, ⟨r2, h2, m', e2, hm', p2⟩ | ⟨z, h2, e2, q⟩⟩
    · exact .inl ⟨r, h1, d, by simp [whileLoop, e]⟩
    · rcases ih m' r2 h2 (by omega) p2 with ⟨r', h', d, k⟩ | ⟨z, h', d, k⟩
      · exact .inl ⟨r', h', d, by simp [whileLoop, e, e2, k]⟩
      · exact .inr ⟨z, h', d, by simp [whileLoop, e, e2, k]⟩
    · exact .inr ⟨z, h2, q, by simp [whileLoop, e, e2]⟩
/-- a comprehension's list, filtered and mapped -/
theorem lc_exact {tg : XG} {c : XT} {e : XE} {α : Type} {xs : List α} {inj : α → W} {p : α → Bool} {f : α → W} {r : Env} {h : Sto} (hx : xs.length ≤ 16000000)
    (step : ∀ x ∈ xs, ∃ r1, tg (inj x) r = some r1 ∧ c r1 h = .ok (p x) h ∧ (p x = true → e r1 h = .ok (f x) h)) :
    lcLoop (nL (xs.map inj)) tg c e (xs.length + 1) 0 [] r h = .ok ((xs.filter p).map f) h := by
  obtain ⟨acc, h1, h2⟩ := lc_run (tg := tg) (c := c) (e := e) (ws := xs.map inj) (r := r) (h := h) (fun i acc => acc = ((xs.take i).filter p).map f) rfl (by
    intro i w acc hw ha
    simp only [List.getElem?_map, Option.map_eq_some_iff] at hw
    obtain ⟨x, hx1, rfl⟩ := hw
    obtain ⟨r1, e1, e2, e3⟩ := step x (List.mem_of_getElem? hx1)
    have ht : xs.take (i + 1) = xs.take i ++ [x] := by rw [List.take_succ, hx1]; rfl
    refine ⟨r1, e1, ?_⟩
    cases hp : p x with
    | false => exact .inl ⟨by rw [e2, hp], by rw [ha, ht, List.filter_append]; simp [hp]⟩
    | true =>
      refine .inr ⟨by rw [e2, hp], lt_lim ?_, f x, e3 hp, by rw [ha, ht, List.filter_append]; simp [hp]⟩
      rw [ha, List.length_map]
      exact Nat.le_trans (List.length_filter_le _ _) (by rw [List.length_take]; omega))
  rw [List.length_map] at h1 h2
  rw [List.take_length] at h1
  rw [h2, h1]
theorem dc_go {tg : XG} {c : XT} {ke ve : XE} {ws : List W} {r : Env} {h : Sto} (P : Nat → List (Key × W) → Prop)
    (step : ∀ i w acc, ws[i]? = some w → P i acc → ∃ r1, tg w r = some r1 ∧ c r1 h = .ok true h ∧ acc.length < lim ∧ ∃ y k x, ke r1 h = .ok y h ∧ y.key? = some k ∧ ve r1 h = .ok x h ∧ P (i + 1) (Xs.put acc k x)) : ∀ (m i : Nat) (acc : List (Key × W)), i + m = ws.length → P i acc →
    ∃ acc', P ws.length acc' ∧ ∀ n, m < n → dcLoop (nL ws) tg c ke ve n i acc r h = .ok acc' h := by
  intro m
  induction m with
  | zero =>
    intro i acc hi p
    refine ⟨acc, by rw [← hi]; exact p, fun n hn => ?_⟩
    cases n with
    | zero => omega
    | succ n =>
      have : ws[i]? = none := by simp; omega
      simp [dcLoop, this]
  | succ m ih =>
    intro i acc hi p
    have hl : i < ws.length := by omega
    have hw : ws[i]? = some ws[i] := by simp [hl]
    obtain ⟨r1, e1, e2, hlim, y, k, x, e3, e4, e5, p2⟩ := step i ws[i] acc hw p
    obtain ⟨acc', p', kk⟩ := ih (i + 1) _ (by omega) p2
    refine ⟨acc', p', fun n hn => ?_⟩
    cases n with
    | zero => omega
    | succ n =>
      simp only [dcLoop, nL, hw, e1, e2, e3, e4, e5, Re.noex, Re.bind, if_true, if_pos hlim]
      exact kk n (by omega)
end
end Xs

/-! XsS: sorted, of any data that can be compared. -/
namespace Xs
noncomputable section
open PySem PySem.Spec PyProof.Rows L2
/-- every two can be compared; none is None, none a tuple (or all are tuples with an item) -/
def D.sortable (ds : List D) : Prop := PySem.W.AllAlike (D.pys ds) ∧ PySem.W.Sortable (D.pys ds)
theorem pys_map : ∀ ds : List D, D.pys ds = ds.map D.py
  | [] => rfl
  | d :: ds => by rw [D.pys, pys_map ds]; rfl
def sortD (ds : List D) : List D := ds.mergeSort (PySem.W.dataLe false D.py)
open Classical in
def fSorted (w : W) (h : Sto) : Re W := match lstOf h w with
  | some ws => match pureL ws with
    | some ds => if D.sortable ds ∧ ds.length ≤ lim ∧ D.depths ds ≤ 60 then .ok (.d (.lst (sortD ds))) h else .stuck
    | none => .stuck
  | none => .stuck
section
variable {X : Cx} {g : G} {Z : WX} {H : Hp} {M : Mu} {fl : List Nat} {h : Sto} {v u : V} {w y : W} {σ : L2.St} {Q : VK}
theorem depth_le {ds : List D} {d : D} (h : d ∈ ds) : d.depth ≤ D.depths ds := by
  induction ds with
  | nil => cases h
  | cons x xs ih =>
    simp only [D.depths]
    rcases List.mem_cons.mp h with rfl | h
    · omega
    · have := ih h; omega
theorem RDs.zip {B : Addr → Prop} : ∀ {vs : List V} {ds : List D}, RDs g H B vs ds → (vs.zip ds).map (·.1) = vs ∧ (vs.zip ds).map (·.2) = ds ∧ ∀ b ∈ vs.zip ds, RD g H B b.1 b.2
  | _, _, .nil => ⟨rfl, rfl, fun b hb => nomatch hb⟩
  | _, _, .cons a b => by
    obtain ⟨h1, h2, h3⟩ := RDs.zip b
    refine ⟨by simp [h1], by simp [h2], fun z hz => ?_⟩
    rw [List.zip_cons_cons] at hz
    rcases List.mem_cons.mp hz with rfl | hz
    · exact a
    · exact h3 z hz
theorem RDs.of_all {B : Addr → Prop} : ∀ {bs : List (V × D)}, (∀ b ∈ bs, RD g H B b.1 b.2) → RDs g H B (bs.map (·.1)) (bs.map (·.2))
  | [], _ => .nil
  | b :: bs, h => .cons (h b (by simp)) (RDs.of_all fun z hz => h z (by simp [hz]))
theorem each_vals : ∀ {bs : List (V × D)} {us : List Value}, PySem.W.EachIs (fun u (b : V × D) => RelV b.1 u) us bs → Vals (bs.map (·.1)) us
  | _, _, .nil => .nil
  | _, _, .cons a b => .cons a (each_vals b)
theorem vals_each : ∀ {bs : List (V × D)} {us : List Value}, Vals (bs.map (·.1)) us → PySem.W.EachIs (fun u (b : V × D) => RelV b.1 u) us bs
  | [], _, .nil => .nil
  | _ :: _, _, .cons a b => .cons a (vals_each b)
theorem each_and {α β : Type} {R S : α → β → Prop} : ∀ {as : List α} {bs : List β}, PySem.W.EachIs R as bs → (∀ a b, b ∈ bs → R a b → S a b) → PySem.W.EachIs S as bs
  | _, _, .nil, _ => .nil
  | _, _, .cons a b, h => .cons (h _ _ (by simp) a) (each_and b fun x y hy r => h x y (by simp [hy]) r)
/-- the rule over the abstract heap -/
theorem call_sortD (hu : X.A.units + 100 < cLine) : CallR X (.builtin "sorted") (fun xs H Q => ∃ (a : Addr) (bs : List (V × D)), xs = [.ref a] ∧ SqL X.K H a (bs.map (·.1)) ∧ (∀ b ∈ bs, Dp X.K H b.1 b.2.py) ∧ D.sortable (bs.map (·.2)) ∧ bs.length ≤ sizeLine ∧ D.depths (bs.map (·.2)) ≤ 60 ∧
    ∀ p, H p = none → Q (.ref p) (upd H p (.lst ((bs.mergeSort (PySem.W.dataLe false fun b : V × D => b.2.py)).map (·.1))))) := by
  intro pins s σ H xs us Q I r h
  obtain ⟨a, bs, rfl, ha, hd, hs, hl, hdp, q⟩ := h
  obtain ⟨its, rv, hL, hz⟩ := I.list ha
  rw [Vals.ref1 r]
  have e1 := vals_each rv
  have e2 : PySem.W.EachIs (fun u (b : V × D) => ∃ as, Reads s.heap u b.2.py as) its bs := each_and e1 fun u b hb hr => Dp.reads I _ _ _ (hd b hb) hr
  have em : bs.map (fun b : V × D => b.2.py) = D.pys (bs.map (·.2)) := by rw [pys_map, List.map_map]; rfl
  refine PySem.W.sorted_data (enc := fun b : V × D => b.2.py) (R := fun u (b : V × D) => RelV b.1 u) hL.isList e1 e2 (by rw [em]; exact hs.1) (by rw [em]; exact hs.2) hl (fun b hb => ?_) fun out ho eo => ?_
  · have h1 : b.2.py.depth ≤ 60 := by
      rw [D.depth_py]
      exact Nat.le_trans (depth_le (List.mem_map.mpr ⟨b, hb, rfl⟩)) hdp
    omega
  · obtain ⟨ep, he'⟩ := PyProof.Rows.sortedAll_at s.heap its (List.toArray out)
    have vv := each_vals eo
    have hlen : ((bs.mergeSort (PySem.W.dataLe false fun b : V × D => b.2.py)).map (·.1)).length ≤ sizeLine := by
      rw [List.length_map, List.length_mergeSort]
      exact hl
    exact ⟨.ref _, _, I.laid (t' := s.toks) (o := .lst ((bs.mergeSort (PySem.W.dataLe false fun b : V × D => b.2.py)).map (·.1))) (fun _ _ => PyProof.Rows.sortedAll_old) (Nat.le_succ _) ⟨hlen, out, ep, vv, he'⟩, rfl, q _ (I.hok.fresh (Nat.le_succ _))⟩
theorem c_sorted (hu : X.A.units + 100 < cLine) (hK : X.K = g.K := by rfl) : Fn1 X g Z (.builtin "sorted") (f1 fSorted) := Fn1.one (call_sortD hu) fun {σ H M fl h v w Q} rh rw1 p => by
  simp only [fSorted] at p
  cases e : lstOf h w with
  | none => rw [e] at p; exact p.elim
  | some ws =>
    rw [e] at p
    obtain ⟨a, xs, rfl, sq, hd⟩ := lstOf_sq rh rw1 e
    simp only at p
    cases e2 : pureL ws with
    | none => rw [e2] at p; exact p.elim
    | some ds =>
      rw [e2] at p
      rw [pureL_some e2] at hd
      have hd := RWs.toD hd
      simp only at p
      split at p
      · rename_i hc
        obtain ⟨h1, h2, h3⟩ := hc
        obtain ⟨z1, z2, z3⟩ := RDs.zip hd
        refine ⟨a, xs.zip ds, rfl, by rw [z1, hK]; exact sq, fun b hb => by rw [hK]; exact (z3 b hb).dp, by rw [z2]; exact h1, ?_, by rw [z2]; exact h3, fun q hq => ?_⟩
        · rw [← lim_line]
          have : (xs.zip ds).length = ds.length := by
            have := congrArg List.length z2
            rwa [List.length_map] at this
          omega
        · have hr := RDs.of_all (bs := (xs.zip ds).mergeSort (PySem.W.dataLe false fun b : V × D => b.2.py)) fun b hb => z3 b (List.mem_mergeSort.mp hb)
          have hm : ((xs.zip ds).mergeSort (PySem.W.dataLe false fun b : V × D => b.2.py)).map (·.2) = sortD ds := by
            unfold sortD
            have e := List.map_mergeSort (r := PySem.W.dataLe false fun b : V × D => b.2.py) (s := PySem.W.dataLe false D.py) (f := fun b : V × D => b.2) (l := xs.zip ds) (fun _ _ _ _ => rfl)
            rw [e, z2]
          rw [hm] at hr
          exact po_lst rh p hr hq
      · exact p.elim
end
end
end Xs

/-! XsT: defs that call themselves; chains of comparisons, texts. -/
namespace Xs
noncomputable section
open PySem PySem.Spec PyProof.Rows L2
section
variable {P : Program} {w : World} {K : PySem.W.Frag} {mg : Str → Option Value} {base : Heap} {k : Nat} {f : Addr} {fd : FuncData} {ps : List Str} {g : G}
/-- no fuel, no promise -/
theorem fng_stuck : FnG P w K mg base k f fd ps (spF g fun _ _ => .stuck) :=
  ⟨fun _ _ _ _ ⟨_, _, _, _, _, _, p⟩ => p.elim, fun _ _ _ _ _ _ _ _ _ _ _ _ _ _ ⟨_, _, _, _, _, _, p⟩ => p.elim⟩
end
section
variable {X : Cx} {g : G} {Z : WX} {a b c : Expr} {xa xb xc : XE} {pos : Pos} {H : Hp} {M : Mu} {fl : List Nat} {h : Sto} {v u : V} {w y : W} {σ : L2.St} {Q : VK}
/-- a < b < c -/
@[simp] def xChain (F G : W → W → Sto → Re W) (a b c : XE) : XE := fun r h => (a r h).bind fun x h1 => (b r h1).bind fun y h2 => (F x y h2).bind fun t h3 => match t with
  | .d (.bl true) => (c r h3).bind fun z h4 => G y z h4
  | .d (.bl false) => .ok (.d (.bl false)) h3
  | _ => .stuck
theorem rd_chain {F G : W → W → Sto → Re W} {t1 t2 : R2} (k1 : ∀ {σ : L2.St} {H : Hp} {M : Mu} {fl : List Nat} {h : Sto} {v u : V} {w y : W} {Q : VK}, RH g H M fl h → RW g H M v w → RW g H M u y → Po g Z σ fl (RW g) H M Q (F w y h) → t1 v u H Q)
    (k2 : ∀ {σ : L2.St} {H : Hp} {M : Mu} {fl : List Nat} {h : Sto} {v u : V} {w y : W} {Q : VK}, RH g H M fl h → RW g H M v w → RW g H M u y → Po g Z σ fl (RW g) H M Q (G w y h) → t2 v u H Q)
    (σ : L2.St) (H : Hp) (Q : VK) : rdE g Z (xChain F G xa xb xc) σ H Q → tChain t1 t2 (rdE g Z xa) (rdE g Z xb) (rdE g Z xc) σ H Q := fun ⟨r, h, M, fl, rs, rh, p⟩ =>
  ⟨r, h, M, fl, rs, rh, Po.bind p fun x h1 v H1 M1 e1 rh1 rx p1 => ⟨r, h1, M1, fl, rs.mono e1 rh.sub, rh1, Po.bind p1 fun y h2 u H2 M2 e2 rh2 ry p2 =>
    k1 rh2 (rx.mono e2 rh1.sub) ry (Po.bind p2 fun t h3 z H3 M3 e3 rh3 rt p3 => by
      cases rt with
      | d rt =>
        cases rt with
        | bl b =>
          refine ⟨b, rfl, ?_⟩
          cases b with
          | true =>
            simp only [if_true] at p3 ⊢
            exact ⟨r, h3, M3, fl, ((rs.mono e1 rh.sub).mono e2 rh1.sub).mono e3 rh2.sub, rh3, Po.bind p3 fun z h4 zv H4 M4 e4 rh4 rz p4 => k2 rh4 ((ry.mono e3 rh2.sub).mono e4 rh3.sub) rz p4⟩
          | false =>
            simp only [Bool.false_eq_true, if_false] at p3 ⊢
            exact p3 _ H3 M3 (Ext.refl H3 M3) rh3 (.d (.bl false))
        | _ => exact p3.elim
      | _ => exact p3.elim)⟩⟩
theorem se_chain {op op' : CmpOp} {F G : W → W → Sto → Re W} (o : Op2 X g Z (compareOp op) F) (o' : Op2 X g Z (compareOp op') G) (ha : PE X a (rdE g Z xa)) (hb : PE X b (rdE g Z xb)) (hc : PE X c (rdE g Z xc)) (hm : lastMarks [op, op'] [b, c] = false := by with_unfolding_all rfl) : PE X (.Compare a [op, op'] [b, c] pos) (rdE g Z (xChain F G xa xb xc)) := by
  obtain ⟨r, ho, k⟩ := o
  obtain ⟨r', ho', k'⟩ := o'
  exact PE.imp (pe_chain ho ho' ha hb hc hm) (rd_chain k k')
theorem st_chain {op op' : CmpOp} {F G : W → W → Sto → Re W} (o : Op2 X g Z (compareOp op) F) (o' : Op2 X g Z (compareOp op') G) (ha : PE X a (rdE g Z xa)) (hb : PE X b (rdE g Z xb)) (hc : PE X c (rdE g Z xc)) (hm : lastMarks [op, op'] [b, c] = false := by with_unfolding_all rfl) : PT X (.Compare a [op, op'] [b, c] pos) (rdT g Z (xTest (xChain F G xa xb xc))) := by
  obtain ⟨r, ho, k⟩ := o
  obtain ⟨r', ho', k'⟩ := o'
  exact PT.imp (pt_chain ho ho' ha hb hc hm) fun σ H Q q => by
    obtain ⟨r0, h, M, fl, rs, rh, p⟩ := rd_test σ H Q q
    exact rd_chain k k' σ H _ ⟨r0, h, M, fl, rs, rh, p⟩
/-! ### texts -/
theorem strOk_ofString (z : String) : PyData.strOk (Str.ofString z) = true := by
  rw [Str.ofString_eq_toList]
  unfold PyData.strOk
  rw [Array.all_eq_true']
  intro n hn
  simp only [List.mem_toArray, List.mem_map] at hn
  obtain ⟨c, _, rfl⟩ := hn
  have := c.valid
  simp only [UInt32.isValidChar, Nat.isValidChar] at this
  have h2 : c.toNat = c.val.toNat := rfl
  simp only [decide_eq_true_eq]
  omega
theorem CallR.or {f : Value} {r r' : List V → Hp → VK → Prop} (h : CallR X f r) (h' : CallR X f r') : CallR X f (fun xs H Q => r xs H Q ∨ r' xs H Q) := fun pins s σ H xs us Q I rv z => z.elim (fun z => h pins s σ H xs us Q I rv z) fun z => h' pins s σ H xs us Q I rv z
/-- str(x) -/
@[simp] def fStr (w : W) (h : Sto) : Re W := match w with
  | .d (.int i) => if i.natAbs.log2 < 1920 then .ok (.d (.str (Str.ofString (toString i)))) h else .stuck
  | .d (.str z) => .ok (.d (.str z)) h
  | _ => .stuck
theorem c_str : Fn1 X g Z (.type "str") (f1 fStr) := Fn1.one (CallR.or call_str_int SkE.call_str_str) fun {σ H M fl h v w Q} rh rw1 p => by
  unfold fStr at p
  split at p
  · rename_i i
    obtain ⟨q, p⟩ := po_ifP p
    obtain rfl := rw1.int_inv
    exact .inl ⟨i, rfl, q, po_str rh (strOk_ofString _) p⟩
  · rename_i z
    obtain ⟨rfl, hz⟩ := rw1.str_inv
    exact .inr ⟨z, rfl, po_str rh hz p⟩
  · exact p.elim
/-- a list of texts -/
@[simp] def strsD : List D → Option (List Str)
  | [] => some []
  | .str z :: r => (strsD r).map (z :: ·)
  | _ :: _ => none
@[simp] theorem strsD_map (zs : List Str) : strsD (zs.map .str) = some zs := by
  induction zs with
  | nil => rfl
  | cons z zs ih => simp [ih]
theorem strsD_some : ∀ {ds : List D} {zs : List Str}, strsD ds = some zs → ds = zs.map .str
  | [], _, h => by cases h; rfl
  | .str z :: r, zs, h => by
    simp only [strsD, Option.map_eq_some_iff] at h
    obtain ⟨rs, h1, rfl⟩ := h
    rw [strsD_some h1]
    rfl
  | .non :: _, _, h => nomatch h
  | .bl _ :: _, _, h => nomatch h
  | .int _ :: _, _, h => nomatch h
  | .tup _ :: _, _, h => nomatch h
  | .lst _ :: _, _, h => nomatch h
theorem RDs.strs {B : Addr → Prop} : ∀ {zs : List Str} {vs : List V}, RDs g H B vs (zs.map .str) → vs = zs.map V.str ∧ ∀ z ∈ zs, PyData.strOk z = true
  | [], _, .nil => ⟨rfl, fun z hz => nomatch hz⟩
  | z :: zs, _, .cons (.str _ a) b => by
    obtain ⟨rfl, h⟩ := RDs.strs b
    exact ⟨rfl, fun y hy => by
      rcases List.mem_cons.mp hy with rfl | hy
      · exact a
      · exact h y hy⟩
theorem strOk_glue {sep : Str} (hs : PyData.strOk sep = true) : ∀ (rest : List Str) (acc : Array Nat), (∀ z ∈ rest, PyData.strOk z = true) → acc.all (· < 0x110000) = true → (rest.foldl (fun acc p => acc ++ sep.cps ++ p.cps) acc).all (· < 0x110000) = true
  | [], _, _, h => h
  | z :: rest, acc, hz, h => by
    refine strOk_glue hs rest _ (fun y hy => hz y (by simp [hy])) ?_
    have h1 : sep.cps.all (· < 0x110000) = true := hs
    have h2 : z.cps.all (· < 0x110000) = true := hz z (by simp)
    rw [Array.all_append, Array.all_append, h, h1, h2]
    rfl
theorem strOk_join {sep : Str} {zs : List Str} (hs : PyData.strOk sep = true) (hz : ∀ z ∈ zs, PyData.strOk z = true) : PyData.strOk (Txt.join sep zs) = true := by
  show (Array.all ((zs.drop 1).foldl (fun acc p => acc ++ sep.cps ++ p.cps) (zs.headD Str.empty).cps) (· < 0x110000)) = true
  refine strOk_glue hs _ _ (fun z h => hz z (List.mem_of_mem_drop h)) ?_
  cases zs with
  | nil => decide +kernel
  | cons z zs => exact hz z (by simp)
/-- sep.join(xs) -/
@[simp] def fJoin (w : W) (as : List W) (h : Sto) : Re W := match as with
  | [z] => match w.str?, sdOf h z with
    | some sep, some ds => match strsD ds with
      | some zs => if (zs.map (·.length)).sum + zs.length * sep.length ≤ 16000000 then .ok (.d (.str (Txt.join sep zs))) h else .stuck
      | none => .stuck
    | _, _ => .stuck
  | _ => .stuck
theorem m_join (hK : X.K = g.K := by rfl) : Mt X g Z "str.join" fJoin := ⟨_, mt_join, fun {σ H M fl h v w vs ws Q} rh rw1 rws p => by
  cases ws with
  | nil => exact p.elim
  | cons z ws =>
    cases ws with
    | cons _ _ => exact p.elim
    | nil =>
      obtain ⟨zv, rfl, rz⟩ := rws.one
      simp only [fJoin] at p
      cases e1 : w.str? with
      | none => rw [e1] at p; exact p.elim
      | some sep =>
        cases e2 : sdOf h z with
        | none => rw [e1, e2] at p; exact p.elim
        | some ds =>
          rw [e1, e2] at p
          simp only at p
          cases e3 : strsD ds with
          | none => rw [e3] at p; exact p.elim
          | some zs =>
            rw [e3] at p
            simp only at p
            obtain ⟨q, p⟩ := po_ifP p
            rw [W.str?_some e1] at rw1
            obtain ⟨rfl, hs⟩ := rw1.str_inv
            obtain ⟨a, xs, rfl, sq, hd⟩ := sdOf_sq rh rz e2
            rw [strsD_some e3] at hd
            obtain ⟨rfl, hz⟩ := RDs.strs hd
            exact ⟨sep, a, zs, rfl, rfl, by rw [hK]; exact sq, by omega, po_str rh (strOk_join hs hz) p⟩⟩
end
end
end Xs

/-! XsU: dict displays; lists turned about. -/
namespace Xs
noncomputable section
open PySem PySem.Spec PyProof.Rows L2
def xPairs : List (XE × XE) → Env → Sto → Re (List (Key × W))
  | [], _, h => .ok [] h
  | (k, v) :: ps, r, h => (k r h).noex.bind fun y h1 => match y.key? with
    | none => .stuck
    | some key => (v r h1).noex.bind fun x h2 => (xPairs ps r h2).bind fun l h3 => .ok ((key, x) :: l) h3
def mergeS {α : Type} (l : List (Key × α)) : List (Key × α) := l.foldl (fun acc kv => Xs.put acc kv.1 kv.2) []
/-- {..} that stays -/
def xDict (ps : List (XE × XE)) : XE := fun r h => (xPairs ps r h).bind fun l h1 => match pureK (mergeS l) with
  | some ds => .ok (.f ds) h1
  | none => .stuck
/-- {..} at a new place -/
def xDictN (ps : List (XE × XE)) : XE := fun r h => (xPairs ps r h).bind fun l h1 => .ok (.l h1.o.length) ⟨h1.o ++ [.dct (mergeS l)], h1.c⟩
section
variable {X : Cx} {g : G} {Z : WX} {pos : Pos} {H H' : Hp} {M M' : Mu} {fl : List Nat} {h : Sto} {v u : V} {w y : W} {σ : L2.St} {r : Env}
theorem xPairs_len : ∀ {ps : List (XE × XE)} {r : Env} {h h' : Sto} {l : List (Key × W)}, xPairs ps r h = .ok l h' → l.length = ps.length
  | [], _, _, _, _, e => by cases e; rfl
  | (k, v) :: ps, r, h, h', l, e => by
    simp only [xPairs] at e
    cases e1 : (k r h) with
    | ok y h1 =>
      rw [e1] at e
      simp only [Re.noex, Re.bind] at e
      cases e2 : y.key? with
      | none => rw [e2] at e; cases e
      | some key =>
        rw [e2] at e
        simp only at e
        cases e3 : v r h1 with
        | ok x h2 =>
          rw [e3] at e
          simp only at e
          cases e4 : xPairs ps r h2 with
          | ok l' h3 =>
            rw [e4] at e
            simp only at e
            cases e
            rw [List.length_cons, List.length_cons, xPairs_len e4]
          | exc _ _ => rw [e4] at e; cases e
          | stuck => rw [e4] at e; cases e
        | exc _ _ => rw [e3] at e; cases e
        | stuck => rw [e3] at e; cases e
    | exc _ _ => rw [e1] at e; cases e
    | stuck => rw [e1] at e; cases e
theorem xPairs_noex {e : Ex} {h' : Sto} : ∀ (ps : List (XE × XE)) (h : Sto), xPairs ps r h ≠ .exc e h' := by
          intro ps
          induction ps with
          | nil => intro h z; cases z
          | cons p ps ih =>
            intro h z
            obtain ⟨k, v⟩ := p
            simp only [xPairs] at z
            cases e1 : k r h with
            | exc _ _ => rw [e1] at z; cases z
            | stuck => rw [e1] at z; cases z
            | ok y h1 =>
              rw [e1] at z
              simp only [Re.noex, Re.bind] at z
              cases e2 : y.key? with
              | none => rw [e2] at z; cases z
              | some key =>
                rw [e2] at z
                simp only at z
                cases e3 : v r h1 with
                | exc _ _ => rw [e3] at z; cases z
                | stuck => rw [e3] at z; cases z
                | ok x h2 =>
                  rw [e3] at z
                  simp only at z
                  cases e4 : xPairs ps r h2 with
                  | exc a b =>
                    rw [e4] at z
                    simp only at z
                    cases z
                    exact ih h2 e4
                  | stuck => rw [e4] at z; cases z
                  | ok l h3 => rw [e4] at z; cases z
theorem rd_pairs {fl : List Nat} : ∀ (ps : List (XE × XE)) {H : Hp} {M : Mu} {h : Sto} {Q : List (V × V) → Hp → Prop} (E : Re (List (Key × W)) → Prop) (st : ¬ E .stuck) (ex : ∀ e h, ¬ E (.exc e h)) (rs : RS g H M σ r) (rh : RH g H M fl h) (p : E (xPairs ps r h))
    (fin : ∀ l h2 H2 M2 (kvs : List (Key × V)), Ext H M H2 M2 → RH g H2 M2 fl h2 → RWk g H2 M2 kvs l → E (.ok l h2) → Q (kvs.map fun kv => (kV kv.1, kv.2)) H2), tPairs (ps.map fun p => (rdE g Z p.1, rdE g Z p.2)) σ H Q
  | [], H, M, h, Q, E, st, ex, rs, rh, p, fin => fin [] h H M [] (Ext.refl H M) rh .nil p
  | (xk, xv) :: ps, H, M, h, Q, E, st, ex, rs, rh, p, fin => by
    refine ⟨r, h, M, fl, rs, rh, ?_⟩
    simp only [xPairs] at p
    dsimp only
    cases e1 : xk r h with
    | exc _ _ => rw [e1] at p; exact (st p).elim
    | stuck => rw [e1] at p; exact (st p).elim
    | ok y h1 =>
      rw [e1] at p
      simp only [Re.noex, Re.bind] at p
      intro kv H1 M1 x1 rh1 rk
      cases e2 : y.key? with
      | none => rw [e2] at p; exact (st p).elim
      | some key =>
        rw [e2] at p
        simp only at p
        have hk := W.key?_some e2 rk
        subst hk
        refine ⟨r, h1, M1, fl, rs.mono x1 rh.sub, rh1, ?_⟩
        cases e3 : xv r h1 with
        | exc _ _ => rw [e3] at p; exact (st p).elim
        | stuck => rw [e3] at p; exact (st p).elim
        | ok z h2 =>
          rw [e3] at p
          simp only at p
          intro zv H2 M2 x2 rh2 rz
          refine rd_pairs ps (fun q => E (q.bind fun l h3 => .ok ((key, z) :: l) h3)) st ex ((rs.mono x1 rh.sub).mono x2 rh1.sub) rh2 p fun l h3 H3 M3 kvs x3 rh3 rl q => ?_
          exact fin ((key, z) :: l) h3 H3 M3 ((key, zv) :: kvs) ((x1.trans x2).trans x3) rh3 (.cons ⟨rfl, rz.mono x3 rh2.sub⟩ rl) q
theorem RWk.merge {vs : List (Key × V)} {ws : List (Key × W)} (q : RWk g H M vs ws) : RWk g H M (mergeK [] vs) (mergeS ws) := by
  have go : ∀ {vs : List (Key × V)} {ws : List (Key × W)} {as : List (Key × V)} {bs : List (Key × W)}, RWk g H M vs ws → RWk g H M as bs → RWk g H M (vs.foldl (fun acc kv => putK acc kv.1 kv.2) as) (ws.foldl (fun acc kv => Xs.put acc kv.1 kv.2) bs) := by
    intro vs ws as bs q
    induction q generalizing as bs with
    | nil => exact fun z => z
    | @cons p q vs ws h1 h2 ih =>
      intro z
      obtain ⟨p1, p2⟩ := p
      obtain ⟨q1, q2⟩ := q
      obtain ⟨rfl, h1⟩ := h1
      exact ih (RWk.put z _ h1)
  exact go q .nil
theorem se_dict {keys : List (Option Expr)} {values : List Expr} {ps : List (XE × XE)} (hp : PPs X pos keys values (ps.map fun p => (rdE g Z p.1, rdE g Z p.2))) (hn : ps.length ≤ 15) (hall : keys.all (·.isSome) = true := by rfl) (hl : keys.length = values.length := by rfl) (h0 : keys ≠ [] := by intro z; cases z) (h15 : keys.length ≤ 15 := by decide) :
    PE X (.Dict keys values pos) (rdE g Z (xDict ps)) :=
  PE.imp (pe_disp hp hall hl h0 h15) fun σ H Q ⟨r, h, M, fl, rs, rh, p⟩ D hD => by
    obtain ⟨x0, rh0, k0⟩ := start_wkD rh hD
    by_cases hx : ∃ e h', xPairs ps r h = .exc e h'
    · obtain ⟨e, h', hx⟩ := hx
      exact absurd hx (xPairs_noex ps h)
    · refine rd_pairs ps (fun q => (∀ e h, q ≠ .exc e h) ∧ (∀ l h', q = .ok l h' → l.length ≤ 15) ∧ Po g Z σ fl (RW g) H M Q (q.bind fun l h1 => match pureK (mergeS l) with | some ds => .ok (.f ds) h1 | none => .stuck)) (fun z => z.2.2) (fun e h z => z.1 e h rfl) (rs.mono x0 rh.sub) rh0 ⟨fun e h' z => hx ⟨e, h', z⟩, fun l h' z => by rw [xPairs_len z]; exact hn, p⟩ fun l h2 H2 M2 kvs x2 rh2 rk q => ?_
      obtain ⟨_, q1, q2⟩ := q
      have k2 := k0.ext x2
      have hl15 : kvs.length ≤ 15 := by rw [RWk.length rk]; exact q1 l h2 rfl
      refine ⟨k2.at_, kvs, rfl, hl15, ?_⟩
      have q2 : Po g Z σ fl (RW g) H M Q (match pureK (mergeS l) with | some ds => .ok (.f ds) h2 | none => .stuck) := q2
      cases e : pureK (mergeS l) with
      | none => rw [e] at q2; exact q2.elim
      | some ds =>
        rw [e] at q2
        have ew0 : Exw H2 M2 (upd H2 D (.dK (mergeK [] kvs))) M2 := k2.exw
        have k3 : WkD (upd H2 D (.dK (mergeK [] kvs))) M2 D (mergeK [] kvs) := ⟨upd_same, k2.b, k2.m⟩
        obtain ⟨x4, rh4, ew⟩ := k3.fz ((x0.trans x2).wkD hD) hD (rh2.wkD k2)
        have rm := RWk.mw ew0 (RWk.merge rk)
        rw [pureK_some e] at rm
        exact q2 _ _ _ x4 rh4 (.f ⟨k3.at_, fun z => z.2 rfl⟩ ((RWk.toD rm).mw ew.d))
/-- the end: it is a place of the store from now on -/
theorem WkD.pl {H1 : Hp} {M1 : Mu} {p : Addr} {vs : List (Key × V)} {ws : List (Key × W)} (k : WkD H M p vs) (x : Ext H1 M1 H M) (hp : H1 p = none) (q : RH g H M fl h) (rv : RWk g H M vs ws) :
    Ext H1 M1 H ⟨M.B, M.m ++ [p]⟩ ∧ RH g H ⟨M.B, M.m ++ [p]⟩ fl ⟨h.o ++ [.dct ws], h.c⟩ := by
  have e : Exw H M H ⟨M.B, M.m ++ [p]⟩ := ⟨fun n a e => by
    show (M.m ++ [p])[n]? = _
    rw [List.getElem?_append_left (List.getElem?_eq_some_iff.mp e).1]
    exact e, fun a o e n => ⟨.of e, n⟩, fun _ _ e => e, fun _ _ _ e => e⟩
  refine ⟨⟨fun n a z => e.pre n a (x.pre n a z), fun a o e n => ⟨(x.old a o e n).1, fun z => ?_⟩, x.bb, x.tup, x.frz, x.dom⟩, ⟨?_, fun a ha => ?_, ?_, fun n a o e1 e2 => ?_, fun hc f hf j o hj ej => ?_, fun f hf => ?_, q.tb⟩⟩
  · rcases List.mem_append.mp z with z | z
    · exact (x.old a o e n).2 z
    · exact ne_of_none e hp (List.mem_singleton.mp z)
  · show (M.m ++ [p]).Nodup
    rw [List.nodup_append]
    exact ⟨q.nd, List.nodup_cons.mpr ⟨by simp, List.nodup_nil⟩, fun a ha b hb z => k.m (by rw [← List.mem_singleton.mp hb, ← z]; exact ha)⟩
  · rcases List.mem_append.mp ha with z | z
    · exact q.sub a z
    · rw [List.mem_singleton.mp z]; exact k.b
  · show (M.m ++ [p]).length = (h.o ++ [O.dct ws]).length
    rw [List.length_append, List.length_append, q.len]
    rfl
  · have e1' : (M.m ++ [p])[n]? = some a := e1
    have e2' : (h.o ++ [.dct ws])[n]? = some o := e2
    by_cases hn : n < M.m.length
    · rw [List.getElem?_append_left hn] at e1'
      rw [List.getElem?_append_left (by rw [← q.len]; exact hn)] at e2'
      obtain ⟨u', h1, h2⟩ := q.ev n a o e1' e2'
      exact ⟨u', h1, h2.mw e⟩
    · rw [List.getElem?_append_right (by omega)] at e1'
      rw [List.getElem?_append_right (by rw [← q.len]; omega)] at e2'
      have hz : n - M.m.length = 0 := by
        have := (List.getElem?_eq_some_iff.mp e1').1
        simp at this
        exact this
      rw [hz] at e1'
      rw [← q.len, hz] at e2'
      simp at e1' e2'
      subst e1' e2'
      exact ⟨_, k.at_, RWk.mw e rv⟩
  · have ej' : (h.o ++ [.dct ws])[j]? = some o := ej
    rw [List.getElem?_append_left (Nat.lt_of_lt_of_le hj (q.fle f hf))] at ej'
    exact q.cl hc f hf j o hj ej'
  · show f ≤ (h.o ++ [O.dct ws]).length
    rw [List.length_append]
    exact Nat.le_trans (q.fle f hf) (Nat.le_add_right _ _)

theorem se_dictN {keys : List (Option Expr)} {values : List Expr} {ps : List (XE × XE)} (hp : PPs X pos keys values (ps.map fun p => (rdE g Z p.1, rdE g Z p.2))) (hn : ps.length ≤ 15) (hall : keys.all (·.isSome) = true := by rfl) (hl : keys.length = values.length := by rfl) (h0 : keys ≠ [] := by intro z; cases z) (h15 : keys.length ≤ 15 := by decide) :
    PE X (.Dict keys values pos) (rdE g Z (xDictN ps)) :=
  PE.imp (pe_disp hp hall hl h0 h15) fun σ H Q ⟨r, h, M, fl, rs, rh, p⟩ D hD => by
    obtain ⟨x0, rh0, k0⟩ := start_wkD rh hD
    refine rd_pairs ps (fun q => (∀ e h, q ≠ .exc e h) ∧ (∀ l h', q = .ok l h' → l.length ≤ 15) ∧ Po g Z σ fl (RW g) H M Q (q.bind fun (l : List (Key × W)) (h1 : Sto) => (Re.ok (W.l h1.o.length) ⟨h1.o ++ [O.dct (mergeS l)], h1.c⟩ : Re W))) (fun z => z.2.2) (fun e h z => z.1 e h rfl) (rs.mono x0 rh.sub) rh0 ⟨fun e h' => xPairs_noex ps h, fun l h' z => by rw [xPairs_len z]; exact hn, p⟩ fun l h2 H2 M2 kvs x2 rh2 rk q => ?_
    obtain ⟨_, q1, q2⟩ := q
    have k2 := k0.ext x2
    have hl15 : kvs.length ≤ 15 := by rw [RWk.length rk]; exact q1 l h2 rfl
    refine ⟨k2.at_, kvs, rfl, hl15, ?_⟩
    have q2 : Po g Z σ fl (RW g) H M Q (Re.ok (W.l h2.o.length) ⟨h2.o ++ [O.dct (mergeS l)], h2.c⟩ : Re W) := q2
    have ew0 : Exw H2 M2 (upd H2 D (.dK (mergeK [] kvs))) M2 := k2.exw
    have k3 : WkD (upd H2 D (.dK (mergeK [] kvs))) M2 D (mergeK [] kvs) := ⟨upd_same, k2.b, k2.m⟩
    have rh3 := rh2.wkD (ys := mergeK [] kvs) k2
    obtain ⟨x4, rh4⟩ := k3.pl ((x0.trans x2).wkD hD) hD rh3 (RWk.mw ew0 (RWk.merge rk))
    refine q2 _ _ _ x4 rh4 (.l ?_)
    show (M2.m ++ [D])[h2.o.length]? = some D
    rw [← rh2.len, List.getElem?_append_right (Nat.le_refl _), Nat.sub_self]
    rfl
/-- {} at a new place -/
@[simp] def xDict0N : XE := fun _ h => .ok (.l h.o.length) ⟨h.o ++ [.dct []], h.c⟩
theorem se_dict0N : PE X (.Dict [] [] pos) (rdE g Z xDict0N) :=
  PE.imp pe_dnewK fun σ H Q ⟨r, h, M, fl, rs, rh, p⟩ D hD => by
    obtain ⟨x0, rh0, k0⟩ := start_wkD rh hD
    obtain ⟨x4, rh4⟩ := k0.pl x0 hD rh0 .nil
    refine p _ _ _ x4 rh4 (.l ?_)
    show (M.m ++ [D])[h.o.length]? = some D
    rw [← rh.len, List.getElem?_append_right (Nat.le_refl _), Nat.sub_self]
    rfl
end
end
end Xs

/-! XsV: instances made; more methods. -/
namespace Xs
noncomputable section
open PySem PySem.Spec PyProof.Rows L2
section
variable {X : Cx} {g : G} {Z : WX} {a b c : Expr} {xa xb xc : XE} {pos p apos : Pos} {H : Hp} {M : Mu} {fl : List Nat} {h : Sto} {v u : V} {w y : W} {σ : L2.St} {Q : VK} {k : Nat} {f C : Addr} {fd : FuncData} {ps : List Str} {F : List W → Sto → Re W} {x m : Str} {e o : Expr} {es : List Expr} {ta : XA}
theorem run_makeG {pins : List (Addr × Obj)} {s : Shared} {us : List Value} {vs : List V} {sp : Sp} {E : L2.St → XK} (Mk : L2.Mk X.K C f) (Fn : FnG X.prog X.w X.K X.mg X.base k f fd ps sp) (hr : Room (k + 1) X.A) (hgd : X.A.guards = some []) (hb : Binds X.K fd ps [])
    (hx : PassesAt (L2.CX X.prog X.w) X σ (E σ)) (I : Inv X pins σ H s) (r : Vals vs us)
    (h : ∀ x dx, H x = none → H dx = none → dx ≠ x → sp (.ref x :: vs) (upd (upd H dx (.own x)) x (.ins C dx [])) (fun v H2 => v = .non ∧ Q (.ref x) H2) (E σ)) :
    wpAny (model X.prog X.w) X.A (call (.ref C) us) (EP X pins σ Q) X.xe s := by
  have hq := h (s.heap.objs.size + 1) s.heap.objs.size (I.hok.fresh (Nat.le_succ _)) (I.hok.fresh (Nat.le_refl _)) (Nat.ne_of_lt (Nat.lt_succ_self _))
  have I2 := Inv.made (C := C) I
  have r2 : Vals (V.ref (s.heap.objs.size + 1) :: vs) (Value.ref (s.heap.objs.size + 1) :: us) := .cons rfl r
  have hl : (Value.ref (s.heap.objs.size + 1) :: us ++ []).length = ps.length := by
    have e := r2.length
    rw [Fn.len _ _ _ _ hq] at e
    rw [List.append_nil]
    exact e.symm
  have b := hb _ (Value.ref (s.heap.objs.size + 1) :: us) I2.kIn hl
  rw [List.append_nil] at b
  refine wpAny_call (make_map (f := f) I.kIn Mk.makes Mk.init (beq_iff_eq.mp Mk.fn) (codeAny_mono (Fn.go _ X.stack _ _ ⟨Value.ref (s.heap.objs.size + 1) :: us, []⟩ (Value.ref (s.heap.objs.size + 1) :: us) _ _ (E σ) (hr.make C us []) (by first | exact hgd | (simpa using hgd))
    (I2.env0.make C us []) b r2 hq) fun r s' hq' => ?_))
  cases r with
  | error e => exact hx pins _ _ e s' I2 hq'
  | ok fl =>
    cases fl with
    | ret u =>
      obtain ⟨v, H', I3, rv, ev, q3⟩ := I2.after hq'
      subst ev
      exact ⟨rv, ⟨V.ref (s.heap.objs.size + 1), H', I3, rfl, q3⟩⟩
    | next => exact False.elim hq'
    | brk => exact False.elim hq'
    | cont => exact False.elim hq'
/-- C(..) -/
def xMake (c : Str) (F : List W → Sto → Re W) (t : XA) : XE := fun r h => (t r h).bind fun ws h1 => (F (.l h1.o.length :: ws) ⟨h1.o ++ [.ins c []], h1.c⟩).bind fun w h2 => match w with
  | .d .non => .ok (.l h1.o.length) h2
  | _ => .stuck
theorem make_ok {σ : L2.St} {H1 : Hp} {M1 : Mu} {h1 : Sto} {vs : List V} {ws : List W} {cn : Str} (hc : g.cm cn = some C) (rh1 : RH g H1 M1 fl h1) (rw1 : RWs g H1 M1 vs ws)
    (p1 : Po g Z σ fl (RW g) H1 M1 Q ((F (.l h1.o.length :: ws) ⟨h1.o ++ [.ins cn []], h1.c⟩).bind fun w h2 => match w with | .d .non => .ok (.l h1.o.length) h2 | _ => .stuck))
    (x dx : Addr) (hx : H1 x = none) (hdx : H1 dx = none) (ne : dx ≠ x) : spF g F (.ref x :: vs) (upd (upd H1 dx (.own x)) x (.ins C dx [])) (fun v H2 => v = .non ∧ Q (.ref x) H2) (WE Z σ) := by
  have x0 : Ext H1 M1 (upd H1 dx (.own x)) M1 := Ext.fresh hdx rh1
  have r0 : RH g (upd H1 dx (.own x)) M1 fl h1 := rh1.fresh hdx
  have hx0 : (upd H1 dx (.own x)) x = none := by rw [upd_ne (fun z => ne z.symm)]; exact hx
  have x1 : Ext (upd H1 dx (.own x)) M1 (upd (upd H1 dx (.own x)) x (.ins C dx [])) (M1.add x) := Ext.add hx0 r0
  have r1 : RH g (upd (upd H1 dx (.own x)) x (.ins C dx [])) (M1.add x) fl ⟨h1.o ++ [.ins cn []], h1.c⟩ := r0.add hx0 ⟨hc, .nil⟩
  refine ⟨.l h1.o.length :: ws, ⟨h1.o ++ [.ins cn []], h1.c⟩, M1.add x, fl, .cons (RW.added rh1) (RWs.mono x1 r0.sub (RWs.mono x0 rh1.sub rw1)), r1, ?_⟩
  refine po_wish (Po.bind (Po.ext (x0.trans x1) p1) fun w h2 v H2 M2 x2 rh2 rv p2 => ?_)
  cases rv with
  | d rv =>
    cases rv with
    | non =>
      refine ⟨rfl, p2 (.ref x) H2 M2 (Ext.refl H2 M2) rh2 (.l (x2.pre _ _ ?_))⟩
      show (M1.m ++ [x])[h1.o.length]? = some x
      rw [← rh1.len, List.getElem?_append_right (Nat.le_refl _), Nat.sub_self]
      rfl
    | _ => exact p2.elim
  | _ => exact p2.elim
theorem se_make {cn : Str} (hc : g.cm cn = some C) (Mk : L2.Mk X.K C f) (Fn : FnG X.prog X.w X.K X.mg X.base k f fd ps (spF g F)) (hr : Room (k + 1) X.A) (hgd : X.A.guards = some []) (hb : Binds X.K fd ps []) (tk : Takes X Z) (hm : X.mg x = some (.ref C)) (ha : PA X (e :: es) (rdA g Z ta))
    (hg : Gl X x := by rfl) (hdb : (x == ("__debug__" : Str)) = false := by decide) (he : starEach (e :: es) X.env = (false, eval e X.env) :: starEach es X.env := by rfl) (hpl : (backTo pos (starEach es X.env)).any (·.1) = false := by rfl) :
    PE X (.Call (.Name x p) (e :: es) [] pos) (rdE g Z (xMake cn F ta)) :=
  PE.imp (t := fun σ H Q => rdA g Z ta σ H fun vs H1 => ∀ x dx, H1 x = none → H1 dx = none → dx ≠ x → spF g F (.ref x :: vs) (upd (upd H1 dx (.own x)) x (.ins C dx [])) (fun v H2 => v = .non ∧ Q (.ref x) H2) (WE Z σ)) ⟨fun pins s σ H Q I h => by
    refine wpAny_Call_Name_kw (ld_glob I hg hm ?_ hdb)
    refine PySem.W.callWith_K (h₀ := X.base) I.ok.mod.kin Mk.kp (thn (ha.run pos pins s σ H _ I h) fun us s1 ⟨vs, H1, I1, r, q⟩ => ⟨I1.kIn, ?_⟩) he hpl
    exact run_makeG Mk Fn hr hgd hb (passAt tk σ) I1 r q⟩ fun σ H Q ⟨r, h, M, fl, rs, rh, q⟩ => ⟨r, h, M, fl, rs, rh, Po.bind q fun ws h1 vs H1 M1 e1 rh1 rw1 p1 => make_ok hc rh1 rw1 p1⟩
/-! ### more methods -/
@[simp] def fReverse (w : W) (as : List W) (h : Sto) : Re W := match as with
  | [] => onLst w h fun n ws => .ok (.d .non) ⟨h.o.set n (.lst ws.reverse), h.c⟩
  | _ => .stuck
theorem RWs.rev {vs : List V} {ws : List W} (q : RWs g H M vs ws) : RWs g H M vs.reverse ws.reverse := by
  induction q with
  | nil => exact .nil
  | cons a b ih =>
    rw [List.reverse_cons, List.reverse_cons]
    exact RWs.app1 ih a
theorem m_reverse : Mt X g Z "list.reverse" fReverse := ⟨_, mt_reverse, fun {σ H M fl h v w vs ws Q} rh rv rws q => by
  cases ws with
  | cons _ _ => exact q.elim
  | nil =>
    cases rws
    obtain ⟨n, a, us, ws, rfl, rfl, e1, e2, hv, ru, q⟩ := onLst_inv rh rv q
    exact ⟨a, us, rfl, rfl, hv, po_put rh e1 e2 (RWs.rev ru) (.d .non) (fun hc => ⟨hc, fun f _ hf y hy => hf y (List.mem_reverse.mp hy)⟩) q⟩⟩
end
end
end Xs

/-! XsW: constants of the text, list(range(..)). -/
namespace Xs
noncomputable section
open PySem PySem.Spec PyProof.Rows L2
section
variable {X : Cx} {g : G} {Z : WX} {a b c : Expr} {xa xb xc : XE} {pos p apos : Pos} {H : Hp} {M : Mu} {fl : List Nat} {h : Sto} {v : V} {w y : W} {σ : L2.St} {Q : VK} {x : Str}
/-- a constant of the text -/
theorem se_glob {u : Value} {d : D} (hm : X.mg x = some u) (r : RelV v u) (rd : ∀ H B, RD g H B v d) (hg : Gl X x := by rfl) (hd : (x == ("__debug__" : Str)) = false := by decide) : PE X (.Name x pos) (rdE g Z (xC d)) := se_of (pe_glob hg hm r hd) rd
theorem se_globI {u : Value} {i : Int} (hm : X.mg x = some u) (r : RelV (.int i) u) (hg : Gl X x := by rfl) (hd : (x == ("__debug__" : Str)) = false := by decide) : PE X (.Name x pos) (rdE g Z (xC (.int i))) := se_glob hm r (fun _ _ => .int i) hg hd
theorem se_globS {u : Value} {z : Str} (hm : X.mg x = some u) (r : RelV (.str z) u) (hz : PyData.strOk z = true := by decide +kernel) (hg : Gl X x := by rfl) (hd : (x == ("__debug__" : Str)) = false := by decide) : PE X (.Name x pos) (rdE g Z (xC (.str z))) := se_glob hm r (fun _ _ => .str z hz) hg hd
/-- list(range(n)) that stays -/
@[simp] def fRangeL (w : W) (h : Sto) : Re W := match w.int? with
  | some j => if small j = true ∧ j.toNat ≤ 16000000 then .ok (.d (.lst ((List.range j.toNat).map fun i => .int (i : Nat)))) h else .stuck
  | none => .stuck
theorem ints_up {B : Addr → Prop} : ∀ ns : List Nat, RDs g H B (ns.map fun i => V.int (0 + (i : Nat))) (ns.map fun i => D.int (i : Nat))
  | [] => .nil
  | n :: ns => by
    rw [List.map_cons, List.map_cons]
    refine .cons ?_ (ints_up ns)
    rw [Int.zero_add]
    exact .int _
theorem se_listRg {q1 q2 : Pos} (hc : X.calm = true) (hl : X.mg "list" = none) (hr : X.mg "range" = none) (ha : PE X a (rdE g Z xa)) (hg : Gl X "list" := by rfl) (hg2 : Gl X "range" := by rfl) (na : starEach [a] X.env = (false, eval a X.env) :: starEach [] X.env := by rfl) :
    PE X (.Call (.Name "list" q1) [.Call (.Name "range" q2) [a] [] p] [] pos) (rdE g Z (xUn fRangeL xa)) :=
  PE.imp (pe_listRg hc hg hl (prg_1 hg2 hr ha na)) fun σ H Q ⟨r, h, M, fl, rs, rh, p⟩ => ⟨r, h, M, fl, rs, rh, Po.bind p fun w h1 v H1 M1 e1 rh1 rw1 p1 => by
    simp only [fRangeL] at p1
    cases e : w.int? with
    | none => rw [e] at p1; exact p1.elim
    | some j =>
      rw [e] at p1
      simp only at p1
      obtain ⟨⟨q, q'⟩, p1⟩ := po_ifP p1
      rw [W.int?_some e] at rw1
      obtain rfl := rw1.int_inv
      have hs := small_iff.mp q
      refine ⟨j, rfl, ⟨by omega, by omega, hs.1, hs.2, by rw [Int.sub_zero]; omega⟩, fun D hD => ?_⟩
      have e2 : rgV 0 j = (List.range j.toNat).map fun i : Nat => V.int (0 + (i : Nat)) := by
        unfold rgV
        rw [Int.sub_zero]
      rw [e2]
      exact po_lst rh1 p1 (ints_up _) hD⟩
/-! ### d.get -/
def xDGet2 (o k d : XE) : XE := fun r h => (o r h).bind fun w h1 => if (dctOf h1 w).isSome = true then (k r h1).bind fun y h2 => (d r h2).bind fun z h3 => match dctOf h3 w, y.key? with
  | some kvs, some key => .ok ((look kvs key).getD z) h3
  | _, _ => .stuck else .stuck
theorem se_dget2 {o e f : Expr} {xo xe xf : XE} {cpos : Pos} (hu : X.A.units + 1 < cLine) (ho : PE X o (rdE g Z xo)) (he : PE X e (rdE g Z xe)) (hf : PE X f (rdE g Z xf)) (m : M2 X o "get" apos e f cpos) : PE X (.Call (.Attribute o "get" apos) [e, f] [] cpos) (rdE g Z (xDGet2 xo xe xf)) :=
  PE.imp (pe_dget2 hu ho he hf m) fun σ H Q ⟨r, h, M, fl, rs, rh, p⟩ => ⟨r, h, M, fl, rs, rh, Po.bind p fun w h1 v H1 M1 e1 rh1 rw1 p1 => by
    obtain ⟨q, p1⟩ := po_if p1
    obtain ⟨ws, hw⟩ := Option.isSome_iff_exists.mp q
    obtain ⟨a, xs, rfl, hv, _⟩ := dctOf_h rh1 rw1 hw
    refine ⟨a, rfl, .inl ⟨xs, .inl hv⟩, r, h1, M1, fl, rs.mono e1 rh.sub, rh1, Po.bind p1 fun y h2 yv H2 M2 e2 rh2 ry p2 => ⟨r, h2, M2, fl, (rs.mono e1 rh.sub).mono e2 rh1.sub, rh2, Po.bind p2 fun z h3 zv H3 M3 e3 rh3 rz p3 => ?_⟩⟩
    have rw3 := (rw1.mono e2 rh1.sub).mono e3 rh2.sub
    cases e4 : dctOf h3 w with
    | none => rw [e4] at p3; exact p3.elim
    | some kvs =>
      cases e5 : y.key? with
      | none => rw [e4, e5] at p3; exact p3.elim
      | some key =>
        rw [e4, e5] at p3
        simp only at p3
        obtain ⟨a', xs', ea, hv', rk⟩ := dctOf_h rh3 rw3 e4
        cases ea
        have hy := W.key?_some e5 ry
        subst hy
        refine ⟨_, DGet.k (k := key) hv', ?_⟩
        rcases rk.look key with ⟨l1, l2⟩ | ⟨v', w', l1, l2, rv⟩
        · rw [l1] at p3
          rw [l2]
          exact p3 _ H3 M3 (Ext.refl H3 M3) rh3 rz
        · rw [l1] at p3
          rw [l2]
          exact p3 _ H3 M3 (Ext.refl H3 M3) rh3 rv⟩
/-! ### dict(pairs) -/
@[simp] def pairsD : List D → Option (List (Key × D))
  | [] => some []
  | .tup [.str k, d] :: r => (pairsD r).map ((.inr k, d) :: ·)
  | .tup [.int k, d] :: r => (pairsD r).map ((.inl k, d) :: ·)
  | _ :: _ => none
theorem pairsD_ok {B : Addr → Prop} : ∀ {ds : List D} {kvs : List (Key × D)} {vs : List V}, pairsD ds = some kvs → RDs g H B vs ds → ∃ (ps : List Addr) (xs : List (Key × V)), vs = ps.map V.ref ∧ Paired (fun p kv => SqT g.K H p [kV kv.1, kv.2]) ps xs ∧ RDk g H B xs kvs := by
  intro ds
  induction ds with
  | nil =>
    intro kvs vs e r
    cases e
    cases r
    exact ⟨[], [], rfl, .nil, .nil⟩
  | cons d ds ih =>
    intro kvs vs e r
    cases r with
    | @cons v0 vs0 _ _ r1 r2 =>
      have one : ∀ (k : Key) (kd d' : D), d = .tup [kd, d'] → (∀ v, RD g H B v kd → v = kV k) → ∀ l, pairsD ds = some l → kvs = (k, d') :: l → ∃ (ps : List Addr) (xs : List (Key × V)), v0 :: vs0 = ps.map V.ref ∧ Paired (fun p kv => SqT g.K H p [kV kv.1, kv.2]) ps xs ∧ RDk g H B xs kvs := by
        intro k kd d' ed hk l el ek
        subst ed
        subst ek
        cases r1 with
        | tup h1 h2 =>
          cases h2 with
          | cons q1 q2 =>
            cases q2 with
            | cons q3 q4 =>
              cases q4
              obtain ⟨ps, xs, e1, e2, e3⟩ := ih el r2
              have := hk _ q1
              subst this
              exact ⟨_ :: ps, (k, _) :: xs, by rw [e1]; rfl, .cons h1 e2, .cons q3 e3⟩
      unfold pairsD at e
      split at e
      · rename_i he
        cases he
      · rename_i k d' r' he
        cases he
        simp only [Option.map_eq_some_iff] at e
        obtain ⟨l, el, rfl⟩ := e
        exact one (.inr k) (.str k) d' rfl (fun v hv => by cases hv; rfl) l el rfl
      · rename_i k d' r' he
        cases he
        simp only [Option.map_eq_some_iff] at e
        obtain ⟨l, el, rfl⟩ := e
        exact one (.inl k) (.int k) d' rfl (fun v hv => by cases hv; rfl) l el rfl
      · cases e
theorem RDk.put {B : Addr → Prop} {vs : List (Key × V)} {ds : List (Key × D)} (q : RDk g H B vs ds) (k : Key) {v : V} {d : D} (r : RD g H B v d) : RDk g H B (putK vs k v) (Xs.put ds k d) := by
  have hany : (vs.any fun kv => decide (kv.1 = k)) = ds.any fun kv => decide (kv.1 = k) := by
    induction q with
    | nil => rfl
    | cons a b ih => simp [ih]
  unfold putK Xs.put
  rw [hany]
  split
  · rename_i hh
    clear hany hh
    induction q with
    | nil => exact .nil
    | @cons k' v' vs' d' ds' a b ih =>
      rw [List.map_cons, List.map_cons]
      by_cases hk : k' = k
      · simp only [hk, if_true]
        exact .cons r ih
      · simp only [if_neg hk]
        exact .cons a ih
  · rename_i hh
    clear hany hh
    induction q with
    | nil => exact .cons r .nil
    | cons a b ih => exact .cons a ih
theorem RDk.merge {B : Addr → Prop} {vs : List (Key × V)} {ds : List (Key × D)} (q : RDk g H B vs ds) : RDk g H B (mergeK [] vs) (mergeS ds) := by
  have go : ∀ {vs : List (Key × V)} {ds : List (Key × D)} {as : List (Key × V)} {bs : List (Key × D)}, RDk g H B vs ds → RDk g H B as bs → RDk g H B (vs.foldl (fun acc kv => putK acc kv.1 kv.2) as) (ds.foldl (fun acc kv => Xs.put acc kv.1 kv.2) bs) := by
    intro vs ds as bs q
    induction q generalizing as bs with
    | nil => exact fun z => z
    | cons a b ih => exact fun z => ih (RDk.put z _ a)
  exact go q .nil
theorem po_dct {ds : List (Key × D)} {xs : List (Key × V)} {p : Addr} (rh : RH g H M fl h) (q : Po g Z σ fl (RW g) H M Q (.ok (.f ds) h)) (r : RDk g H M.B xs ds) (hp : H p = none) : Q (.ref p) (upd H p (.dK xs)) := by
  have x : Ext H M (upd H p (.dK xs)) (M.fz p) := Ext.freshF hp rh
  exact q _ _ (M.fz p) x (rh.freshF hp) (.f ⟨upd_same, fun z => z.2 rfl⟩ (RDk.mw (x.w rh.sub).d r))
@[simp] def fDict (w : W) (h : Sto) : Re W := match lstOf h w with
  | some ws => match pureL ws with
    | some ds => match pairsD ds with
      | some kvs => .ok (.f (mergeS kvs)) h
      | none => .stuck
    | none => .stuck
  | none => .stuck
theorem c_dict (hc : X.calm = true) (hK : X.K = g.K := by rfl) : Fn1 X g Z (.type "dict") (f1 fDict) := Fn1.one (call_dictP hc) fun {σ H M fl h v w Q} rh rw1 p => by
  simp only [fDict] at p
  cases e : lstOf h w with
  | none => rw [e] at p; exact p.elim
  | some ws =>
    rw [e] at p
    obtain ⟨a, xs, rfl, sq, hd⟩ := lstOf_sq rh rw1 e
    simp only at p
    cases e2 : pureL ws with
    | none => rw [e2] at p; exact p.elim
    | some ds =>
      rw [e2] at p
      rw [pureL_some e2] at hd
      simp only at p
      cases e3 : pairsD ds with
      | none => rw [e3] at p; exact p.elim
      | some kvs =>
        rw [e3] at p
        obtain ⟨ps, ys, rfl, h2, h3⟩ := pairsD_ok e3 (RWs.toD hd)
        exact ⟨a, ps, ys, rfl, by rw [hK]; exact sq, by rw [hK]; exact h2, fun q hq => po_dct rh p (RDk.merge h3) hq⟩
/-- nothing is let out of a comprehension -/
theorem takesN : Takes X (fun _ _ _ _ => False) := fun _ _ ⟨_, _, _, _, _, _, _, _, _, _, _, _, _, _, _, _, w⟩ => w.elim
end
end
end Xs

/-! XsX: all(..), any(..) of tests of signs. -/
namespace Xs
noncomputable section
open PySem PySem.Spec PyProof.Rows L2
/-- the test elt of the sign x, where what was known before the def stands -/
def EltG (X : Cx) (sc : Scope) (x : Str) (elt : Expr) (pb : Nat → Bool) : Prop :=
  ∀ (env : PySem.Env) (A' : Around) (Z' : Value → Shared → Prop) (z : Nat) (t : Tok) (s : Shared) (m : Str → Option Value), env.scope = sc → env.globals = mainGlobals → s.heap.Ns mainGlobals X.mg → s.heap.Ns env.locals m → m x = some (.str ⟨#[z]⟩ t) →
    wpAny (model X.prog X.w) A' (eval elt env) (fun y s' => y = .bool (pb z) ∧ Keeps s s') Z' s
section
variable {X : Cx} {pins : List (Addr × Obj)} {σ : L2.St} {H : Hp} {s : Shared}
/-- a global of the module, read there -/
theorem ldg {env : PySem.Env} {A' : Around} {Z' : Value → Shared → Prop} {y : Str} {u : Value} {pos : Pos} {Q : Value → Shared → Prop} {s : Shared} (hk : env.scope.kind = .function) (hl : env.kindOf y = some .globalImplicit) (hg : env.globals = mainGlobals) (hn : s.heap.Ns mainGlobals X.mg) (hm : X.mg y = some u)
    (hd : (y == ("__debug__" : Str)) = false) (h : Q u s) : wpAny (model X.prog X.w) A' (eval (.Name y pos) env) Q Z' s :=
  Calls.Name_function_global hk hl (Calls.loadGlobal_global (by rw [hg]; exact hn) hm h) hd
/-- x in NAME, the text z -/
theorem elt_in {sc : Scope} {x y z : Str} {u : Value} {p1 p2 p3 : Pos} (hm : X.mg y = some u) (hu : RelV (.str z) u) (hk : sc.kind = .function := by rfl) (hx : sc.names.lookup x = some .local := by rfl) (hy : sc.names.lookup y = some .globalImplicit := by rfl)
    (hd : (x == ("__debug__" : Str)) = false := by decide) (hd2 : (y == ("__debug__" : Str)) = false := by decide) : EltG X sc x (.Compare (.Name x p1) [.In] [.Name y p2] p3) (fun c => Txt.contains z ⟨#[c]⟩) := by
  intro env A' Z' c t s m e1 e2 n1 n2 hc
  subst e1
  obtain ⟨tk, rfl⟩ := (show ∃ t, u = Value.str z t from hu)
  refine wpAny_Compare1 ?_
  refine wpAny_Name (wpAny_loadName_local hk hx n2 hc ?_) hd
  refine ldg hk hy e2 n1 hm hd2 ?_
  exact PySem.P.in_str ⟨rfl, GxR.keeps_tok _ _⟩
/-- one or the other -/
theorem elt_or {sc : Scope} {x : Str} {a b : Expr} {p : Pos} {pa pb : Nat → Bool} (ha : EltG X sc x a pa) (hb : EltG X sc x b pb) : EltG X sc x (.BoolOp .Or [a, b] p) (fun c => pa c || pb c) := by
  intro env A' Z' c t s m e1 e2 n1 n2 hc
  refine BoolOp_or (wpAny_mono (ha env A' Z' c t s m e1 e2 n1 n2 hc) (fun y s1 ⟨ey, h1, k1, es, kp⟩ => ?_) fun _ _ z => z)
  subst ey es
  refine wpAny_truthy_bool ?_
  cases ec : pa c with
  | true => exact ⟨by show Value.bool true = Value.bool (pa c || pb c); rw [ec]; rfl, h1, k1, rfl, kp⟩
  | false =>
    refine BoolOp_one (wpAny_mono (hb env A' Z' c t _ m e1 e2 (n1.keeps kp) (n2.keeps kp) hc) (fun y s2 ⟨ey, h2, k2, es, kp2⟩ => ?_) fun _ _ z => z)
    subst ey es
    exact ⟨by show Value.bool (pb c) = Value.bool (pa c || pb c); rw [ec]; rfl, h2, k2, rfl, fun b o z => kp2 b o (kp b o z)⟩
/-- the generator over the signs of a text, made -/
theorem gen_txt {c P : Addr} {elt iter : Expr} {x : Str} {px gpos : Pos} {sc : Scope} {pb : Nat → Bool} {te : TE} {k : Nat} {Q' : Value → Shared → Prop} {R : Str → Hp → Prop} (hr : Room k X.A) (TB : GxR.TabB X.base X.mg c P) (hcode : X.env.code = .ref c)
    (S : GxR.GenS X.env sc x) (hi : PE X iter te) (hel : EltG X sc x elt pb) (hs : ∀ v, genFold iter X.env v = pure v) (I : Inv X pins σ H s) (h : te σ H fun v H1 => ∃ a : Str, v = .str a ∧ GxR.TabG H1 P ∧ R a H1)
    (hQ : ∀ a H1 g s5, R a H1 → GxR.Ready X pins σ H1 P a pb g s5 → Q' (.ref g) s5) : wpAny (model X.prog X.w) X.A (eval (.GeneratorExp elt [⟨.Name x px, iter, [], 0⟩] sc gpos) X.env) Q' X.xe s := by
  have few : X.A.depth < recursionLimit := by
    have d := hr.dp
    omega
  refine wpAny_GeneratorExp_walksQ hr.hd S.co (closure_ok S.free) S.cell S.dot S.loc S.kind few ?_ hs
  refine thn (hi.run pins s σ H _ I h) fun xv sa ⟨v, H1, I1, r1, a, ev, ⟨ps, hP, ht⟩, q1⟩ => ?_
  subst ev
  obtain ⟨tk0, ev⟩ : ∃ t, xv = Value.str a t := r1
  subst ev
  refine wpAny_pyIter_str fun o St W st0 => ?_
  have objP := I1.hok P _ hP
  replace objP : sa.heap.get? P = some { cls := .none, data := .fields ps } := objP
  have ltP := Heap.lt_size objP
  generalize hN : sa.heap.objs.size = N at *
  have oldN : ∀ b u, sa.heap.get? b = some u → b < N := fun b u e => by rw [← hN]; exact Heap.lt_size e
  have up : ∀ b u, sa.heap.get? b = some u → (sa.heap.push o).get? b = some u := fun b u e => Heap.get?_push_of_some _ e
  have size2 : (sa.heap.push o).objs.size = N + 1 := by rw [Heap.size_push, hN]
  have hdC : PySem.W.CodeHd (sa.heap.push o) c P := TB.code.keeps fun b u e => up b u (I1.bk b u e)
  have nolim := I1.nolimit.push o
  obtain ⟨statO, hstat⟩ : ∃ ob, sa.heap.get? cStatics = some ob ∧ ∃ es ep, ob.data = .dict es ep := by
    obtain ⟨_, ⟨ob, es, ep, e, d, _⟩, _⟩ := I1.nolimit
    exact ⟨ob, e, es, ep, d⟩
  obtain ⟨estat, es0, ep0, dstat⟩ := hstat
  have statP : cStatics ≠ P := fun e => by
    rw [e, objP] at estat
    cases estat
    cases dstat
  have rest : ∀ (code : Value) (h3 : Heap) (tk : Nat) (more : Array Value), Heap.ExtBut P (sa.heap.push o) h3 → N + 1 ≤ h3.objs.size → h3.get? P = some { cls := .none, data := .fields (ps ++ more) } → TriplesOk (ps ++ more).toList →
      wpAny (model X.prog X.w) X.A (builtinsFor X.env.globals X.env.builtins) (fun bi s₄ =>
        ∃ Ia fp wr n₀ Pf St₀ pz F, Value.ref N = .ref Ia ∧ (∀ A' : Around, A'.handled = none → Walks X.prog X.w A' Ia fp wr n₀ Pf St₀) ∧ St₀ 0 s₄.heap ∧ (∀ b ∈ fp, b < s₄.heap.objs.size) ∧ s₄.heap.NoLimit ∧ cStatics ∉ wr ∧
          (∀ old : Heap, (∀ b u, s₄.heap.get? b = some u → old.get? b = some u) →
            QuietGen X.prog X.w (genEnv sc (cloFrom X.env.cells sc.names []) s₄.heap.objs.size code bi X.env) x [] elt (List.range s₄.heap.objs.size) wr Pf pz F old) ∧
          (∀ g h₅ tk gs, gs.bare = true → s₄.heap.objs.size < g → h₅.objs.size = g + 1 → (∀ b u, s₄.heap.get? b = some u → h₅.get? b = some u) →
            WalksS X.prog X.w X.A.in4 g (g :: s₄.heap.objs.size :: List.range s₄.heap.objs.size) (s₄.heap.objs.size :: wr) (GenOnlyQ s₄.gens.size) (passing pz n₀ 0).length
              (fun j y => ∃ i, (passing pz n₀ 0)[j]? = some i ∧ F i y) (GenAt X.prog X.w X.A.in4 g s₄.gens.size s₄.heap.objs.size (List.range s₄.heap.objs.size) wr pz n₀ F) →
            GenAt X.prog X.w X.A.in4 g s₄.gens.size s₄.heap.objs.size (List.range s₄.heap.objs.size) wr pz n₀ F 0 { s₄ with gens := s₄.gens.push gs, toks := tk, heap := h₅ } →
            Q' (.ref g) { s₄ with gens := s₄.gens.push gs, toks := tk, heap := h₅ })) X.xe { sa with heap := h3, toks := tk } := by
    intro code h3 tk more ext sz3 objP3 ht3
    have through : ∀ b u, b ≠ P → sa.heap.get? b = some u → h3.get? b = some u := fun b u nb e => ext b u nb (up b u e)
    obtain ⟨bm, ob, m1, m2, m3, m4, m5, m6, m7, m8⟩ := TB.bm
    refine wpAny_builtinsFor (m := X.mg) (by rw [I1.ok.glob]; exact ((I1.mod.glob.keeps I1.bk).push o).extBut ext TB.gP) m1 m2 (through bm ob m4 (I1.bk bm ob m5)) m6 m7 m8 ?_
    refine ⟨N, [N], [N], a.cps.size, SignAt a, St, fun _ => true, fun i y => ∃ z, a.cps[i]? = some z ∧ y = .bool (pb z), rfl, W, ?_, fun b hb => ?_, nolim.extBut ext statP, fun z => ?_, fun old hold => ⟨?_, ?_⟩, ?_⟩
    · refine (W X.A hr.hd).frame _ _ _ st0 fun b hb u e => ext b u (fun y => ?_) e
      rw [List.mem_singleton.mp hb] at y
      rw [← y] at ltP
      exact absurd ltP (Nat.lt_irrefl _)
    · rw [List.mem_singleton.mp hb]
      exact Nat.lt_of_lt_of_le (Nat.lt_succ_self N) sz3
    · have y := oldN _ _ estat
      rw [List.mem_singleton.mp z] at y
      exact absurd y (Nat.lt_irrefl _)
    · intro A' E' i v s₂ m₂ hA hPv hn hm hk
      rw [List.forIn_nil]
      exact wpAny_pure ⟨rfl, GxR.keeps_refl _⟩
    · intro A' E' i v s₂ m₂ hA hPv hp hn hm hk
      obtain ⟨z, u, hz, ev⟩ := hPv
      subst ev
      have gl : s₂.heap.Ns mainGlobals X.mg := by
        have e0 : h3.Ns mainGlobals X.mg := ((I1.mod.glob.keeps I1.bk).push o).extBut ext TB.gP
        refine e0.at' fun u e => hk mainGlobals (List.mem_range.mpr (Heap.lt_size e)) (fun y => ?_) u (hold _ u e)
        obtain ⟨og, _, _, eg, _⟩ := I1.mod.glob.keeps I1.bk
        have y2 := oldN _ _ eg
        rw [List.mem_singleton.mp y] at y2
        exact absurd y2 (Nat.lt_irrefl _)
      exact wpAny_mono (hel _ A' E' z u s₂ m₂ rfl I1.ok.glob gl hn hm) (fun y s3 r => ⟨⟨z, hz, r.1⟩, r.2⟩) fun _ _ e => e
    · intro g h5 tk5 gs hgb hag hsz5 hk5 W5 hat
      have len : (passing (fun _ => true) a.cps.size 0).length = a.cps.size := by rw [GxR.passing_true, List.length_range]
      rw [len] at W5
      refine hQ a H1 g _ q1 ⟨_, _, _, _, _, W5.in4_1, hat, ?_, fun s' hm => ?_⟩
      · rintro j y sj Qj Ej ⟨i, hij, z, hz, ey⟩ hQj
        subst ey
        rw [GxR.passing_true] at hij
        obtain ⟨hj, ej⟩ := List.getElem?_eq_some_iff.mp hij
        rw [List.getElem_range] at ej
        subst ej
        have ez : a.cps.toList[j]? = some z := by rw [Array.getElem?_toList]; exact hz
        rw [show GxR.trF pb a.cps.toList j = pb z from GxR.trF_some ez] at hQj
        exact wpAny_truthy_bool hQj
      · have apart : ∀ b u, sa.heap.get? b = some u → b ∉ h3.objs.size :: [N] := fun b u e hb => by
          have y := oldN b u e
          rcases List.mem_cons.mp hb with z | z
          · rw [z] at y
            exact absurd (Nat.lt_of_lt_of_le (Nat.lt_succ_of_lt y) sz3) (Nat.lt_irrefl _)
          · rw [List.mem_singleton.mp z] at y
            exact absurd y (Nat.lt_irrefl _)
        have J := GxR.inv_tab (more := more) (h' := s'.heap) (g' := s'.gens) (d' := s'.drawn) (t' := s'.toks) I1 hP (fun b u hb e => hm.heap b u (apart b u e) (hk5 b u (through b u hb e))) (hm.heap P _ (apart P _ objP) (hk5 P _ objP3)) (AllBare.movedS (I1.bare.push hgb) hm)
        rw [GxR.sh_eta sa s' hm.os] at J
        exact ⟨upd H1 P (.tbl (ps ++ more)), ⟨⟨ps ++ more, upd_same, ht3⟩, fun b hb => upd_ne hb⟩, J⟩
  refine ⟨nolim, ?_⟩
  have objP2 := up P _ objP
  cases hf : codeAmong gpos ps.toList with
  | some cv =>
    refine wpAny_genexprCode_hit hcode (hdC.code objP2 ht) hf (rest cv (sa.heap.push o) sa.toks #[] (Heap.ExtBut.refl _ _) (by rw [size2]; exact Nat.le_refl _) ?_ ?_)
    · rw [Array.append_empty]
      exact objP2
    · rw [Array.append_empty]
      exact ht
  | none =>
    refine wpAny_genexprCodeX hcode (hdC.code objP2 ht) (hdC.tab objP2) hf fun c' h' tk ext ge lt co _ tb _ => ?_
    obtain ⟨_, _, _, _, _, _, _, _, _, _, _, _, _, _, _, _, _, _, _, tr, _⟩ := co
    exact rest _ h' tk _ ext (by rw [← size2]; exact Nat.le_trans ge (Nat.le_of_lt lt)) tb.2 tr
end
section
variable {X : Cx} {g : G} {Z : WX} {H H2 : Hp} {M : Mu} {fl : List Nat} {h : Sto}
/-- a table that has grown -/
theorem tab_ext {P : Addr} (rh : RH g H M fl h) (hp : ∃ c, (c, P) ∈ g.tb) (T : GxR.Tabbed P H H2) : Ext H M H2 M ∧ RH g H2 M fl h := by
  obtain ⟨c, hp⟩ := hp
  obtain ⟨ps, e0, _⟩ := rh.tb _ hp
  obtain ⟨⟨ps', e1, t1⟩, same⟩ := T
  have ne : ∀ {a : Addr} {u : HO}, H a = some u → (∀ q, u ≠ .tbl q) → a ≠ P := fun e n z => by
    rw [z, e0] at e
    cases e
    exact n _ rfl
  have x : Ext H M H2 M := by
    refine ⟨fun _ _ e => e, fun a o e n => ⟨?_, n⟩, fun _ _ _ => Iff.rfl, fun a xs e => ?_, fun a o u e => ?_, fun a o e => ?_⟩
    · by_cases z : a = P
      · subst z
        rw [e0] at e
        cases e
        exact ⟨ps', e1, fun _ => t1⟩
      · refine .of ?_
        rw [same a z]
        exact e
    · rw [same a (ne e fun q z => nomatch z)]
      exact e
    · rw [same a (ne e fun q z => nomatch z)]
      exact e
    · by_cases z : a = P
      · rw [z]
        exact ⟨_, e1⟩
      · exact ⟨o, by rw [same a z]; exact e⟩
  exact ⟨x, rh.ext x rfl rh.sub fun a ha => same a fun z => rh.tb_m hp (by rw [← z]; exact ha)⟩
@[simp] def xAllT (b : Nat → Bool) (e : XE) : XE := fun r h => (e r h).bind fun w h1 => match w.str? with
  | some z => .ok (.d (.bl (z.cps.toList.all b))) h1
  | none => .stuck
theorem se_allT {c P : Addr} {elt iter : Expr} {x : Str} {px p pos gpos : Pos} {sc : Scope} {pb : Nat → Bool} {xi : XE} {k : Nat} (hr : Room k X.A) (hg : Gl X "all") (hm : X.mg "all" = none) (ht : (c, P) ∈ g.tb) (TB : GxR.TabB X.base X.mg c P)
    (hcode : X.env.code = .ref c) (S : GxR.GenS X.env sc x) (hi : PE X iter (rdE g Z xi)) (hel : EltG X sc x elt pb) (hs : ∀ v, genFold iter X.env v = pure v)
    (he : starEach [.GeneratorExp elt [⟨.Name x px, iter, [], 0⟩] sc gpos] X.env = (false, eval (.GeneratorExp elt [⟨.Name x px, iter, [], 0⟩] sc gpos) X.env) :: starEach [] X.env := by rfl) :
    PE X (.Call (.Name "all" p) [.GeneratorExp elt [⟨.Name x px, iter, [], 0⟩] sc gpos] [] pos) (rdE g Z (xAllT pb xi)) := by
  refine ⟨fun pins s σ H Q I ⟨r, h, M, fl, rs, rh, q⟩ => ?_⟩
  have key : rdE g Z xi σ H fun v H1 => ∃ a : Str, v = .str a ∧ GxR.TabG H1 P ∧ ∀ H2, GxR.Tabbed P H1 H2 → Q (.bl (a.cps.toList.all pb)) H2 := by
    refine ⟨r, h, M, fl, rs, rh, Po.bind q fun w h1 v H1 M1 e1 rh1 rw1 p1 => ?_⟩
    cases ew : w.str? with
    | none => rw [ew] at p1; exact p1.elim
    | some z =>
      rw [ew] at p1
      rw [W.str?_some ew] at rw1
      refine ⟨z, rw1.str_inv.1, rh1.tb _ ht, fun H2 T => ?_⟩
      obtain ⟨x2, rh2⟩ := tab_ext rh1 ⟨c, ht⟩ T
      exact p1 _ H2 M1 x2 rh2 (.d (.bl _))
  refine wpAny_Call_Name_kw (ld_blt I hg hm boot_all ?_)
  refine PyProof.Rows.callWith_builtin1 ?_ he (by rfl)
  rw [he]
  show wpAny _ _ (spliced ((false, eval (.GeneratorExp elt [⟨.Name x px, iter, [], 0⟩] sc gpos) X.env) :: backTo pos (starEach [] X.env))) _ _ s
  refine Calls.spliced_cons (gen_txt (R := fun a H1 => ∀ H2, GxR.Tabbed P H1 H2 → Q (.bl (a.cps.toList.all pb)) H2) hr TB hcode S hi hel hs I key fun a H1 n s5 hR ⟨fp, wr, G, F, Sx, W, st, tr, fin⟩ => ?_)
  refine Calls.spliced_nil (call_all_walkS (W.self 0 _ _ _ st ⟨n, fp, wr, G, _, F, Sx, _, rfl, W, st, tr, fun s' mv => ?_⟩))
  obtain ⟨H2, hT, J⟩ := fin s' mv
  exact ⟨.bl _, H2, J, rfl, by rw [GxR.all_signs a pb]; exact hR H2 hT⟩
end
end
end Xs

/-! XsY: enumerate over what stays; the module's own dicts. -/
namespace Xs
noncomputable section
open PySem PySem.Spec PyProof.Rows L2
set_option maxHeartbeats 4000000 in
theorem meets_en1 {v : Value} {o : Obj} {H : Heap → Prop} (B : Begins v o H) :
    Meets (Builtin.«enumerate.__new__» ⟨[.type "enumerate", v], []⟩) (fun _ R s => H s.heap ∧
      R (.ok (.ret (.ref (s.heap.push o).objs.size))) { s with heap := (s.heap.push o).push { cls := .type "enumerate", data := .fields #[.none, .bool false, .ref s.heap.objs.size, rawInt 0, .none, .none] } }) :=
  .of_wp fun prog w A R s h => by
    obtain ⟨hp, gs, dr, tk, os⟩ := s
    obtain ⟨h1, h2⟩ := h
    have hsub := sub_enumerate
    have start : ∀ {A' : Around} {E : Value → Shared → Prop} {Q : Value → Shared → Prop}, Q (.ref hp.objs.size) ⟨hp.push o, gs, dr, tk, os⟩ → wpAny (model prog w) A' (pyIter v) Q E ⟨hp, gs, dr, tk, os⟩ :=
      fun q => B.iter prog w _ _ ⟨hp, gs, dr, tk, os⟩ _ h1 q
    wp_walk using start
    refine wpAny_stack_any fun st => wpAny_pure ?_
    split
    · rename_i c _ _ _ _ _
      cases (c == Value.type "enumerate")
      all_goals
        wp_walk using start
        exact ⟨_, rfl, h2⟩
    · wp_walk using start
      exact ⟨_, rfl, h2⟩
section
variable {prog : Program} {w : World} {A : Around} {E : Value → Shared → Prop} {s : Shared}
theorem call_en1 {v : Value} {o : Obj} {H : Heap → Prop} {Q : Value → Shared → Prop} (B : Begins v o H) (h1 : H s.heap)
    (h : ∀ h', IsEnum h' (s.heap.objs.size + 1) s.heap.objs.size 0 .none → h'.get? s.heap.objs.size = some o → h'.objs.size = s.heap.objs.size + 2 → (∀ b o, s.heap.get? b = some o → h'.get? b = some o) → Q (.ref (s.heap.objs.size + 1)) { s with heap := h' }) :
    wpAny (model prog w) A (call (.type "enumerate") [v]) Q E s := by
  refine callType_new F.called_enumerate (by decide) (F.typeCall_enumerate_1 _) (F.newCall_enumerate_1 _) (fun obj => F.args_object_init_2 obj _) F.entry_enumerate_new (meets_en1 B) ⟨h1, ?_⟩
  have n1 : (s.heap.push o).objs.size = s.heap.objs.size + 1 := Heap.size_push ..
  show _ ∧ _
  have rc : IsEnum ((s.heap.push o).push { cls := .type "enumerate", data := .fields #[.none, .bool false, .ref s.heap.objs.size, rawInt 0, .none, .none] }) (s.heap.push o).objs.size s.heap.objs.size 0 .none := Heap.get?_push_size _ rfl
  rw [n1] at rc ⊢
  refine ⟨⟨_, rc, rfl⟩, h _ rc (Heap.get?_push_of_some _ (Heap.get?_push_size _ B.free)) ?_ fun b u e => Heap.get?_push_of_some _ (Heap.get?_push_of_some _ e)⟩
  rw [Heap.size_push, n1]
end
/-- what is drawn from by the iterator at it: the values src -/
structure Drw (K : PySem.W.Frag) (it : Addr) (N : Nat) (src : Hp → List V → Prop) (t0 : Nat → Heap → Prop) : Prop where
  len : ∀ H xs, src H xs → xs.length = N
  live : ∀ i h, t0 i h → ∃ o, h.get? it = some o ∧ ∀ v, o.data ≠ .cell v
  keep : ∀ i h h', t0 i h → (∀ o, h.get? it = some o → h'.get? it = some o) → t0 i h'
  one : ∀ (X : Cx) pins σ H s xs ys, X.K = K → Inv X pins σ H s → src H xs → src H ys → xs = ys
  dr : ∀ (X : Cx) pins σ H s xs i, X.K = K → X.calm = true → Inv X pins σ H s → src H xs → t0 i s.heap → ∃ fp P St, Draws X.prog X.w X.A.in1 it fp xs.length P St ∧ St i s.heap ∧ (∀ h', St (i + 1) h' → t0 (i + 1) h') ∧
    (∀ b ∈ fp, b = it ∨ ∃ o, s.heap.get? b = some o ∧ o.cls = .type "tuple") ∧ ∀ x, P i x → ∀ y, xs[i]? = some y → RelV y x
def Iten (src : Hp → List V → Prop) : It :=
  ⟨fun i H => ∃ (xs : List V) (x : V), src H xs ∧ xs[i]? = some x, fun i H v H' => ∃ T x, v = .ref T ∧ H T = none ∧ H' = upd H T (.tup [.int (i : Nat), x]) ∧ ∀ xs, src H xs → xs[i]? = some x, fun i H => ∃ xs : List V, src H xs ∧ xs.length ≤ i⟩
theorem turn_en {P : Program} {w : World} {K : PySem.W.Frag} {elts : List Expr} {kk : Nat} {tpos : Pos} {src : Hp → List V → Prop} {t0 : Nat → Heap → Prop} {e it : Addr} {N : Nat} (D : Drw K it N src t0) (hne : e ≠ it) :
    Turn P w K (.Tuple elts kk tpos) (Iten src) [e, it] e (fun i h => (∃ old, IsEnum h e it ((i : Nat) : Int) old) ∧ t0 i h ∧ i ≤ N) where
  mem := List.mem_cons_self
  obj := fun i h st b hb => by
    obtain ⟨⟨old, he⟩, ht, _⟩ := st
    rcases List.mem_cons.mp hb with z | z
    · rw [z]; exact ⟨_, he, fun v q => nomatch q⟩
    · rw [List.mem_singleton.mp z]; exact D.live i h ht
  keep := fun i h h' ⟨⟨old, he⟩, ht, hN⟩ k => ⟨⟨old, k e List.mem_cons_self _ he⟩, D.keep i h h' ht (k it (List.mem_cons_of_mem _ List.mem_cons_self)), hN⟩
  item := by
    rintro X rfl rfl rfl hc i pins s σ H E I hf ⟨⟨old, he⟩, ht, hN⟩ ⟨xs, x, hq, hx⟩
    obtain ⟨fp, Pv, Sv, dr, st, nx, far, rel⟩ := D.dr X pins σ H s xs i rfl hc I hq ht
    have ltE := Heap.lt_size he
    obtain ⟨oi, hoi, _⟩ := D.live _ _ ht
    have ltI := Heap.lt_size hoi
    have hi : i < xs.length := (List.getElem?_eq_some_iff.mp hx).1
    have efp : e ∉ fp := fun z => by
      rcases far e z with y | ⟨o, eo, co⟩
      · exact hne y
      · have he' : s.heap.get? e = some _ := he
        rw [he'] at eo
        cases eo
        simp at co
    refine wpAny_pyNext_enum_itemD dr he st hi hne efp fun u h' tk hu out st' hT hz hk => ?_
    have apart : ∀ b ∈ [e, it], b < s.heap.objs.size := fun b hb => by
      rcases List.mem_cons.mp hb with z | z
      · rw [z]; exact ltE
      · rw [List.mem_singleton.mp z]; exact ltI
    refine ⟨_, rfl, wpAny_letOwnedTupleGo_enum (s := { s with heap := h', toks := tk + 1 }) out fun h2 he2 same => ?_⟩
    have ru := rel u hu x hx
    have tup : h2.get? s.heap.objs.size = some { cls := .type "tuple", data := .seq #[.int i tk, u] } := (same.2 _ (Nat.ne_of_gt ltE)).trans hT
    have new : ObjOk X.prog X.w (upd H s.heap.objs.size (.tup [.int (i : Nat), x])) h2 s.heap.objs.size (.tup [.int (i : Nat), x]) := ⟨by show 2 ≤ sizeLine; decide, [.int i tk, u], .cons ⟨_, rfl⟩ (.cons ru .nil), ⟨_, tup, rfl, _, rfl⟩⟩
    have stay : ∀ b ob, b ∉ [e, it] → s.heap.get? b = some ob → h2.get? b = some ob := fun b ob nb q => by
      have n1 : b ≠ e := fun z => nb (by rw [z]; exact List.mem_cons_self)
      have n2 : b ≠ it := fun z => nb (by rw [z]; exact List.mem_cons_of_mem _ List.mem_cons_self)
      exact (same.2 b n1).trans (hk b ob n1 n2 q)
    have J := I.turnedNew (t' := tk + 1) stay hf (Nat.le_refl _) new
    refine ⟨.ref s.heap.objs.size, _, J, rfl, ⟨_, x, rfl, I.hok.fresh (Nat.le_refl _), rfl, fun ys hy => by rw [D.one X pins σ H s ys xs rfl I hy hq]; exact hx⟩, ⟨⟨u, ?_⟩, D.keep _ h' h2 (nx h' st') (fun o q => (same.2 it (Ne.symm hne)).trans q), by have := D.len H xs hq; omega⟩, fun b hb => ?_⟩
    · rw [show ((i + 1 : Nat) : Int) = (i : Int) + 1 by omega]
      exact he2
    · rw [upd_ne (Nat.ne_of_lt (apart b hb))]
      exact (hf b hb).1
  done := by
    rintro X rfl rfl rfl hc i pins s σ H E I hf ⟨⟨old, he⟩, ht, hN⟩ ⟨xs, hq, hx⟩
    have hx : i = xs.length := by have := D.len H xs hq; omega
    subst hx
    obtain ⟨fp, Pv, Sv, dr, st, nx, far, rel⟩ := D.dr X pins σ H s xs xs.length rfl hc I hq ht
    obtain ⟨f0, f1, f2, f3, f4, f5⟩ := hf it (List.mem_cons_of_mem _ List.mem_cons_self)
    exact wpAny_pyNext_enum_endD dr he st fun h' eb => ⟨rfl, I.turned (t' := s.toks) (fun b o hb q => eb b o hb q) f0 f1 f3 f4 f5⟩
  self := fun A i s Q E st h => by
    obtain ⟨⟨_, he⟩, _⟩ := st
    exact wpAny_pyIter_enum he h
def srcT (K : PySem.W.Frag) (a : Addr) (n : Nat) : Hp → List V → Prop := fun H xs => SqT K H a xs ∧ xs.length = n
def srcS (x : Str) : Hp → List V → Prop := fun _ xs => xs = x.cps.toList.map fun c => V.str ⟨#[c]⟩
theorem drw_tup {K : PySem.W.Frag} {it a : Addr} {n : Nat} : Drw K it n (srcT K a n) (fun i h => h.IsTupleIter it a i) where
  len := fun H xs h => h.2
  live := fun i h st => by
    obtain ⟨o, e, c, d⟩ := st
    exact ⟨o, e, fun v z => by rw [d] at z; cases z⟩
  keep := fun i h h' st k => st.at fun o e => k o e
  one := by
    rintro X pins σ H s xs ys rfl I h1 h2
    exact I.tuple_inj h1.1 h2.1
  dr := by
    rintro X pins σ H s xs i rfl hc I hq st
    obtain ⟨its, rv, p, hz⟩ := I.tuple hq.1
    have hp : s.heap.IsTuple a its.toArray := p
    obtain ⟨ot, et, ct, nt, dt⟩ := id hp
    have ne : a ≠ it := fun z => by
      obtain ⟨o, e, c, d⟩ := id st
      rw [z, e] at et
      cases et
      rw [c] at ct
      simp at ct
    have dr := Draws.tuple (prog := X.prog) (w := X.w) (A := X.A.in1) (I.ok.hd hc) it a ne its.toArray
    have len : its.toArray.size = xs.length := by rw [List.size_toArray]; exact rv.length.symm
    rw [len] at dr
    refine ⟨_, _, _, dr, ⟨st, hp⟩, fun h' z => z.1, fun b hb => ?_, fun x hx y hy => ?_⟩
    · rcases List.mem_cons.mp hb with z | z
      · exact .inl z
      · rw [List.mem_singleton.mp z]
        exact .inr ⟨ot, et, ct⟩
    · obtain ⟨u, hu, ru⟩ := rv.get hy
      have hx' : its[i]? = some x := by simpa using hx
      rw [hx'] at hu
      cases hu
      exact ru
theorem drw_str {K : PySem.W.Frag} {it : Addr} {x : Str} {t : Tok} : Drw K it x.cps.size (srcS x) (fun i h => h.IsStrIter it (strIterType x) x t i) where
  len := fun H xs h => by rw [h, List.length_map]; simp
  live := fun i h st => by
    obtain ⟨o, e, c, d⟩ := st
    exact ⟨o, e, fun v z => by rw [d] at z; cases z⟩
  keep := fun i h h' st k => let ⟨o, ho, r⟩ := st; ⟨o, k o ho, r⟩
  one := fun X pins σ H s xs ys _ _ h1 h2 => h1.trans h2.symm
  dr := by
    rintro X pins σ H s xs i rfl hc I hq st
    have dr := Draws.text (prog := X.prog) (w := X.w) (A := X.A.in1) (I.ok.hd hc) it x t
    have len : x.cps.size = xs.length := by rw [hq, List.length_map]; simp
    rw [len] at dr
    refine ⟨_, _, _, dr, st, fun h' z => z, fun b hb => .inl (List.mem_singleton.mp hb), fun u hu y hy => ?_⟩
    obtain ⟨c, tk, hc2, rfl⟩ := hu
    rw [hq, List.getElem?_map, Array.getElem?_toList, hc2] at hy
    cases hy
    exact ⟨tk, rfl⟩
/-- pairs of index and item -/
def pairUp (ds : List D) : List W := ds.mapIdx fun i d => .d (.tup [.int (i : Nat), d])
theorem pairUp_get (ds : List D) (i : Nat) : (pairUp ds)[i]? = (ds[i]?).map fun d => .d (.tup [.int (i : Nat), d]) := by
  unfold pairUp
  rw [List.getElem?_mapIdx]
def signs (s : Str) : List D := s.cps.toList.map fun c => .str ⟨#[c]⟩
def enSrc : W → Option (List D)
  | .d (.tup ds) => some ds
  | .d (.str s) => some (signs s)
  | _ => none
@[simp] def iEn (a : XE) : XI := fun r h => (a r h).bind fun w h1 => match enSrc w with
  | some ds => .ok (ds.length + 1, nL (pairUp ds)) h1
  | none => .stuck
section
variable {X : Cx} {g : G} {Z : WX} {H : Hp} {M : Mu}
theorem ItOk.en {src : Hp → List V → Prop} {xs : List V} {ds : List D} (sb : Sub M) (hs : ∀ {H' M'}, Ext H M H' M' → src H' xs) (hd : RDs g H M.B xs ds) : ItOk g (Iten src) (nL (pairUp ds)) H M := fun fl i H1 M1 h1 x rh => by
  have s1 : src H1 xs := hs x
  have d1 : RDs g H1 M1.B xs ds := hd.mono x sb
  refine ⟨fun e => ?_, fun w e => ?_⟩
  · simp only [nL, Option.some.injEq, pairUp_get] at e
    have e2 : ds[i]? = none := by
      cases z : ds[i]? with
      | none => rfl
      | some _ => rw [z] at e; cases e
    exact ⟨xs, s1, by rw [d1.len]; exact List.getElem?_eq_none_iff.mp e2⟩
  · simp only [nL, Option.some.injEq, pairUp_get] at e
    cases z : ds[i]? with
    | none => rw [z] at e; cases e
    | some d =>
      rw [z] at e
      obtain rfl : w = .d (.tup [.int (i : Nat), d]) := (Option.some.inj e).symm
      obtain ⟨v, ev, rv⟩ := d1.get z
      refine ⟨⟨xs, v, s1, ev⟩, fun y H2 yd => ?_⟩
      obtain ⟨T, v2, rfl, hT, rfl, k⟩ := yd
      have ev2 := k xs s1
      rw [ev] at ev2
      cases ev2
      have x2 : Ext H1 M1 (upd H1 T (.tup [.int (i : Nat), v])) M1 := Ext.fresh hT rh
      exact ⟨M1, x2, rh.fresh hT, .d (.tup (.inl (.inl upd_same)) (.cons (.int _) (.cons (rv.mono x2 rh.sub) .nil)))⟩
theorem signs_rds (s : Str) (h : PyData.strOk s = true) {B : Addr → Prop} : RDs g H B (s.cps.toList.map fun c => V.str ⟨#[c]⟩) (signs s) := by
  have key : ∀ l : List Nat, (∀ c ∈ l, PyData.strOk ⟨#[c]⟩ = true) → RDs g H B (l.map fun c => V.str ⟨#[c]⟩) (l.map fun c => D.str ⟨#[c]⟩) := by
    intro l hl
    induction l with
    | nil => exact .nil
    | cons c l ih => exact .cons (.str _ (hl c List.mem_cons_self)) (ih fun d hd => hl d (List.mem_cons_of_mem _ hd))
  refine key _ fun c hc => ?_
  have q : s.cps.all (· < 0x110000) = true := h
  rw [← Array.all_toList, List.all_eq_true] at q
  show (#[c]).all (· < 0x110000) = true
  rw [← Array.all_toList, List.all_eq_true]
  intro d hd
  rw [List.mem_singleton.mp hd]
  exact q c hc
theorem si_en {elts : List Expr} {kk : Nat} {tpos pos p : Pos} {e : Expr} {xa : XE} (hm : X.mg "enumerate" = none) (he : PE X e (rdE g Z xa)) (hg : Gl X "enumerate" := by rfl) (hs : starEach [e] X.env = [(false, eval e X.env)] := by rfl) (hK : X.K = g.K := by rfl) :
    PI X (.Tuple elts kk tpos) (.Call (.Name "enumerate" p) [e] [] pos) (rdI g Z (iEn xa)) := by
  refine ⟨fun pins s σ H R I ⟨r, h, M, fl, rs, rh, q⟩ => ?_⟩
  have key : rdA g Z (xCons xa xNil) σ H fun vs H1 => (∃ a xs n, vs = [.ref a] ∧ srcT X.K a n H1 xs ∧ R (Iten (srcT X.K a n)) H1) ∨ ∃ z, vs = [.str z] ∧ R (Iten (srcS z)) H1 := by
    have q2 : Po g Z σ fl (RI g) H M R ((xCons xa xNil r h).bind fun ws h1 => match ws with
      | [w] => (match enSrc w with
        | some ds => .ok (ds.length + 1, nL (pairUp ds)) h1
        | none => .stuck)
      | _ => .stuck) := by
      simp only [iEn, xCons, xNil, Re.bind] at q ⊢
      cases ex : xa r h with
      | ok w h1 => rw [ex] at q; exact q
      | exc z h1 => rw [ex] at q; exact q
      | stuck => rw [ex] at q; exact q
    refine ⟨r, h, M, fl, rs, rh, Po.bind q2 fun ws h1 vs H1 M1 e1 rh1 rws p1 => ?_⟩
    rw [hK]
    cases ws with
    | nil => exact p1.elim
    | cons w rest =>
    cases rest with
    | cons _ _ => exact p1.elim
    | nil =>
    obtain ⟨v, rfl, rw1⟩ := RWs.one rws
    simp only at p1
    cases ew : enSrc w with
    | none => rw [ew] at p1; exact p1.elim
    | some ds =>
      rw [ew] at p1
      unfold enSrc at ew
      split at ew
      · cases ew
        obtain ⟨a, xs, rfl, ht, hd⟩ := rw1.tup_inv
        exact .inl ⟨a, xs, xs.length, rfl, ⟨ht, rfl⟩, p1 _ H1 M1 (Ext.refl _ _) rh1 (ItOk.en rh1.sub (fun x => ⟨sqT_mono x ht, rfl⟩) hd)⟩
      · cases ew
        obtain ⟨rfl, ok⟩ := rw1.str_inv
        exact .inr ⟨_, rfl, p1 _ H1 M1 (Ext.refl _ _) rh1 (ItOk.en rh1.sub (fun x => rfl) (signs_rds _ ok))⟩
      · cases ew
  refine Call_ (ld_blt I hg hm boot_enumerate (PyProof.Rows.callWith_type1 (thn ((sa_cons he sa_nil (hs := hs)).run pos pins s σ H _ I key) fun us s1 ⟨vs, H1, I1, r1, q1⟩ => ?_) hs rfl))
  have fin : ∀ {o : Obj} {H9 : Heap → Prop} {src : Hp → List V → Prop} {t0 : Nat → Heap → Prop} {n : Nat} {u : Value} (B : Begins u o H9), H9 s1.heap → Drw X.K s1.heap.objs.size n src t0 → (∀ h', h'.get? s1.heap.objs.size = some o → t0 0 h') → R (Iten src) H1 →
      wpAny (model X.prog X.w) X.A (call (.type "enumerate") [u]) (fun v s2 => wpAny (model X.prog X.w) X.A (pyIter v) (PIE X pins σ (.Tuple elts kk tpos) R) X.xe s2) X.xe s1 := fun B hh D h0 q => by
    refine call_en1 B hh fun h' he hit hsz hk => wpAny_pyIter_enum he ?_
    have I2 : Inv X pins σ H1 { s1 with heap := h' } := I1.kept (t' := s1.toks) hk
    refine ⟨_, [s1.heap.objs.size + 1, s1.heap.objs.size], _, _, H1, rfl, I2, turn_en D (Nat.succ_ne_self _), ⟨⟨.none, he⟩, h0 _ hit, Nat.zero_le _⟩, fun b hb => ?_, q⟩
    have le : s1.heap.objs.size ≤ b := by
      rcases List.mem_cons.mp hb with z | z
      · rw [z]; exact Nat.le_succ _
      · rw [List.mem_singleton.mp z]; exact Nat.le_refl _
    exact I1.fpOk le (I1.hok.fresh le)
  rcases q1 with ⟨a, xs, n, rfl, hs2, q⟩ | ⟨z, rfl, q⟩
  · cases r1 with
    | cons ra rr =>
    cases rr
    cases ra
    obtain ⟨its, rv, p', hz⟩ := I1.tuple hs2.1
    exact fin (begins_tuple a its.toArray) p' drw_tup (fun h' e => ⟨_, e, rfl, rfl⟩) q
  · cases r1 with
    | cons ra rr =>
    cases rr
    obtain ⟨t, rfl⟩ := (show ∃ t, _ = Value.str z t from ra)
    exact fin (begins_text z t) trivial drw_str (fun h' e => ⟨_, e, rfl, rfl⟩) q
/-! ### the module's own dicts -/
/-- NAME[k], the text that stands there -/
@[simp] def xKix (l : List (Str × Str)) (e : XE) : XE := fun r h => (e r h).bind fun w h1 => match w.str? with
  | some z => match l.lookup z with
    | some d => .ok (.d (.str d)) h1
    | none => .stuck
  | none => .stuck
/-- the module's dict at a has the texts l -/
def KTx (K : PySem.W.Frag) (w : World) (a : Addr) (l : List (Str × Str)) : Prop := ∀ z d, (z, d) ∈ l → KDct K w a z (.str d)
theorem lookup_mem {l : List (Str × Str)} {z d : Str} (h : l.lookup z = some d) : (z, d) ∈ l := by
  induction l with
  | nil => cases h
  | cons p l ih =>
    obtain ⟨k, v⟩ := p
    rw [List.lookup_cons] at h
    cases e : z == k with
    | true =>
      rw [e] at h
      cases h
      rw [eq_of_beq e]
      exact List.mem_cons_self
    | false =>
      rw [e] at h
      exact List.mem_cons_of_mem _ (ih h)
theorem se_kix {y : Str} {a : Addr} {l : List (Str × Str)} {b : Expr} {xb : XE} {p pos : Pos} (hm : X.mg y = some (.ref a)) (kt : KTx X.K X.w a l) (ok : (l.all fun q => PyData.strOk q.2) = true) (hb : PE X b (rdE g Z xb)) (hg : Gl X y := by rfl)
    (hd : (y == ("__debug__" : Str)) = false := by decide) (hs : PlainIx b := by exact fun _ _ => rfl) : PE X (.Subscript (.Name y p) b pos) (rdE g Z (xKix l xb)) :=
  PE.imp (pe_ix ix_kdict (pe_glob (v := .ref a) hg hm rfl hd) hb hs) fun σ H Q ⟨r, h, M, fl, rs, rh, q⟩ =>
    ⟨r, h, M, fl, rs, rh, Po.bind q fun w h1 v H1 M1 e1 rh1 rw1 p1 => by
      cases ew : w.str? with
      | none => rw [ew] at p1; exact p1.elim
      | some z =>
        rw [ew] at p1
        rw [W.str?_some ew] at rw1
        simp only at p1
        cases el : l.lookup z with
        | none => rw [el] at p1; exact p1.elim
        | some d =>
          rw [el] at p1
          have hmem := lookup_mem el
          exact ⟨a, z, .str d, rfl, rw1.str_inv.1, kt z d hmem, p1 _ H1 M1 (Ext.refl _ _) rh1 (.d (.str d (List.all_eq_true.mp ok _ hmem)))⟩⟩
end
end
end Xs

/-! XsAA: defs that make code objects, at the end of a law. -/
namespace Xs
noncomputable section
open PySem PySem.Spec PyProof.Rows L2
/-- the code object of the def at f -/
def CodeOf (K : PySem.W.Frag) (f : Addr) (cdv : Value) : Prop :=
  ∃ oc od osl name qual params body scope dV kV doc pm an ct, K.lookup f = some ⟨oc, od, .func (PySem.W.fnOf name qual params body scope dV kV doc pm an cdv ct), osl⟩
theorem codeOf_one {K : PySem.W.Frag} {f : Addr} {cdv cdv' : Value} {oc : Value} {od : Option Addr} {osl : Array (Option Value)} {name qual : Str} {params : Arguments} {body : List Stmt} {scope : Scope} {dV kV doc pm ct : Value} {an : Option Addr} (h : CodeOf K f cdv)
    (e : K.lookup f = some ⟨oc, od, .func (PySem.W.fnOf name qual params body scope dV kV doc pm an cdv' ct), osl⟩) : cdv = cdv' := by
  obtain ⟨_, _, _, _, _, _, _, _, _, _, _, _, _, _, e2⟩ := h
  have z := e2.symm.trans e
  simp only [PySem.W.fnOf, Option.some.injEq, Obj.mk.injEq, Data.func.injEq, FuncData.mk.injEq] at z
  simp_all
section
variable {P : Program} {w : World} {K : PySem.W.Frag} {mg : Str → Option Value} {base : Heap} {k na nl : Nat} {f : Addr} {fd : FuncData} {ps N : List Str} {g : G} {body : XS} {x qual : Str} {st : Stmt} {fz : Bool} {sp : Sp}
theorem fngCo (F : Fun K x qual st f fd) (S : FnScope N ps (defScope st)) (len : ∀ vs H Q E, sp vs H Q E → vs.length = ps.length)
    (body : ∀ (cdv : Value) (A : Around) (outer : List PySem.Env) (s : Shared) (H : Hp) (vs : List V) (Q : VK) (E : XK), CodeOf K f cdv → Room k (A.deeper (envOfC qual (defScope st) s.heap.objs.size f cdv)) → A.guards = some [] → sp vs H Q E →
      ∃ t, PSs (cxOf (L2.CX P w) P w K mg base N qual (defScope st) f cdv A outer s H E) (defBody st) t ∧ t { nx := fun _ H' => Q .non H', rt := Q } (start N vs) H) : FnG P w K mg base (k + 1) f fd ps sp := by
  obtain ⟨oc, od, kV, doc, pm, an, cdv, ct, osl, rfl, lk, hcd⟩ := F.ex
  refine ⟨len, fun A outer s H args us vs Q E hr hgd e0 hb r hsp => ?_⟩
  exact fng_core lk hcd S hr hgd e0 hb r hsp (len _ _ _ _ hsp) (body cdv A outer s H vs Q E ⟨_, _, _, _, _, _, _, _, _, _, _, _, _, _, lk⟩ (hr.deeper _) hgd hsp)
abbrev BodyC (P : Program) (w : World) (K : PySem.W.Frag) (mg : Str → Option Value) (base : Heap) (k : Nat) (f : Addr) (N : List Str) (g : G) (body : XS) (qual : Str) (st : Stmt) : Prop :=
  ∀ (cdv : Value) (A : Around) (outer : List PySem.Env) (s : Shared) (H : Hp) (E : XK), Room k (A.deeper (envOfC qual (defScope st) s.heap.objs.size f cdv)) → (A.deeper (envOfC qual (defScope st) s.heap.objs.size f cdv)).guards = some [] → CodeOf K f cdv →
    PSs (cxOf (L2.CX P w) P w K mg base N qual (defScope st) f cdv A outer s H E) (defBody st) (rdS g (fun c d _ H => E c d H) body)
theorem fngTC (F : Fun K x qual st f fd) (S : FnScope N ps (defScope st)) (b : BodyC P w K mg base k f N g body qual st) (hN : N.length = nl := by rfl) (hp : ps.length = na := by rfl) : FnG P w K mg base (k + 1) f fd ps (spF g (fnT na nl fz body)) :=
  fngCo F S (fun vs H Q E h => fnT_len hp h) fun cdv A outer s H vs Q E co hr hg h => ⟨_, b cdv A outer s H E hr (by rw [guards_deeper]; exact hg) co, readT hN h⟩
theorem fngAC (F : Fun K x qual st f fd) (S : FnScope N ps (defScope st)) (b : BodyC P w K mg base k f N g body qual st) (hN : N.length = nl := by rfl) (hp : ps.length = na := by rfl) : FnG P w K mg base (k + 1) f fd ps (spF g (fnA na nl body)) :=
  fngCo F S (fun vs H Q E h => fnA_len hp h) fun cdv A outer s H vs Q E co hr hg h => ⟨_, b cdv A outer s H E hr (by rw [guards_deeper]; exact hg) co, readA hN h⟩
theorem fngIC (F : Fun K x qual st f fd) (S : FnScope N ps (defScope st)) (b : BodyC P w K mg base k f N g body qual st) (hN : N.length = nl := by rfl) (hp : ps.length = na := by rfl) : FnG P w K mg base (k + 1) f fd ps (spF g (fnI na nl body)) :=
  fngCo F S (fun vs H Q E h => fnI_len hp h) fun cdv A outer s H vs Q E co hr hg h => ⟨_, b cdv A outer s H E hr (by rw [guards_deeper]; exact hg) co, readI hN h⟩
end
/-- the scope of a generator of one name, no captured ones -/
def gsOk (sc : Scope) (x : Str) : Bool := decide (sc.kind = .function) && !sc.isCoroutine && sc.names.all (fun y => decide (y.2 ≠ .cell) && decide (y.2 ≠ .free)) && decide (sc.names.lookup (".0" : Str) = some NameKind.local) && decide (sc.names.lookup x = some .local)
theorem gs_of {env : PySem.Env} {sc : Scope} {x : Str} (h : gsOk sc x = true) : GxR.GenS env sc x := by
  simp only [gsOk, Bool.and_eq_true, decide_eq_true_eq, Bool.not_eq_true', List.all_eq_true] at h
  obtain ⟨⟨⟨⟨h1, h2⟩, h3⟩, h4⟩, h5⟩ := h
  exact ⟨h1, h2, fun y hy => (h3 y hy).1, h4, h5, fun y hy z => absurd z (h3 y hy).2⟩
theorem Tabs0.cons {K : PySem.W.Frag} {h : Heap} {tb : List (Addr × Addr)} {c p : Addr} (h1 : h.get? p = some (PySem.W.tabObj #[])) (h2 : K.lookup p = none) (h3 : PySem.W.CodeHd h c p) (t : Tabs0 K h tb) : Tabs0 K h ((c, p) :: tb) := by
  refine ⟨fun q hq => ?_, fun q hq => ?_, fun q hq => ?_⟩
  all_goals
    rcases List.mem_cons.mp hq with z | z
    · rw [z]
      first
        | exact h1
        | exact h2
        | exact h3
    · first
        | exact t.obj q z
        | exact t.out q z
        | exact t.hd q z
theorem KTx.nil (K : PySem.W.Frag) (w : World) (a : Addr) : KTx K w a [] := fun _ _ h => (nomatch h)
theorem KTx.cons {K : PySem.W.Frag} {w : World} {a : Addr} {z d : Str} {l : List (Str × Str)} (h : KDct K w a z (.str d)) (t : KTx K w a l) : KTx K w a ((z, d) :: l) := fun y e hm => by
  rcases List.mem_cons.mp hm with q | q
  · cases q
    exact h
  · exact t y e q
/-- the table of the code object at c -/
def tabAtC (K : PySem.W.Frag) (c : Addr) : Option Addr := match K.lookup c with
  | some o => match o.data with
    | .fields us => match (us[11]? : Option Value) with
      | some (.ref p) => some p
      | _ => none
    | _ => none
  | none => none
end
end Xs

/-! XsAB: repr of a written list of dicts. -/
namespace Xs
noncomputable section
open PySem PySem.Spec PyProof.Rows L2
mutual
/-- data without lists -/
@[simp] def D.nolst : D → Bool
  | .lst _ => false
  | .tup xs => D.nolsts xs
  | _ => true
@[simp] def D.nolsts : List D → Bool
  | [] => true
  | x :: r => x.nolst && D.nolsts r
end
def flatK : List (Key × W) → Option (List (Str × D))
  | [] => some []
  | (.inr z, .d x) :: r => if x.nolst = true then (flatK r).map ((z, x) :: ·) else none
  | _ => none
def dictsOf (h : Sto) : List W → Option (List (List (Str × D)))
  | [] => some []
  | .l k :: r => match h.o[k]? with
    | some (.dct kws) => match flatK kws, dictsOf h r with
      | some a, some b => some (a :: b)
      | _, _ => none
    | _ => none
  | _ => none
def pyKv (l : List (Str × D)) : List (PyData × PyData) := l.map fun p => (.str p.1, p.2.py)
def pyK (l : List (Str × D)) : PyData := .dict (pyKv l)
def okK (l : List (Str × D)) : Bool := l.all fun p => PyData.strOk p.1 && p.2.rok && decide (p.2.depth ≤ 60)
def costK (l : List (Str × D)) : Nat := (l.map fun p => 10 * p.1.length + p.2.cost + 6).sum + 3
def fReprDs (ws : List W) (h : Sto) : Re W := match dictsOf h ws with
  | some ls => if (ls.all okK && decide ((ls.map fun l => costK l + 2).sum + 3 ≤ lim)) = true ∧ ls.length ≤ lim then .ok (.t (PyData.shown (.list (ls.map pyK)))) h else .stuck
  | none => .stuck
section
variable {X : Cx} {g : G} {Z : WX} {pos : Pos} {pins : List (Addr × Obj)} {H : Hp} {M : Mu} {B : Addr → Prop} {fl : List Nat} {h : Sto} {σ : L2.St} {s : Shared}
mutual
theorem D.reads (I : Inv X pins σ H s) (hK : X.K = g.K) : ∀ (x : D) (v : V) (u : Value), RD g H B v x → x.nolst = true → RelV v u → Reads s.heap u x.py []
  | .non, _, _, r, _, ru => by cases r; cases ru; exact .none
  | .bl b, _, _, r, _, ru => by cases r; cases ru; exact .bool b
  | .int i, _, _, r, _, ru => by
    cases r
    obtain ⟨t, rfl⟩ := (show ∃ t, _ = Value.int i t from ru)
    exact .int i t
  | .str z, _, _, r, _, ru => by
    cases r
    obtain ⟨t, rfl⟩ := (show ∃ t, _ = Value.str z t from ru)
    exact .str z t
  | .tup xs, _, _, r, hf, ru => by
    cases r with
    | tup ht hd =>
      cases ru
      obtain ⟨its, rv, p, hz⟩ := I.tuple (by rw [hK]; exact ht)
      obtain ⟨o, e, c, n, d⟩ := p
      rw [D.py]
      exact .tuple e c d (by simpa using D.readss I hK xs _ _ hd (by simpa using hf) rv)
  | .lst _, _, _, _, hf, _ => by cases hf
theorem D.readss (I : Inv X pins σ H s) (hK : X.K = g.K) : ∀ (xs : List D) (vs : List V) (us : List Value), RDs g H B vs xs → D.nolsts xs = true → Vals vs us → ReadsAll s.heap us (D.pys xs) []
  | [], _, _, r, _, ru => by cases r; cases ru; rw [D.pys]; exact .nil
  | x :: xs, _, _, r, hf, ru => by
    cases r with
    | cons a b =>
      cases ru with
      | cons c d =>
        simp only [D.nolsts, Bool.and_eq_true] at hf
        rw [D.pys]
        exact .cons (as := []) (bs := []) (D.reads I hK x _ _ a hf.1 c) (D.readss I hK xs _ _ b hf.2 d)
end
theorem RW.d_inv {v : V} {x : D} (q : RW g H M v (.d x)) : RD g H M.B v x := by
  cases q with
  | d q => exact q
theorem reads_kv (I : Inv X pins σ H s) (hK : X.K = g.K) {w : World} : ∀ (l : List (Str × D)) (kws : List (Key × W)) (kvs : List (Key × V)) (vs : List (Key × Value)) (es : List DictEntry), flatK kws = some l → RWk g H M kvs kws → KV kvs vs → Pairs (mixKind X.prog X.w) es vs →
    ReadsAll s.heap (es.map (·.key)) ((pyKv l).map (·.1)) [] ∧ ReadsAll s.heap (es.map (·.val)) ((pyKv l).map (·.2)) [] := by
  intro l kws
  induction kws generalizing l with
  | nil =>
    intro kvs vs es e r1 r2 r3
    cases e
    cases r1
    cases r2
    cases r3
    exact ⟨.nil, .nil⟩
  | cons q kws ih =>
    intro kvs vs es e r1 r2 r3
    obtain ⟨k, y⟩ := q
    cases k with
    | inl i => cases e
    | inr z =>
      cases y with
      | d x =>
        simp only [flatK] at e
        split at e
        · rename_i hx
          cases ef : flatK kws with
          | none => rw [ef] at e; cases e
          | some l2 =>
            rw [ef] at e
            cases e
            cases r1 with
            | cons a1 b1 =>
              cases r2 with
              | cons a2 b2 =>
                cases r3 with
                | cons a3 a4 b3 =>
                  rename_i kv kvs' v' vs' e0 es'
                  obtain ⟨i1, i2⟩ := ih l2 _ _ _ ef b1 b2 b3
                  obtain ⟨ek, rx⟩ := a1
                  obtain ⟨ek2, rv⟩ := a2
                  have kk : keyIs v'.1 e0.key = true := a3
                  rw [← ek2, ek] at kk
                  rcases keyIs_shape kk with ⟨_, _, z1, _⟩ | ⟨z0, t, z1, z2⟩
                  · cases z1
                  · cases z1
                    refine ⟨?_, ?_⟩
                    · show ReadsAll s.heap (e0.key :: es'.map (·.key)) (PyData.str z :: (pyKv l2).map (·.1)) []
                      rw [z2]
                      exact .cons (as := []) (bs := []) (.str z t) i1
                    · show ReadsAll s.heap (e0.val :: es'.map (·.val)) (x.py :: (pyKv l2).map (·.2)) []
                      exact .cons (as := []) (bs := []) (D.reads I hK x _ _ (RW.d_inv rx) hx (by rw [a4]; exact rv)) i2
        · cases e
      | _ => cases e
theorem dictsOf_inv : ∀ {ws : List W} {ls : List (List (Str × D))} {vs : List V} {us : List Value}, RH g H M fl h → L2.Inv X pins σ H s → X.K = g.K → dictsOf h ws = some ls → RWs g H M vs ws → Vals vs us →
    ∃ as, ReadsAll s.heap us (ls.map pyK) as ∧ (sysModules ∉ as) := by
  intro ws
  induction ws with
  | nil =>
    intro ls vs us rh I hK e r ru
    cases e
    cases r
    cases ru
    exact ⟨[], .nil, by simp⟩
  | cons w ws ih =>
    intro ls vs us rh I hK e r ru
    cases w with
    | l k =>
      simp only [dictsOf] at e
      split at e
      · rename_i kws ek
        split at e
        · rename_i a b ea eb
          cases e
          cases r with
          | cons r1 r2 =>
            cases ru with
            | cons u1 u2 =>
              obtain ⟨ad, rfl, em⟩ := r1.l_inv
              cases u1
              obtain ⟨kvs, hv, rv⟩ := rh.dct em ek
              obtain ⟨_, low, vs2, kv, o, es, ep, eo, ex, ed, _, pr, _⟩ := I.hok ad _ hv
              obtain ⟨i1, i2⟩ := reads_kv (w := X.w) I hK a kws kvs vs2 es.toList ea rv kv pr
              obtain ⟨as, ra, na⟩ := ih rh I hK eb r2 u2
              refine ⟨_, .cons (.dict (as := []) (bs := []) eo ex.1 ed i1 i2) ra, fun z => ?_⟩
              rcases List.mem_append.mp z with z | z
              · have z : sysModules ∈ [ad] := z
                rw [List.mem_singleton] at z
                rw [← z] at low
                simp at low
              · exact na z
        · cases e
      · cases e
    | _ => cases e
theorem okK_show {l : List (Str × D)} (hl : okK l = true) : (pyK l).showable = true ∧ (pyK l).depth ≤ 61 ∧ ((∀ p ∈ l, p.2.py.canLay0 = true) → (pyK l).shown.length ≤ costK l) := by
  have key : ∀ l : List (Str × D), okK l = true → PyData.showableKv (pyKv l) = true ∧ PyData.depthKv (pyKv l) ≤ 60 ∧ ((∀ p ∈ l, p.2.py.canLay0 = true) → ((PyData.shownKv (pyKv l)).map (·.length)).sum + 2 * (PyData.shownKv (pyKv l)).length ≤ (l.map fun p => 10 * p.1.length + p.2.cost + 6).sum) := by
    intro l
    induction l with
    | nil => intro _; exact ⟨rfl, by simp [pyKv, PyData.depthKv], fun _ => by simp [pyKv, PyData.shownKv]⟩
    | cons p l ih =>
      intro h
      obtain ⟨z, x⟩ := p
      simp only [okK, List.all_cons, Bool.and_eq_true, decide_eq_true_eq] at h
      obtain ⟨⟨⟨h1, h2⟩, h3⟩, h4⟩ := h
      obtain ⟨i1, i2, i3⟩ := ih (by simpa [okK] using h4)
      refine ⟨?_, ?_, fun hc => ?_⟩
      · show PyData.showableKv ((.str z, x.py) :: pyKv l) = true
        simp [PyData.showableKv, PyData.showable, D.show_py x h2, i1]
      · show PyData.depthKv ((.str z, x.py) :: pyKv l) ≤ 60
        simp only [PyData.depthKv, PyData.depth, D.depth_py]
        omega
      · show ((PyData.shownKv ((.str z, x.py) :: pyKv l)).map (·.length)).sum + 2 * (PyData.shownKv ((.str z, x.py) :: pyKv l)).length ≤ _
        simp only [PyData.shownKv, List.map_cons, List.sum_cons, List.length_cons, PyData.shown]
        have a := D.shown_len (hc _ List.mem_cons_self) h2
        have b := i3 fun p hp => hc p (List.mem_cons_of_mem _ hp)
        have c : (reprText z).length ≤ 10 * z.length + 2 := StrLaws.reprText_len z fun c hc => by
          unfold PyData.strOk at h1
          rw [Array.all_eq_true'] at h1
          exact Nat.lt_of_lt_of_le (of_decide_eq_true (h1 c (by simpa using hc))) (by decide)
        have d : (reprText z ++ (": " : Str) ++ x.py.shown).length = (reprText z).length + 2 + x.py.shown.length := by
          rw [strLen_append, strLen_append]
          rfl
        simp only at a
        omega
  obtain ⟨k1, k2, k3⟩ := key l hl
  refine ⟨by simpa [pyK, PyData.showable] using k1, by simp only [pyK, PyData.depth]; omega, fun hc => ?_⟩
  have a := dictText_len_le (PyData.shownKv (pyKv l))
  have b := k3 hc
  show (PyData.shown (.dict (pyKv l))).length ≤ _
  rw [PyData.shown]
  unfold costK
  omega
theorem flatK_lay : ∀ {kws : List (Key × W)} {l : List (Str × D)} {kvs : List (Key × V)}, flatK kws = some l → RWk g H M kvs kws → ∀ p ∈ l, p.2.py.canLay0 = true := by
  intro kws
  induction kws with
  | nil => intro l kvs e _ p hp; cases e; cases hp
  | cons q kws ih =>
    intro l kvs e r p hp
    obtain ⟨k, y⟩ := q
    cases k with
    | inl _ => cases e
    | inr z =>
      cases y with
      | d x =>
        simp only [flatK] at e
        split at e
        · cases ef : flatK kws with
          | none => rw [ef] at e; cases e
          | some l2 =>
            rw [ef] at e
            cases e
            cases r with
            | cons a b =>
              rcases List.mem_cons.mp hp with z | z
              · rw [z]; exact (RW.d_inv a.2).lay
              · exact ih ef b p z
        · cases e
      | _ => cases e
theorem dictsOf_lay : ∀ {ws : List W} {ls : List (List (Str × D))} {vs : List V}, RH g H M fl h → dictsOf h ws = some ls → RWs g H M vs ws → ∀ l ∈ ls, ∀ p ∈ l, p.2.py.canLay0 = true := by
  intro ws
  induction ws with
  | nil => intro ls vs _ e _ l hl; cases e; cases hl
  | cons w ws ih =>
    intro ls vs rh e r l hl
    cases w with
    | l k =>
      simp only [dictsOf] at e
      split at e
      · rename_i kws ek
        split at e
        · rename_i a b ea eb
          cases e
          cases r with
          | cons r1 r2 =>
            obtain ⟨ad, rfl, em⟩ := r1.l_inv
            obtain ⟨kvs, hv, rv⟩ := rh.dct em ek
            rcases List.mem_cons.mp hl with z | z
            · rw [z]; exact flatK_lay ea rv
            · exact ih rh eb r2 l z
        · cases e
      · cases e
    | _ => cases e
@[simp] def xReprDs (a : XA) : XE := fun r h => (a r h).bind fReprDs
theorem se_reprDs {es : List Expr} {xa : XA} {lpos p pos : Pos} (hgd : X.A.guards = some []) (hu : X.A.units + 100 < cLine) (hg : Gl X "repr") (hm : X.mg "repr" = none) (ha : PA X es (rdA g Z xa)) (hK : X.K = g.K := by rfl)
    (he : starEach [.List es lpos] X.env = (false, eval (.List es lpos) X.env) :: starEach [] X.env := by rfl) : PE X (.Call (.Name "repr" p) [.List es lpos] [] pos) (rdE g Z (xReprDs xa)) := by
  refine ⟨fun pins s σ H Q I ⟨r, h, M, fl, rs, rh, q⟩ => ?_⟩
  have key : rdA g Z xa σ H fun vs H1 => ∃ ws h1 M1, RWs g H1 M1 vs ws ∧ RH g H1 M1 fl h1 ∧ Po g Z σ fl (RW g) H1 M1 Q (fReprDs ws h1) := ⟨r, h, M, fl, rs, rh, Po.bind q fun ws h1 vs H1 M1 e1 rh1 rw1 p1 => ⟨ws, h1, M1, rw1, rh1, p1⟩⟩
  refine wpAny_Call_Name_kw (ld_blt I hg hm boot_repr ?_)
  refine PyProof.Rows.callWith_builtin1 ?_ he (by rfl)
  rw [he]
  show wpAny _ _ (spliced ((false, eval (.List es lpos) X.env) :: backTo pos (starEach [] X.env))) _ _ s
  refine Calls.spliced_cons (wpAny_List_spliced (thn (ha.run lpos pins s σ H _ I key) fun us s1 ⟨vs, H1, I1, ru, ws, h1, M1, rws, rh1, p1⟩ => ?_))
  unfold fReprDs at p1
  cases ed : dictsOf h1 ws with
  | none => rw [ed] at p1; exact p1.elim
  | some ls =>
    rw [ed] at p1
    simp only at p1
    obtain ⟨⟨hc, hn⟩, p1⟩ := po_ifP p1
    rw [Bool.and_eq_true, decide_eq_true_eq, List.all_eq_true] at hc
    obtain ⟨c1, c2⟩ := hc
    obtain ⟨as, ra, na⟩ := dictsOf_inv rh1 I1 hK ed rws ru
    have lay := dictsOf_lay rh1 ed rws
    have len : us.length ≤ sizeLine := by
      have e1 : us.length = (ls.map pyK).length := SeqAt.ReadsAll.length _ _ _ ra
      rw [e1, List.length_map, ← lim_line]
      exact hn
    refine ⟨len, Calls.spliced_nil ?_⟩
    have up : ∀ b u, s1.heap.get? b = some u → (s1.heap.push { cls := .type "list", data := .seq us.toArray }).get? b = some u := fun b u e => Heap.get?_push_of_some _ e
    have I2 : L2.Inv X pins σ H1 { s1 with heap := s1.heap.push { cls := .type "list", data := .seq us.toArray } } := I1.kept (t' := s1.toks) up
    have big : sysModules < s1.heap.objs.size := I1.big
    have rd1 : Reads (s1.heap.push { cls := .type "list", data := .seq us.toArray }) (.ref s1.heap.objs.size) (.list (ls.map pyK)) (s1.heap.objs.size :: as) :=
      .list (Heap.get?_push_size _ rfl) rfl rfl (by simpa using ReadsAll.keeps up ra)
    have shw : (PyData.list (ls.map pyK)).showable = true := by
      simp only [PyData.showable]
      have : ∀ l : List (List (Str × D)), (∀ x ∈ l, okK x = true) → PyData.showableAll (l.map pyK) = true := by
        intro l
        induction l with
        | nil => intro _; rfl
        | cons x l ih => intro h; simp [PyData.showableAll, (okK_show (h x List.mem_cons_self)).1, ih fun y hy => h y (List.mem_cons_of_mem _ hy)]
      exact this ls c1
    have dep : (PyData.list (ls.map pyK)).depth ≤ 62 := by
      simp only [PyData.depth]
      have : ∀ l : List (List (Str × D)), (∀ x ∈ l, okK x = true) → PyData.depthAll (l.map pyK) ≤ 61 := by
        intro l
        induction l with
        | nil => intro _; simp [PyData.depthAll]
        | cons x l ih =>
          intro h
          have a := (okK_show (h x List.mem_cons_self)).2.1
          have b := ih fun y hy => h y (List.mem_cons_of_mem _ hy)
          simp only [List.map_cons, PyData.depthAll]
          omega
      have := this ls c1
      omega
    have siz : (PyData.list (ls.map pyK)).shown.length ≤ sizeLine := by
      rw [PyData.shown]
      have a := listText_len_le (PyData.shownAll (ls.map pyK))
      have : ∀ l : List (List (Str × D)), (∀ x ∈ l, okK x = true) → (∀ x ∈ l, ∀ p ∈ x, p.2.py.canLay0 = true) → ((PyData.shownAll (l.map pyK)).map (·.length)).sum + 2 * (PyData.shownAll (l.map pyK)).length ≤ (l.map fun x => costK x + 2).sum := by
        intro l
        induction l with
        | nil => intro _ _; simp [PyData.shownAll]
        | cons x l ih =>
          intro h hc
          have a := (okK_show (h x List.mem_cons_self)).2.2 (hc x List.mem_cons_self)
          have b := ih (fun y hy => h y (List.mem_cons_of_mem _ hy)) fun y hy => hc y (List.mem_cons_of_mem _ hy)
          simp only [List.map_cons, PyData.shownAll, List.sum_cons, List.length_cons]
          omega
      have b := this ls c1 lay
      rw [← lim_line]
      omega
    refine repr_of_reads' (h₀ := s1.heap.push { cls := .type "list", data := .seq us.toArray }) rd1 shw (fun _ z => ?_) hgd (by omega) (fun b o e => e) (fun h' u tk hk => ⟨.str _, H1, I2.kept hk, ⟨_, rfl⟩, p1 _ H1 M1 (Ext.refl _ _) rh1 .t⟩) siz
    rcases List.mem_cons.mp z with z | z
    · rw [← z] at big
      exact absurd big (Nat.lt_irrefl _)
    · exact na z
/-- one way, or another where the first is stuck -/
@[simp] def xEither (a b : XE) : XE := fun r h => match a r h with
  | .stuck => b r h
  | z => z
theorem se_either {e : Expr} {xa xb : XE} (ha : PE X e (rdE g Z xa)) (hb : PE X e (rdE g Z xb)) : PE X e (rdE g Z (xEither xa xb)) := by
  refine ⟨fun pins s σ H Q I ⟨r, h, M, fl, rs, rh, q⟩ => ?_⟩
  simp only [xEither] at q
  cases ea : xa r h with
  | stuck =>
    rw [ea] at q
    exact hb.run pins s σ H Q I ⟨r, h, M, fl, rs, rh, q⟩
  | ok a h1 =>
    rw [ea] at q
    exact ha.run pins s σ H Q I ⟨r, h, M, fl, rs, rh, by rw [ea]; exact q⟩
  | exc a h1 =>
    rw [ea] at q
    exact ha.run pins s σ H Q I ⟨r, h, M, fl, rs, rh, by rw [ea]; exact q⟩
theorem truth_ok {w : W} {v : V} {z : Bool} (rh : RH g H M fl h) (rr : RW g H M v w) (e : truth h w = some z) : TruV g.K v H z := by
  simp only [truth] at e
  cases e2 : seqOf h w with
  | some ws =>
    rw [e2] at e
    cases e
    obtain ⟨a, xs, rfl, sq, rv⟩ := seqOf_sq rh rr e2
    rcases sq with sq | sq
    · exact .inl ⟨xs, sq, by rw [paired_empty rv]⟩
    · exact .inr (.inl ⟨xs, sq, by rw [paired_empty rv]⟩)
  | none =>
    rw [e2] at e
    simp only at e
    cases e3 : dctOf h w with
    | some kvs =>
      rw [e3] at e
      cases e
      obtain ⟨a, xs, rfl, hv, rv⟩ := dctOf_h rh rr e3
      exact .inr (.inr ⟨xs, hv, by rw [paired_empty rv]⟩)
    | none =>
      rw [e3] at e
      cases w with
      | d x =>
        cases x with
        | non => cases e; obtain rfl := rr.non_inv; rfl
        | bl _ => cases e; obtain rfl := rr.bl_inv; rfl
        | int _ => cases e; obtain rfl := rr.int_inv; rfl
        | str s =>
          obtain ⟨rfl, _⟩ := rr.str_inv
          simp only at e
          by_cases hl : s.length ≤ lim
          · rw [if_pos hl] at e
            cases e
            exact ⟨by rw [← lim_line]; exact hl, rfl⟩
          · rw [if_neg hl] at e
            cases e
        | _ => cases e
      | _ => cases e
/-- or, and as values, by truth -/
@[simp] def xOrT (a b : XE) : XE := fun r h => (a r h).bind fun w h1 => match truth h1 w with
  | some z => if z = true then .ok w h1 else b r h1
  | none => .stuck
@[simp] def xAndT (a b : XE) : XE := fun r h => (a r h).bind fun w h1 => match truth h1 w with
  | some z => if z = true then b r h1 else .ok w h1
  | none => .stuck
theorem se_orT {a b : Expr} {rest : List Expr} {xa xb : XE} (ha : PE X a (rdE g Z xa)) (hb : PE X (.BoolOp .Or (b :: rest) pos) (rdE g Z xb)) (hK : X.K = g.K := by rfl) : PE X (.BoolOp .Or (a :: b :: rest) pos) (rdE g Z (xOrT xa xb)) :=
  PE.imp (pe_orT ha hb) fun σ H Q ⟨r, h, M, fl, rs, rh, q⟩ => ⟨r, h, M, fl, rs, rh, Po.bind q fun w h1 v H1 M1 e1 rh1 rw1 p1 => by
    rw [hK]
    cases e : truth h1 w with
    | none => rw [e] at p1; exact p1.elim
    | some z =>
      rw [e] at p1
      simp only at p1
      refine ⟨z, truth_ok rh1 rw1 e, ?_⟩
      cases z with
      | true => exact p1 v H1 M1 (Ext.refl _ _) rh1 rw1
      | false => exact ⟨r, h1, M1, fl, rs.mono e1 rh.sub, rh1, p1⟩⟩
theorem se_andT {a b : Expr} {rest : List Expr} {xa xb : XE} (ha : PE X a (rdE g Z xa)) (hb : PE X (.BoolOp .And (b :: rest) pos) (rdE g Z xb)) (hK : X.K = g.K := by rfl) : PE X (.BoolOp .And (a :: b :: rest) pos) (rdE g Z (xAndT xa xb)) :=
  PE.imp (pe_andT ha hb) fun σ H Q ⟨r, h, M, fl, rs, rh, q⟩ => ⟨r, h, M, fl, rs, rh, Po.bind q fun w h1 v H1 M1 e1 rh1 rw1 p1 => by
    rw [hK]
    cases e : truth h1 w with
    | none => rw [e] at p1; exact p1.elim
    | some z =>
      rw [e] at p1
      simp only at p1
      refine ⟨z, truth_ok rh1 rw1 e, ?_⟩
      cases z with
      | false => exact p1 v H1 M1 (Ext.refl _ _) rh1 rw1
      | true => exact ⟨r, h1, M1, fl, rs.mono e1 rh.sub, rh1, p1⟩⟩
/-- the signs of a text, walked -/
@[simp] def iTxt (a : XE) : XI := fun r h => (a r h).bind fun w h1 => match w.str? with
  | some z => .ok ((signs z).length + 1, nL ((signs z).map .d)) h1
  | none => .stuck
theorem ItOk.txt {z : Str} (ok : PyData.strOk z = true) : ItOk g (Its z) (nL ((signs z).map .d)) H M := fun fl i H1 M1 h1 x rh => by
  have len : (signs z).length = z.cps.size := by simp [signs]
  refine ⟨fun e => ?_, fun w e => ?_⟩
  · simp only [nL, Option.some.injEq] at e
    have := List.getElem?_eq_none_iff.mp e
    rw [List.length_map, len] at this
    exact this
  · simp only [nL, Option.some.injEq, List.getElem?_map] at e
    have hi : i < z.cps.size := by
      rcases Nat.lt_or_ge i z.cps.size with q | q
      · exact q
      · rw [List.getElem?_eq_none (by rw [len]; exact q)] at e
        cases e
    refine ⟨hi, fun y H2 yd => ?_⟩
    obtain ⟨rfl, c, hc, rfl⟩ := yd
    have e2 : (signs z)[i]? = some (.str ⟨#[c]⟩) := by
      unfold signs
      rw [List.getElem?_map, Array.getElem?_toList, hc]
      rfl
    rw [e2] at e
    cases e
    have q := (signs_rds (g := g) (H := H2) (B := M1.B) z ok).get e2
    obtain ⟨v, ev, rv⟩ := q
    rw [List.getElem?_map, Array.getElem?_toList, hc] at ev
    cases ev
    exact ⟨M1, Ext.refl _ _, rh, .d rv⟩
theorem si_txt {tg l : Expr} {xa : XE} (hl : PE X l (rdE g Z xa)) : PI X tg l (rdI g Z (iTxt xa)) :=
  PI.imp (pi_str hl) fun σ H R ⟨r, h, M, fl, rs, rh, p⟩ => ⟨r, h, M, fl, rs, rh, Po.bind p fun w h1 v H1 M1 e1 rh1 rw1 p1 => by
    cases ew : w.str? with
    | none => rw [ew] at p1; exact p1.elim
    | some z =>
      rw [ew] at p1
      rw [W.str?_some ew] at rw1
      obtain ⟨rfl, ok⟩ := rw1.str_inv
      exact ⟨z, rfl, p1 _ H1 M1 (Ext.refl _ _) rh1 (ItOk.txt ok)⟩⟩
end
end
end Xs

/-! XsAC: texts that are written, compared. -/
namespace Xs
open PySem
theorem map_toNat : ∀ l m : List Char, l.map Char.toNat = m.map Char.toNat → l = m
  | [], [], _ => rfl
  | [], _ :: _, h => by cases h
  | _ :: _, [], h => by cases h
  | a :: l, b :: m, h => by
    rw [List.map_cons, List.map_cons, List.cons.injEq] at h
    rw [map_toNat l m h.2, show a = b from Char.ext (UInt32.toNat_inj.mp h.1)]
theorem ofS_inj {a b : String} (h : Str.ofString a = Str.ofString b) : a = b := by
  rw [Str.ofString_eq_toList, Str.ofString_eq_toList, Str.mk.injEq] at h
  have h2 := map_toNat _ _ (by simpa using congrArg Array.toList h)
  exact String.toList_inj.mp h2
@[simp] theorem ofS_eq (a b : String) : (Str.ofString a = Str.ofString b) = (a = b) := propext ⟨ofS_inj, fun h => h ▸ rfl⟩
@[simp] theorem ofS_beq (a b : String) : (Str.ofString a == Str.ofString b) = (a == b) := by
  by_cases h : a = b
  · subst h; simp
  · have : Str.ofString a ≠ Str.ofString b := fun q => h (ofS_inj q)
    rw [beq_eq_false_iff_ne.mpr this, beq_eq_false_iff_ne.mpr h]
end Xs

/-! XsAD: own exceptions whose __init__ says super().__init__(..), over ValueError. -/
namespace Xs
noncomputable section
open PySem PySem.Spec PyProof.Rows L2
/-- what is known of such a class D and of its __init__ at f -/
structure SupC (K : PySem.W.Frag) (P : Program) (D f cc cda : Addr) : Prop where
  cell : ∃ cl cld csl, K.lookup cc = some ⟨cl, cld, .cell (some (.ref D)), csl⟩
  code : ∃ ccl cdd vs ccs file tf, K.lookup cda = some ⟨ccl, cdd, .fields vs, ccs⟩ ∧ vs[2]? = some (.str file tf) ∧ ((P.main.file : Str) == file) = true
  top : (P.main.scope.names.lookup ("super" : Str)).isSome = false
  cls : ∃ cd, PySem.W.clsIn K D = some cd
  sub : PySem.W.mroIn K D (.ref D) = some true
  sup : PySem.W.ks_superIn K D D "__init__" = some (some (.builtin "ValueError.__init__"))
  ve : PySem.W.subIn K (.ref D) (.type "ValueError") = some true
  opq : PySem.W.nsIn K cStatics "thirdparty.any" = some none
section
variable {X : Cx} {pins : List (Addr × Obj)} {σ : L2.St} {H : Hp} {s : Shared}
theorem call_mw {D a u : Addr} {rest : List Value} {A : Around} {E : Value → Shared → Prop} {Q : Value → Shared → Prop} (T : OexC X.K D) (I : Inv X pins σ H s) (ea : H a = some (exo a D none)) (hu : s.heap.get? u = some (PySem.W.kxs_mw "ValueError.__init__" a)) (hl : rest.length ≤ sizeLine)
    (h : ∀ s', Inv X pins σ H s' → Q .none s') : wpAny (model X.prog X.w) A (call (.ref u) rest) Q E s := by
  obtain ⟨nm, q, N, bs, bm, sn, sub, ab, col, dd, k0, k1, k2, k3, k5, hC, hbm⟩ := T.cls
  have hC1 := I.kIn _ _ hC
  obtain ⟨t1, he⟩ := exo_at I.hok ea
  obtain ⟨hp, g, d, t, os⟩ := s
  refine wpAny_call (PySem.codeAny_of_tree ?_)
  show wpAny _ A.in1 (callAny (.ref u) ⟨rest, []⟩) _ _ _
  simp only [callAny]
  refine wpAny_bind (wpAny_load hu ?_)
  simp only [PySem.W.kxs_mw, show (Value.type "method-wrapper" == Value.type "method" || Value.type "method-wrapper" == Value.type "builtin_function_or_method" || Value.type "method-wrapper" == Value.type "method-wrapper") = true by decide, if_true]
  refine PySem.W.KFB.if_so (by decide) ?_
  refine wpAny_bind (PySem.W.check_bound_init F.excBase_ValueError.toExcCallFacts hC1 he rfl ?_)
  refine wpAny_bind (wpAny_pure (wpAny_pure ?_))
  refine ⟨Code.quiet_builtin _ (by decide +kernel), codeAny_builtin F.excBase_ValueError.initEntry ?_⟩
  refine PySem.W.exc_init_tree (cls := .ref D) (t0 := t1) (dv := none) (c2 := .none) (c3 := .none) (b4 := .bool false) he hl fun h' k e' _ => ?_
  have J := I.write (t' := t) (x := a) (e := a) (o := exo a D none) (by rw [ea]; exact True.intro) (.inl rfl) k ⟨_, e'⟩ (exo_ok e')
  have eu : upd H a (exo a D none) = H := by
    funext b
    by_cases hb : b = a
    · rw [hb, upd_same, ea]
    · rw [upd_ne hb]
  rw [eu] at J
  exact h _ J
theorem sup_stmt {body : List Stmt} {e : Expr} {ta : TA} {a D cc cda f : Addr} {p0 p1 p2 p3 p4 : Pos} {fd : FuncData} {ar : Arg} {i : Nat} {pl : Sem Bool} {R : Hp → Prop} {oc : Value} {od : Option Addr} {osl : Array (Option Value)}
    (C : SupC X.K X.prog D f cc cda) (T : OexC X.K D) (I : Inv X pins σ H s) (hks : X.env.kindOf "super" = some .globalImplicit) (hkc : X.env.kindOf "__class__" = some .free) (hfu : X.env.func = some f) (hco : X.env.code = .ref cda)
    (lkf : X.K.lookup f = some ⟨oc, od, .func fd, osl⟩) (hp : (fd.params.posonlyargs ++ fd.params.args).head? = some ar) (hcl : X.env.cells.lookup ("__class__" : Str) = some cc) (hka : X.env.kindOf ar.arg = some .local) (hN : X.N[i]? = some ar.arg) (hσ : σ[i]? = some (some (.ref a)))
    (hmg : X.mg "super" = none) (ea : H a = some (exo a D none)) (hpa : PA X [e] ta) (h : ta σ H fun ws H1 => ws.length ≤ 1000 ∧ H1 a = some (exo a D none) ∧ R H1)
    (he : starEach [e] X.env = (false, eval e X.env) :: starEach [] X.env := by rfl)
    (hc : eval (.Call (.Attribute (.Call (.Name "super" p0) [] [] p1) "__init__" p2) [e] [] p3) X.env = (do
      let ov ← attributeBase (.Call (.Name "super" p0) [] [] p1) "__init__" X.env (eval (.Call (.Name "super" p0) [] [] p1) X.env)
      standAt p2.atName
      let (f, first) ← holding [ov] (getMethod ov "__init__" pl)
      callWith p3 f first (backTo p3 (starEach [e] X.env)) []) := by rfl) :
    PySem.wpAt (model X.prog X.w) X.A (.func body X.env) (exec (.Expr (.Call (.Attribute (.Call (.Name "super" p0) [] [] p1) "__init__" p2) [e] [] p3) p4) X.env) (fun fl s' => fl = .next ∧ ∃ H1, Inv X pins σ H1 s' ∧ R H1) X.xe s := by
  refine PySem.ks_wpAt_Expr_any ?_ (hi := I.quiet)
  refine PySem.ks_wpAt_MethodCall (pl := pl) ?_ hc
  obtain ⟨ccl, cdd, fvs, ccs, file, tf, lkc, hvs, hfile⟩ := C.code
  obtain ⟨cl, cld, csl, lcc⟩ := C.cell
  obtain ⟨cd, hD⟩ := C.cls
  have KX := I.kIn
  obtain ⟨oD, hD1, hD2⟩ : ∃ oD, s.heap.get? D = some oD ∧ oD.data = .cls cd := by
    unfold PySem.W.clsIn at hD
    split at hD
    · rename_i hl
      cases hD
      exact ⟨_, KX _ _ hl, rfl⟩
    · cases hD
  obtain ⟨t1, hea⟩ := exo_at I.hok ea
  obtain ⟨m, hns, look⟩ := I.loc
  obtain ⟨ua, rua, lka⟩ := look i ar.arg (.ref a) hN hσ (.inl hka)
  obtain rfl : ua = Value.ref a := rua
  have hm : m ar.arg = some (.ref a) := by
    rcases lka with ⟨_, z⟩ | ⟨z, _⟩
    · exact z
    · rw [hka] at z
      rcases z with z | z <;> cases z
  refine PySem.ks_wpAt_super_base hks hkc (by decide) hfu (KX _ _ lkf) rfl hp hco (KX _ _ lkc) rfl hvs hfile C.top ?_
  obtain ⟨mb, b1, b2⟩ := I.mod.blt
  refine PySem.W.ks_loadName_global I.ok.kind hks (Calls.loadGlobal_builtin (by rw [I.ok.glob]; exact I.mod.glob.keeps I.bk) hmg (by rw [I.ok.blt]; exact b1.keeps I.bk) ((b2 "super" (by decide)).trans (by kernel_rfl : bootBuiltins "super" = some (.type "super"))) ⟨rfl, ?_⟩)
  refine wpAny_loadName_free I.ok.kind hkc hcl ⟨_, KX _ _ lcc, rfl⟩ ?_
  refine wpAny_loadName_local I.ok.kind hka hns hm ?_
  refine PySem.ks_wpAny_isType_cls hD1 hD2 ⟨rfl, ?_⟩
  refine PySem.ks_wpAny_call_super hD1 hD2 hea rfl (fun c z => nomatch z) (PySem.W.looks_mroIn KX C.sub) (fun h1 e1 k1 => ?_)
  have J1 : Inv X pins σ H ⟨h1, s.gens, s.drawn, s.toks, s.os⟩ := I.kept (t' := s.toks) k1
  have hI : PySem.W.Looks (model X.prog X.w) h1 (isInstance (.ref a) (.type "ValueError")) true := by
    have ia : PySem.W.InstAt h1 a { cls := .ref D, data := .fields #[.ref t1, .none, .none, .none, .bool false, .none] } D none := ⟨k1 _ _ hea, rfl, rfl, trivial⟩
    exact ia.type.andThen (PySem.W.looks_subIn J1.kIn C.ve)
  have hf := C.sup
  unfold PySem.W.ks_superIn at hf
  rw [hD, Option.bind_some] at hf
  have aD : a ≠ D := fun z => by
    rw [z] at hea
    rw [hea] at hD1
    cases hD1
    cases hD2
  refine PySem.W.kxs_getMethod PySem.W.kxs_ValueError e1 (PySem.W.looks_opaque J1.kIn C.opq) ((PySem.W.looks_clsIn J1.kIn hD).andThen .now) rfl J1.kIn hf hI aD (by decide) ?_
  have J2 : Inv X pins σ H ⟨h1.push (PySem.W.kxs_mw "ValueError.__init__" a), s.gens, s.drawn, s.toks + 1, s.os⟩ := J1.kept (t' := s.toks + 1) fun b o z => Heap.get?_push_of_some _ z
  have hu : (h1.push (PySem.W.kxs_mw "ValueError.__init__" a)).get? h1.objs.size = some (PySem.W.kxs_mw "ValueError.__init__" a) := Heap.get?_push_at rfl rfl
  have J3 : Inv X (pins ++ [(h1.objs.size, PySem.W.kxs_mw "ValueError.__init__" a)]) σ H ⟨h1.push (PySem.W.kxs_mw "ValueError.__init__" a), s.gens, s.drawn, s.toks + 1, s.os⟩ := J2.pins_of fun p hp => by
    rcases List.mem_append.mp hp with z | z
    · exact J2.pin p (List.mem_append_right _ z)
    · rw [List.mem_singleton.mp z]
      have fp := J1.fpOk (H' := H) (Nat.le_refl _) J1.fresh
      exact ⟨hu, fp.1, fp.2.1, fp.2.2.1, fun v q => nomatch q⟩
  show wpAny _ _ (callWith p3 (.ref h1.objs.size) [] (backTo p3 (starEach [e] X.env)) []) _ _ _
  rw [he]
  refine PySem.W.kxs_callWith (i := "ValueError.__init__") (x := a) rfl ?_
  refine Calls.evalArgs_plain ?_
  have run := hpa.run p3 _ _ σ H _ J3 h
  rw [he] at run
  refine thn run fun us s1 ⟨vs, H1, I1, r1, hlen, ea1, q⟩ => ?_
  have hu1 := (I1.pin (h1.objs.size, PySem.W.kxs_mw "ValueError.__init__" a) (List.mem_append_right _ (List.mem_append_right _ (List.mem_singleton.mpr rfl)))).1
  have I2 : Inv X pins σ H1 s1 := I1.unpinned
  have hz : us.length ≤ sizeLine := by
    rw [← Paired.length r1, sizeLine_eq]
    omega
  exact ⟨hu1, call_mw T I2 ea1 hu1 hz fun s' J => ⟨rfl, H1, J, q⟩⟩
end
/-! ### the def -/
/-- what def __init__(self, y): super().__init__(e); self.n = y promises, e computed by xe -/
def spX (g : G) (C : Addr) (n : Str) (xe : XE) : Sp := fun vs H Q E => ∃ (a : Addr) (v : V) (x : D) (M : Mu) (fls : List Nat) (h : Sto) (w : W) (h1 : Sto), vs = [.ref a, v] ∧ RH g H M fls h ∧ RD g H M.B v x ∧ H a = some (exo a C none) ∧ a ∉ M.m ∧ xe [none, some (.d x), none] h = .ok w h1 ∧
  ∀ H1 M1 dx, Ext H M H1 M1 → RH g H1 M1 fls h1 → H1 a = some (exo a C none) → H1 dx = none → dx ≠ a → Q .non (upd (upd H1 dx (exd dx [(n, v)])) a (exo a C (some dx)))
theorem stays_exo {e C : Addr} {d : Option Addr} {x : Option HO} (h : Stays (exo e C d) x) : x = some (exo e C d) := h
section
open NdefX
variable {P : Program} {w : World} {K : PySem.W.Frag} {mg : Str → Option Value} {base : Heap} {k : Nat} {f : Addr}
theorem fn_sup {Fn : NF} {C cc : Addr} {y n : Str} {g : G} {xe : XE} {e : Expr} {p0 p1 p2 p3 p4 q0 q1 q2 q3 : Pos} {oc kV doc pm ctv : Value} {od an : Option Addr} {osl : Array (Option Value)} {pl : Sem Bool} {ar : Arg}
    (lk : K.lookup f = some ⟨oc, od, .func (PySem.W.fnX Fn.name Fn.qual Fn.params Fn.body Fn.scope Fn.cl .none kV doc pm an (.ref Fn.c) ctv), osl⟩) (hcd : PySem.W.codeIn K (.ref Fn.c) Fn.qual = true) (hcl : Fn.cl = [(("__class__" : Str), cc)])
    (S : NScope [("self" : Str), y, ("__class__" : Str)] [("self" : Str), y] ["__class__"] Fn.scope) (hks : Fn.scope.names.lookup ("super" : Str) = some .globalImplicit) (hmg : mg "super" = none)
    (hp : (Fn.params.posonlyargs ++ Fn.params.args).head? = some ar) (har : ar.arg = "self") (SC : SupC K P C f cc Fn.c) (T : OexC K C) (hn : PySem.W.findIn K (.ref C) n = some none)
    (hb : Fn.body = [.Expr (.Call (.Attribute (.Call (.Name "super" p0) [] [] p1) "__init__" p2) [e] [] p3) p4, .Assign [.Attribute (.Name "self" q0) n q1] (.Name y q2) q3])
    (hd : (y == ("__debug__" : Str)) = false) (hd2 : (y == ("__classdict__" : Str)) = false)
    (hst : ∀ env, starEach [e] env = (false, eval e env) :: starEach [] env)
    (hc : ∀ env, eval (.Call (.Attribute (.Call (.Name "super" p0) [] [] p1) "__init__" p2) [e] [] p3) env = (do
      let ov ← attributeBase (.Call (.Name "super" p0) [] [] p1) "__init__" env (eval (.Call (.Name "super" p0) [] [] p1) env)
      standAt p2.atName
      let (f, first) ← holding [ov] (getMethod ov "__init__" pl)
      callWith p3 f first (backTo p3 (starEach [e] env)) []))
    (he : ∀ (A : Around) (outer : List PySem.Env) (s : Shared) (H : Hp) (E : XK), PE (ncx (L2.CX P w) P w K mg base [("self" : Str), y, ("__class__" : Str)] Fn f A outer s H E) e (rdE g (fun _ _ _ _ => False) xe))
    (hsw : ∀ env, swapsWith (.Name y q2) (some (.Attribute (.Name "self" q0) n q1)) q3.line env = pure false) :
    FnOk P w K mg base (L2.CX P w) (k + 1) f (PySem.W.fnX Fn.name Fn.qual Fn.params Fn.body Fn.scope Fn.cl .none kV doc pm an (.ref Fn.c) ctv) [("self" : Str), y] (spX g C n xe) := by
  refine ⟨fun vs H Q E ⟨a, v, _, _, _, _, _, _, ev, _⟩ => by rw [ev]; rfl, fun A outer s H args us vs Q E hr e0 hbt r hsp => ?_⟩
  obtain ⟨a, v, x, M, fls, h, w1, h1, rfl, rh, rx, ea, am, ex, post⟩ := hsp
  have KX : K.In s.heap := e0.mod.kin.keeps fun b o z => (e0.bs b o z).1
  have room : s.heap.NoLimit := e0.mod.nolimit.keeps fun b o z => (e0.bs b o z).1
  obtain ⟨cl, cld, csl, lcc⟩ := SC.cell
  have ccn : H cc = none := (e0.bs cc _ (e0.mod.kin _ _ lcc)).2
  have CA : CellsAt Fn.cl ["__class__"] [none] s.heap H := by
    rw [hcl]
    refine ⟨rfl, fun z c e1 => ?_, fun z z' c e1 e2 => ?_, fun i z e1 => ?_⟩
    · simp only [List.lookup] at e1
      split at e1
      · cases e1
        exact ⟨ccn, _, ⟨_, KX _ _ lcc, rfl⟩⟩
      · cases e1
    · simp only [List.lookup] at e1 e2
      split at e1
      · rename_i q1
        split at e2
        · rename_i q2
          rw [beq_iff_eq.mp q1, beq_iff_eq.mp q2]
        · cases e2
      · cases e1
    · cases i with
      | succ i => simp at e1
      | zero =>
        cases e1
        exact ⟨cc, by simp [List.lookup], fun v z => by simp at z⟩
  have hbody : (PySem.W.fnX Fn.name Fn.qual Fn.params Fn.body Fn.scope Fn.cl .none kV doc pm an (.ref Fn.c) ctv).body = .stmts Fn.body := rfl
  refine PySem.ks_codeAny_call_defAt (body := Fn.body) hr.depth (KX _ _ lk) rfl room (PySem.W.codeRec_of KX hcd) hbody hbt S.nocell (fun q hq => S.par _ (List.of_mem_zip hq).1) (fun h0 hns kp => ?_) S.co S.gen S.kind
  have I := inv_startN (CX := L2.CX P w) (P := P) (K := K) (mg := mg) (E := E) (F := Fn) (f := f) (N := [("self" : Str), y, ("__class__" : Str)]) (tk := s.toks + ([("self" : Str), y].zip us).length) S hr.hd e0 rfl r CA hns kp
  rw [hb]
  refine PySem.ks_wpAt_execs_cons ?_
  have heX := he A outer s H E
  have pre : rdA g (fun _ _ _ _ => False) (xCons xe xNil) (startF [("self" : Str), y, ("__class__" : Str)] [V.ref a, v] [none]) H fun ws H1 => ws.length ≤ 1000 ∧ H1 a = some (exo a C none) ∧
      tOst K n (tVar 0) (tVar 1) { nx := fun _ H' => Q .non H', rt := Q } (startF [("self" : Str), y, ("__class__" : Str)] [V.ref a, v] [none]) H1 := by
    refine ⟨[none, some (.d x), none], h, M, fls, ⟨rfl, fun i w e1 => ?_⟩, rh, ?_⟩
    · match i, e1 with
      | 0, e1 => cases e1
      | 1, e1 => cases e1; exact ⟨v, rfl, .d rx⟩
      | 2, e1 => cases e1
      | i + 3, e1 => simp at e1
    · simp only [xCons, xNil, ex, Re.bind]
      intro ws H1 M1 x1 rh1 rws
      have ea1 : H1 a = some (exo a C none) := stays_exo (x1.old a _ ea am).1
      refine ⟨by cases rws with | cons _ t => cases t; simp, ea1, v, rfl, .ref a, rfl, a, C, rfl, T, hn, .inl ⟨ea1, fun dx d1 d2 => post H1 M1 dx x1 rh1 ea1 d1 d2⟩⟩
  refine PySem.ks_wpAt_mono (sup_stmt (i := 0) (pl := pl) SC T I hks (S.frk _ (List.mem_singleton.mpr rfl)) rfl rfl lk hp (by show Fn.cl.lookup _ = _; rw [hcl]; simp [List.lookup]) (by rw [har]; exact S.par _ List.mem_cons_self) (by rw [har]; rfl) rfl hmg ea (sa_cons heX sa_nil (hst _)) pre (hst _) (hc _)) (fun fl s1 ⟨efl, H1, I1, R1⟩ => ?_) fun e s' z => z
  subst efl
  have ps := pss_one (ps_ost (X := ncx (L2.CX P w) P w K mg base [("self" : Str), y, ("__class__" : Str)] Fn f A outer s H E) (f := n) (p' := q1) (pos := q3)
    (pe_var (i := 0) (x := "self") (pos := q0) rfl (.inl (S.par _ List.mem_cons_self))) (pe_var (i := 1) (x := y) (pos := q2) rfl (.inl (S.par _ (List.mem_cons_of_mem _ (List.mem_singleton.mpr rfl)))) hd hd2) (hsw _))
  refine PySem.wpAt_of_wpAny (wpAny_mono (ps.run [] s1 _ H1 _ I1 R1) (fun fl s' hs => ?_) fun e s' hs => hs)
  cases fl with
  | ret u =>
    obtain ⟨v, σ', H', J, rv, q⟩ := hs
    exact ⟨v, H', J.os, J.bare, J.base, J.hok, rv, q⟩
  | next =>
    obtain ⟨σ', H', J, q⟩ := hs
    exact ⟨V.non, H', J.os, J.bare, J.base, J.hok, rfl, q⟩
  | brk => obtain ⟨_, _, _, q⟩ := hs; exact q.elim
  | cont => obtain ⟨_, _, _, q⟩ := hs; exact q.elim
end
/-! ### raise C(e) -/
/-- a may change -/
def Mu.tmp (M : Mu) (a : Addr) : Mu := ⟨fun b => M.B b ∨ b = a, M.m⟩
section
variable {g : G} {Z : WX} {H H1 H2 : Hp} {M M1 M2 : Mu} {fl : List Nat} {h h1 h2 : Sto} {a C dx : Addr} {u : HO} {X : Cx} {pos : Pos}
theorem Ext.tmp (hp : H a = none) (q : RH g H M fl h) : Ext H M (upd H a u) (M.tmp a) := by
  have ne : ∀ b o, H b = some o → b ≠ a := fun b o e => ne_of_none e hp
  exact ⟨fun _ _ e => e, fun b o e n => ⟨.of (by rw [upd_ne (ne b o e)]; exact e), n⟩, fun b o e => ⟨.inl, fun z => z.elim id fun z => absurd z (ne b o e)⟩, fun b xs e => by rw [upd_ne (ne b _ e)]; exact e, fun b o u e => by rw [upd_ne (ne b _ e)]; exact e, fun b o e => ⟨o, by rw [upd_ne (ne b o e)]; exact e⟩⟩
theorem RH.tmp (hp : H a = none) (q : RH g H M fl h) : RH g (upd H a u) (M.tmp a) fl h :=
  q.ext (Ext.tmp hp q) rfl (fun b hb => .inl (q.sub b hb)) fun b hb => by
    obtain ⟨o, u, e, _⟩ := q.mem hb
    rw [upd_ne (ne_of_none e hp)]
theorem RH.notin (hp : H a = none) (q : RH g H M fl h) : a ∉ M.m := fun z => by
  obtain ⟨o, u, e, _⟩ := q.mem z
  rw [hp] at e
  cases e
/-- the object at a is let go -/
theorem let_go (hp : H1 a = none) (q1 : RH g H1 M1 fl h1) (x : Ext (upd H1 a (exo a C none)) (M1.tmp a) H2 M2) (q2 : RH g H2 M2 fl h2) (ea : H2 a = some (exo a C none)) : Ext H1 M1 (del H2 a) M2 ∧ RH g (del H2 a) M2 fl h2 ∧ Exw H2 M2 (del H2 a) M2 := by
  have ne : ∀ b o, H1 b = some o → b ≠ a := fun b o e => ne_of_none e hp
  have at1 : ∀ b o, H1 b = some o → (upd H1 a (exo a C none)) b = some o := fun b o e => by rw [upd_ne (ne b o e)]; exact e
  have Ba : M2.B a := (x.bb a _ upd_same).mp (.inr rfl)
  have am0 : a ∉ (M1.tmp a).m := RH.notin (M := M1) hp q1
  have am : a ∉ M2.m := (x.old a _ upd_same am0).2
  have w : Exw H2 M2 (del H2 a) M2 := by
    refine ⟨fun _ _ e => e, fun b o e n => ⟨.of ?_, n⟩, fun b xs e => ?_, fun b o u e => ?_⟩
    · rw [del_ne fun z => n (by rw [z]; exact Ba)]
      exact e
    · rw [del_ne (at_ne ea e exo_tup)]
      exact e
    · rw [del_ne (at_ne ea e exo_frz)]
      exact e
  refine ⟨⟨x.pre, fun b o e n => ?_, fun b o e => ?_, fun b xs e => ?_, fun b o u e => ?_, fun b o e => ?_⟩, ⟨q2.nd, q2.sub, q2.len, fun n b o e1 e2 => ?_, q2.cl, q2.fle, fun p hp2 => ?_⟩, w⟩
  · obtain ⟨s1, s2⟩ := x.old b o (at1 b o e) n
    exact ⟨by rw [del_ne (ne b o e)]; exact s1, s2⟩
  · exact ⟨fun z => (x.bb b o (at1 b o e)).mp (.inl z), fun z => ((x.bb b o (at1 b o e)).mpr z).elim id fun z => absurd z (ne b o e)⟩
  · rw [del_ne (ne b _ e)]
    exact x.tup b xs (at1 b _ e)
  · rw [del_ne (ne b _ e)]
    exact x.frz b o u (at1 b _ e)
  · rw [del_ne (ne b _ e)]
    exact x.dom b o (at1 b o e)
  · obtain ⟨u, e3, e4⟩ := q2.ev n b o e1 e2
    exact ⟨u, by rw [del_ne fun z => am (by rw [← z]; exact List.mem_of_getElem? e1)]; exact e3, e4.mw w⟩
  · obtain ⟨ps, e3, e4⟩ := q2.tb p hp2
    exact ⟨ps, by rw [del_ne (at_ne ea e3 exo_tbl)]; exact e3, e4⟩
/-- raise c(v), its __init__ as spX tells -/
def sRaise (c n : Str) (xe : XE) (xa : XE) : XS := fun r h => (xa r h).then r fun w h1 => match w with
  | .d x => match xe [none, some (.d x), none] h1 with
    | .ok _ h2 => .exc ⟨c, [(n, x)]⟩ r h2
    | _ => .stuck
  | _ => .stuck
theorem ss_raise {c n cx : Str} {xe xa : XE} {e : Expr} {p p1 : Pos} {fI : Addr} {k : Nat} {fd : FuncData} {y : Str} (tk : Takes X Z) (hcalm : X.calm = true) (hcm : g.cm c = some C) (T : OexC X.K C)
    (iC : PySem.W.findIn X.K (.ref C) "__init__" = some (some (.ref fI))) (tI : PySem.W.typeIn X.K (.ref fI) = some (.type "function")) (F1 : FnOk X.prog X.w X.K X.mg X.base (L2.CX X.prog X.w) k fI fd [("self" : Str), y] (spX g C n xe))
    (hr : Room (k + 1) X.A) (hb : Binds X.K fd [("self" : Str), y] []) (hg : Gl X cx) (hm : X.mg cx = some (.ref C)) (ha : PE X e (rdE g Z xa))
    (hdb : (cx == ("__debug__" : Str)) = false := by decide) (he : starEach [e] X.env = (false, eval e X.env) :: starEach [] X.env := by rfl) :
    PS X (.Raise (some (.Call (.Name cx p) [e] [] p1)) none pos) (rdS g Z (sRaise c n xe xa)) := by
  refine PS.imp (ps_raise hcalm tk (pmk_oex (ds := []) (dvs := []) T iC tI F1 hr hb .nil (passes_call tk fun _ _ _ _ z => z.elim) hg hm (sa_cons ha sa_nil he) hdb he)) fun D σ H ⟨r, h, M, fl, rs, rh, p⟩ => ?_
  refine ⟨r, h, M, fl, rs, rh, ?_⟩
  have key := Po.then rs rh.sub p (Q1 := fun v H1 => ∀ a, H1 a = none → spX g C n xe [.ref a, v] (upd H1 a (exo a C none)) (fun v H2 => v = .non ∧ ∃ (d : Addr) (fs : List (Str × V)), H2 a = some (exo a C (some d)) ∧ H2 d = some (exd d fs) ∧ H1 d = none ∧ Z (.ref C) (some d) σ (upd (del H2 a) d (.xd fs))) (fun _ _ _ => False)) (R := RW g) fun w h1 v H1 M1 e1 rs1 rh1 rw1 p1 => ?_
  · simp only [xCons, xNil]
    cases ex : xa r h with
    | ok w h1 =>
      rw [ex] at key
      intro vs H1 M1 x1 rh1 rws
      cases rws with
      | cons rv t =>
        cases t
        refine ⟨by simp, fun a hn => ?_⟩
        have := key _ H1 M1 x1 rh1 rv a hn
        simpa using this
    | exc e' h1 =>
      rw [ex] at key
      exact key
    | stuck => rw [ex] at key; exact key
  · intro a hn
    cases w with
    | d x =>
      simp only at p1
      cases ey : xe [none, some (.d x), none] h1 with
      | ok w2 h2 =>
        rw [ey] at p1
        simp only at p1
        have x0 : Ext H1 M1 (upd H1 a (exo a C none)) (M1.tmp a) := Ext.tmp hn rh1
        have am0 : a ∉ (M1.tmp a).m := RH.notin (M := M1) hn rh1
        cases rw1 with
        | d rx =>
          refine ⟨a, v, x, M1.tmp a, fl, h1, w2, h2, rfl, RH.tmp hn rh1, rx.mono x0 rh1.sub, upd_same, am0, ey, fun H2 M2 dx x2 rh2 ea2 hdx ne => ?_⟩
          obtain ⟨y1, y2, y3⟩ := let_go hn rh1 x2 rh2 ea2
          have d1 : H1 dx = none := by
            cases hz : H1 dx with
            | none => rfl
            | some o =>
              obtain ⟨o', q⟩ := x2.dom dx o (by rw [upd_ne ne]; exact hz)
              rw [hdx] at q
              cases q
          have hd2 : (del H2 a) dx = none := by rw [del_ne ne]; exact hdx
          refine ⟨rfl, dx, [(n, v)], upd_same, by rw [upd_ne ne, upd_same], d1, ?_⟩
          have eq : upd (del (upd (upd H2 dx (exd dx [(n, v)])) a (exo a C (some dx))) a) dx (.xd [(n, v)]) = upd (del H2 a) dx (.xd [(n, v)]) := by
            funext b
            by_cases b1 : b = dx
            · rw [b1, upd_same, upd_same]
            · rw [upd_ne b1, upd_ne b1]
              by_cases b2 : b = a
              · rw [b2, del_same, del_same]
              · rw [del_ne b2, del_ne b2, upd_ne b2, upd_ne b1]
          rw [eq]
          have z1 := Ext.freshF (u := .xd [(n, v)]) hd2 y2
          have z2 := RH.freshF (u := .xd [(n, v)]) y2 hd2
          have yz := y1.trans z1
          exact p1 (.ref C) (some dx) σ _ _ yz (rs1.mono yz rh1.sub) z2 ⟨C, rfl, hcm, .inr ⟨dx, [(n, v)], rfl, upd_same, fun q => q.2 rfl, .cons (rx.mono yz rh1.sub) .nil⟩⟩
      | exc _ _ => rw [ey] at p1; exact p1.elim
      | stuck => rw [ey] at p1; exact p1.elim
    | _ => exact p1.elim
end
end
end Xs

/-! XsAE: try .. except X as e, the suite returns data. -/
namespace Xs
noncomputable section
open PySem PySem.Spec PyProof.Rows L2
/-- not the exception that a suite holds -/
def W.nox : W → Bool
  | .x _ _ => false
  | _ => true
def O.nox : O → Bool
  | .lst ws => ws.all W.nox
  | .dct kws => kws.all fun p => p.2.nox
  | .ins _ kws => kws.all fun p => p.2.nox
def Sto.nox (h : Sto) : Bool := h.o.all O.nox
def G.held (g : G) (a : Addr) (c : Value) (d : Option Addr) : G := { g with xa := some (a, c, d) }
section
variable {g : G} {H H' : Hp} {M : Mu} {B : Addr → Prop} {fl : List Nat} {h : Sto} {v : V} {w : W} {a : Addr} {c : Value} {d : Option Addr}
mutual
theorem RD.held {v : V} {x : D} : RD g H B v x → RD (g.held a c d) H B v x
  | .non => .non
  | .bl b => .bl b
  | .int i => .int i
  | .str s h => .str s h
  | .tup h1 h2 => .tup h1 (RDs.held h2)
  | .lst h1 h2 => .lst h1 (RDs.held h2)
theorem RDs.held {v : List V} {x : List D} : RDs g H B v x → RDs (g.held a c d) H B v x
  | .nil => .nil
  | .cons h1 h2 => .cons (RD.held h1) (RDs.held h2)
end
mutual
theorem RD.unheld {v : V} {x : D} : RD (g.held a c d) H B v x → RD g H B v x
  | .non => .non
  | .bl b => .bl b
  | .int i => .int i
  | .str s h => .str s h
  | .tup h1 h2 => .tup h1 (RDs.unheld h2)
  | .lst h1 h2 => .lst h1 (RDs.unheld h2)
theorem RDs.unheld {v : List V} {x : List D} : RDs (g.held a c d) H B v x → RDs g H B v x
  | .nil => .nil
  | .cons h1 h2 => .cons (RD.unheld h1) (RDs.unheld h2)
end
theorem RDk.held {κ : Type} {v : List (κ × V)} {x : List (κ × D)} : RDk g H B v x → RDk (g.held a c d) H B v x
  | .nil => .nil
  | .cons h1 h2 => .cons (RD.held h1) (RDk.held h2)
theorem RDk.unheld {κ : Type} {v : List (κ × V)} {x : List (κ × D)} : RDk (g.held a c d) H B v x → RDk g H B v x
  | .nil => .nil
  | .cons h1 h2 => .cons (RD.unheld h1) (RDk.unheld h2)
theorem RW.held (hx : g.xa = none) (q : RW g H M v w) : RW (g.held a c d) H M v w := by
  cases q with
  | d q => exact .d q.held
  | l q => exact .l q
  | s q1 q2 => exact .s q1 q2.held
  | f q1 q2 => exact .f q1 q2.held
  | t => exact .t
  | ty => exact .ty
  | fn q => exact .fn q
  | x h1 => rw [hx] at h1; cases h1
  | x0 h1 _ => rw [hx] at h1; cases h1
theorem RW.unheld (hn : w.nox = true) (q : RW (g.held a c d) H M v w) : RW g H M v w := by
  cases q with
  | d q => exact .d q.unheld
  | l q => exact .l q
  | s q1 q2 => exact .s q1 q2.unheld
  | f q1 q2 => exact .f q1 q2.unheld
  | t => exact .t
  | ty => exact .ty
  | fn q => exact .fn q
  | x h1 => cases hn
  | x0 h1 => cases hn
theorem RWs.held {vs : List V} {ws : List W} (hx : g.xa = none) (q : RWs g H M vs ws) : RWs (g.held a c d) H M vs ws := L2.Paired.mapP q fun _ _ z => z.held hx
theorem RWk.held {κ : Type} {vs : List (κ × V)} {ws : List (κ × W)} (hx : g.xa = none) (q : RWk g H M vs ws) : RWk (g.held a c d) H M vs ws := L2.Paired.mapP q fun _ _ z => ⟨z.1, z.2.held hx⟩
theorem RWs.unheld : ∀ {vs : List V} {ws : List W}, ws.all W.nox = true → RWs (g.held a c d) H M vs ws → RWs g H M vs ws
  | _, _, _, .nil => .nil
  | _, _, hn, .cons q r => by
    rw [List.all_cons, Bool.and_eq_true] at hn
    exact .cons (q.unheld hn.1) (RWs.unheld hn.2 r)
theorem RWk.unheld {κ : Type} : ∀ {vs : List (κ × V)} {ws : List (κ × W)}, (ws.all fun p => p.2.nox) = true → RWk (g.held a c d) H M vs ws → RWk g H M vs ws
  | _, _, _, .nil => .nil
  | _, _, hn, .cons q r => by
    rw [List.all_cons, Bool.and_eq_true] at hn
    exact .cons ⟨q.1, q.2.unheld hn.1⟩ (RWk.unheld hn.2 r)
theorem RO.held {u : HO} {o : O} (hx : g.xa = none) (q : RO g H M u o) : RO (g.held a c d) H M u o := by
  cases u <;> cases o <;> first | exact False.elim q | skip
  · exact RWs.held hx q
  · exact RWk.held hx q
  · exact ⟨q.1, RWk.held hx q.2⟩
theorem RO.unheld {u : HO} {o : O} (hn : o.nox = true) (q : RO (g.held a c d) H M u o) : RO g H M u o := by
  cases u <;> cases o <;> first | exact False.elim q | skip
  · exact RWs.unheld hn q
  · exact RWk.unheld hn q
  · exact ⟨q.1, RWk.unheld hn q.2⟩
theorem RH.held (hx : g.xa = none) (q : RH g H M fl h) : RH (g.held a c d) H M fl h :=
  ⟨q.nd, q.sub, q.len, fun n b o e1 e2 => let ⟨u, e3, e4⟩ := q.ev n b o e1 e2; ⟨u, e3, e4.held hx⟩, q.cl, q.fle, q.tb⟩
theorem RH.unheld (hn : h.nox = true) (q : RH (g.held a c d) H M fl h) : RH g H M fl h :=
  ⟨q.nd, q.sub, q.len, fun n b o e1 e2 => let ⟨u, e3, e4⟩ := q.ev n b o e1 e2; ⟨u, e3, e4.unheld (List.all_eq_true.mp hn o (List.mem_of_getElem? e2))⟩, q.cl, q.fle, q.tb⟩
theorem RS.held {σ : L2.St} {r : Env} (hx : g.xa = none) (q : RS g H M σ r) : RS (g.held a c d) H M σ r :=
  ⟨q.len, fun i w e => let ⟨v, e1, z⟩ := q.ev i w e; ⟨v, e1, z.held hx⟩⟩
end
def sTry (sub : Str → Bool) (i : Nat) (body suite : XS) : XS := fun r h => match body r h with
  | .exc e r1 h1 => if sub e.c = true then (match suite (r1.set i (some (.x e.c e.fs))) h1 with
    | .rt (.d x) h2 => if h2.nox = true then .rt (.d x) h2 else .stuck
    | _ => .stuck) else .exc e r1 h1
  | f => f
section
variable {X : Cx} {g : G} {Z : WX} {pos pos' np : Pos}
theorem ss_try {sub : Str → Bool} {i : Nat} {x n : Str} {cv : Value} {body suite : List Stmt} {b₀ : Stmt} {xb xs : XS} (hx : g.xa = none) (hs : X.stack = X.env :: X.outer) (hf : X.env.frame = some X.env.locals) (hN : X.N.Nodup) (hi : X.N[i]? = some n) (hln : X.env.kindOf n = some .local) (hc : Names X x cv) (tk : Takes X Z)
    (hsub : ∀ c C, g.cm c = some C → PySem.W.exmOne X.K (.ref C) cv = some (sub c))
    (hb : ∀ (W : WX) (pn : List (Addr × Obj)) (xe : Value → Shared → Prop), Takes (X.tr pn xe) W → PassesOwn (model X.prog X.w) X.A X.env xe → PSs (X.tr pn xe) body (rdS g W xb))
    (hsu : ∀ (a : Addr) (oe : Obj) (cls : Value) (d : Option Addr) (pn : List (Addr × Obj)), Zc cls d oe → (∃ vs, oe.data = .fields vs) → PSs (X.suite a ((a, oe) :: pn)) (b₀ :: suite) (rdS (g.held a cls d) (fun _ _ _ _ => False) xs)) :
    PS X (.Try body [.ExceptHandler (some (.Name x np)) (some n) (b₀ :: suite) pos'] [] [] pos) (rdS g Z (sTry sub i xb xs)) := by
  refine PS.imp (ps_try_as hs hf hN hi hln hc tk hb hsu) fun D σ H ⟨r, h, M, fl, rs, rh, p⟩ => ⟨r, h, M, fl, rs, rh, ?_⟩
  unfold sTry at p
  cases eb : xb r h with
  | exc e r1 h1 =>
    rw [eb] at p
    simp only at p
    intro c d σ1 H1 M1 x1 rs1 rh1 rex
    obtain ⟨C, rfl, hcm, rest⟩ := rex
    refine ⟨sub e.c, hsub _ _ hcm, fun hb2 a ha => ?_, fun hb2 => ?_⟩
    · rw [if_pos hb2] at p
      have rx : RW (g.held a (.ref C) d) H1 M1 (.ref a) (.x e.c e.fs) := by
        rcases rest with ⟨z, rfl⟩ | ⟨dd, fs, rfl, hdd, nB, rk⟩
        · rw [z]
          exact .x0 rfl hcm
        · exact .x rfl hcm hdd nB rk.held
      refine ⟨r1.set i (some (.x e.c e.fs)), h1, M1, fl, (rs1.held hx).set rx, rh1.held hx, ?_⟩
      cases es : xs (r1.set i (some (.x e.c e.fs))) h1 with
      | rt w h2 =>
        rw [es] at p
        cases w with
        | d y =>
          simp only at p
          by_cases hn : h2.nox = true
          · rw [if_pos hn] at p
            intro v H2 M2 x2 rh2 rv
            exact p v H2 M2 (x1.trans x2) (rh2.unheld hn) (rv.unheld rfl)
          · rw [if_neg hn] at p
            exact p.elim
        | _ => exact p.elim
      | _ => rw [es] at p; exact p.elim
    · rw [if_neg (by rw [hb2]; exact Bool.false_ne_true)] at p
      exact p _ _ σ1 H1 M1 x1 rs1 rh1 ⟨C, rfl, hcm, rest⟩
  | nx _ _ => rw [eb] at p; exact p
  | rt _ _ => rw [eb] at p; exact p
  | bk _ _ => rw [eb] at p; exact p
  | ct _ _ => rw [eb] at p; exact p
  | stuck => rw [eb] at p; exact p
/-- e.n, e the exception that the suite holds -/
def xXf (n : Str) (xa : XE) : XE := fun r h => (xa r h).bind fun w h1 => match w with
  | .x _ fs => match fs.lookup n with
    | some y => .ok (.d y) h1
    | none => .stuck
  | _ => .stuck
end
end
end Xs

/-! XsAF: what a suite asks of the exception that it holds. -/
namespace Xs
noncomputable section
open PySem PySem.Spec PyProof.Rows L2
section
variable {X : Cx} {g : G} {a : Addr} {cls : Value} {d : Option Addr} {oe : Obj} {pn : List (Addr × Obj)} {pos p q : Pos}
/-- isinstance(e, c), e with a dict of its own -/
def rIsD (K : PySem.W.Frag) (a : Addr) (cls : Value) (d : Option Addr) (cv : Value) : List V → Hp → VK → Prop := fun xs H Q => ∃ (D : Addr) (c : V) (b : Bool), cls = .ref D ∧ ExcC K D ∧ xs = [.ref a, c] ∧ (∀ u, RelV c u → u = cv) ∧ PySem.W.kitOne K (.ref D) cv = some b ∧ (d = none ∨ ∃ dd fs, d = some dd ∧ H dd = some (.xd fs)) ∧ Q (.bl b) H
theorem call_isD {cv : Value} (hz : Zc cls d oe) (hf : ∃ vs, oe.data = .fields vs) : CallR (X.suite a ((a, oe) :: pn)) (.builtin "isinstance") (rIsD X.K a cls d cv) := by
  rintro pins s σ H xs us Q I r ⟨D, c, b, rfl, C, rfl, hcv, e, hx, q⟩
  cases r with
  | cons ra rr =>
    cases rr with
    | cons rc rr =>
      cases rr
      cases ra
      obtain rfl := hcv _ rc
      have at1 := (I.pin (a, oe) (List.mem_append.mpr (.inl List.mem_cons_self))).1
      obtain ⟨fvs, hv⟩ := hf
      obtain ⟨zd, J⟩ : ∃ zd, PySem.W.InstAt s.heap a oe D zd := by
        obtain ⟨o1, o2, o3, o4⟩ := oe
        obtain ⟨z1, z2⟩ := hz
        dsimp only at z1 z2 hv
        subst z1 z2 hv
        rcases hx with rfl | ⟨dd, fs, rfl, hx⟩
        · exact ⟨none, at1, rfl, rfl, trivial⟩
        · obtain ⟨mA, ⟨od, es, ep, hod, _⟩, _⟩ := (show ∃ mA, s.heap.Ns1 dd mA ∧ ∀ f, RelO (fs.lookup f) (mA f) from I.hok dd _ hx)
          exact ⟨some od, at1, rfl, rfl, hod⟩
      obtain ⟨cd, hcd, _⟩ := PySem.W.any_some C.hd
      have kx : PySem.W.KitX X.K (.ref a) (.ref D) (fun h => PySem.W.InstAt h a oe D zd) := PySem.W.kitx_exc (by rw [hcd]; rfl) C.hg C.hk C.hs C.ha C.hn C.ht C.hm
      exact PySem.W.kia_one kx I.kIn J e (fun z => nomatch z) fun tk => ⟨.bl b, H, I.kept (t' := tk) fun _ _ z => z, rfl, q⟩
/-- isinstance(e, ..) by the name of e's class -/
def xIsE (sub : Str → Option Bool) (xa : XE) : XE := fun r h => (xa r h).bind fun w h1 => match w with
  | .x c _ => match sub c with
    | some b => .ok (.d (.bl b)) h1
    | none => .stuck
  | _ => .stuck
theorem se_isE {sub : Str → Option Bool} {c : V} {cv : Value} {e ec : Expr} {xa : XE} (hz : Zc cls d oe) (hf : ∃ vs, oe.data = .fields vs) (hcv : ∀ u, RelV c u → u = cv)
    (hsub : ∀ n C b, g.cm n = some C → sub n = some b → ExcC X.K C ∧ PySem.W.kitOne X.K (.ref C) cv = some b)
    (hg : Gl (X.suite a ((a, oe) :: pn)) "isinstance") (hm : X.mg "isinstance" = none) (ha : PE (X.suite a ((a, oe) :: pn)) e (rdE (g.held a cls d) (fun _ _ _ _ => False) xa)) (hec : PE (X.suite a ((a, oe) :: pn)) ec (tC c))
    (h1 : starEach [e, ec] X.env = (false, eval e X.env) :: starEach [ec] X.env := by rfl) (h2 : starEach [ec] X.env = (false, eval ec X.env) :: starEach [] X.env := by rfl) (h3 : (backTo pos (starEach [ec] X.env)).any (·.1) = false := by rfl) :
    PE (X.suite a ((a, oe) :: pn)) (.Call (.Name "isinstance" p) [e, ec] [] pos) (rdE (g.held a cls d) (fun _ _ _ _ => False) (xIsE sub xa)) := by
  have pa : PA (X.suite a ((a, oe) :: pn)) [e, ec] _ := pa_cons ha (pa_cons hec pa_nil h2) h1
  refine PE.imp (pe_callB (call_isD (X := X) (pn := pn) (cv := cv) hz hf) hg hm (by kernel_rfl : bootBuiltins "isinstance" = some (.builtin "isinstance")) pa (he := h1) (hpl := h3)) fun σ H Q ⟨r, h, M, fl, rs, rh, p⟩ => ?_
  refine ⟨r, h, M, fl, rs, rh, Po.bind p fun w h1 v H1 M1 e1 rh1 rw1 p1 => ?_⟩
  show rIsD X.K a cls d cv [v, c] H1 Q
  cases w with
  | x n fs =>
    simp only at p1
    cases es : sub n with
    | none => rw [es] at p1; exact p1.elim
    | some b =>
      rw [es] at p1
      cases rw1 with
      | x z1 z2 z3 z4 z5 =>
        have z1 : some (a, cls, d) = some _ := z1
        cases z1
        obtain ⟨ex, kt⟩ := hsub _ _ _ z2 es
        exact ⟨_, c, b, rfl, ex, rfl, hcv, kt, .inr ⟨_, _, rfl, z3⟩, p1 (.bl b) H1 M1 (Ext.refl H1 M1) rh1 (.d (.bl b))⟩
      | x0 z1 z2 =>
        have z1 : some (a, cls, d) = some _ := z1
        cases z1
        obtain ⟨ex, kt⟩ := hsub _ _ _ z2 es
        exact ⟨_, c, b, rfl, ex, rfl, hcv, kt, .inl rfl, p1 (.bl b) H1 M1 (Ext.refl H1 M1) rh1 (.d (.bl b))⟩
  | _ => exact p1.elim
theorem RDk.look {H : Hp} {B : Addr → Prop} {n : Str} {y : D} : ∀ {vs : List (Str × V)} {xs : List (Str × D)}, RDk g H B vs xs → xs.lookup n = some y → ∃ v, vs.lookup n = some v ∧ RD g H B v y
  | _, _, .nil, h => by cases h
  | _, _, .cons (k := k) (v := v) r1 r2, h => by
    simp only [List.lookup] at h ⊢
    split at h
    · cases h
      exact ⟨v, rfl, r1⟩
    · exact RDk.look r2 h
/-- e.n, e of the class cn -/
def xXfC (cn n : Str) (xa : XE) : XE := fun r h => (xa r h).bind fun w h1 => match w with
  | .x c fs => if c = cn then (match fs.lookup n with
    | some y => .ok (.d y) h1
    | none => .stuck) else .stuck
  | _ => .stuck
theorem se_xf {C : Addr} {cn n : Str} {e : Expr} {xa : XE} (T : XfC X.K C) (hcm : g.cm cn = some C) (hno : PySem.W.findIn X.K (.ref C) n = some none) (hz : Zc cls d oe) (hf : ∃ vs, oe.data = .fields vs)
    (ha : PE (X.suite a ((a, oe) :: pn)) e (rdE (g.held a cls d) (fun _ _ _ _ => False) xa)) (hb : attributeBase e n X.env (eval e X.env) = eval e X.env := by rfl) :
    PE (X.suite a ((a, oe) :: pn)) (.Attribute e n pos) (rdE (g.held a cls d) (fun _ _ _ _ => False) (xXfC cn n xa)) := by
  refine PE.imp (pe_xf T hno hz hf ha hb) fun σ H Q ⟨r, h, M, fl, rs, rh, p⟩ => ?_
  refine ⟨r, h, M, fl, rs, rh, Po.bind p fun w h1 v H1 M1 e1 rh1 rw1 p1 => ?_⟩
  cases w with
  | x c fs =>
    simp only at p1
    by_cases hc : c = cn
    · rw [if_pos hc] at p1
      subst hc
      cases ey : fs.lookup n with
      | none => rw [ey] at p1; exact p1.elim
      | some y =>
        rw [ey] at p1
        cases rw1 with
        | x z1 z2 z3 z4 z5 =>
          have z1 : some (a, cls, d) = some _ := z1
          cases z1
          have z2 : g.cm c = some _ := z2
          rw [hcm] at z2
          cases z2
          obtain ⟨u, l1, l2⟩ := z5.look ey
          exact ⟨rfl, rfl, _, _, u, rfl, z3, l1, p1 u H1 M1 (Ext.refl H1 M1) rh1 (.d l2)⟩
        | x0 _ _ => cases ey
    · rw [if_neg hc] at p1
      exact p1.elim
  | _ => exact p1.elim
end
end
end Xs

/-! XsAG: texts with values put in. -/
namespace Xs
noncomputable section
open PySem PySem.Spec PyProof.Rows L2
section
variable {X : Cx} {g : G} {Z : WX} {pos : Pos}
/-- the text of a value within f'..' -/
@[simp] def fFmt (w : W) (h : Sto) : Re W := match w with
  | .d (.int i) => if i.natAbs.log2 < 1920 then .ok (.t (Str.ofString (toString i))) h else .stuck
  | .d (.str z) => if z.length ≤ lim then .ok (.t z) h else .stuck
  | _ => .stuck
theorem se_fmt {e : Expr} {xa : XE} (ha : PE X e (rdE g Z xa)) : PE X (.FormattedValue e (-1) none pos) (rdE g Z (xUn fFmt xa)) :=
  PE.imp (pe_fmt ha) fun σ H Q ⟨r, h, M, fl, rs, rh, p⟩ => ⟨r, h, M, fl, rs, rh, Po.bind p fun w h1 v H1 M1 e1 rh1 rw1 p1 => by
    unfold fFmt at p1
    split at p1
    · rename_i i
      obtain ⟨q, p1⟩ := po_ifP p1
      obtain rfl := rw1.int_inv
      exact .inr ⟨i, rfl, q, p1 _ H1 M1 (Ext.refl H1 M1) rh1 .t⟩
    · rename_i z
      obtain ⟨q, p1⟩ := po_ifP p1
      obtain ⟨rfl, _⟩ := rw1.str_inv
      exact .inl ⟨z, rfl, (lim_line ▸ q), p1 _ H1 M1 (Ext.refl H1 M1) rh1 .t⟩
    · exact p1.elim⟩
/-- parts put together -/
@[simp] def jsX : List XE → Str → Env → Sto → Re W
  | [], acc, _, h => .ok (.t acc) h
  | x :: xs, acc, r, h => (x r h).bind fun w h1 => match w with
    | .t y => if (acc ++ y).length ≤ lim then jsX xs (acc ++ y) r h1 else .stuck
    | .d (.str y) => if (acc ++ y).length ≤ lim then jsX xs (acc ++ y) r h1 else .stuck
    | _ => .stuck
inductive PJs (X : Cx) (g : G) (Z : WX) : List Expr → List XE → Prop where
  | nil : PJs X g Z [] []
  | cons {e : Expr} {x : XE} {es : List Expr} {xs : List XE} (h : PE X e (rdE g Z x)) (r : PJs X g Z es xs) : PJs X g Z (e :: es) (x :: xs)
theorem PJs.pj {es : List Expr} {xs : List XE} (h : PJs X g Z es xs) : PJ X es (xs.map fun x => rdE g Z x) := by
  induction h with
  | nil => exact .nil
  | cons a _ ih => exact .cons a ih
theorem js_rd : ∀ (xs : List XE) (acc : Str) {r : Env} {h : Sto} {H : Hp} {M : Mu} {fl : List Nat} {σ : L2.St} {Q : VK}, RS g H M σ r → RH g H M fl h → Po g Z σ fl (RW g) H M Q (jsX xs acc r h) →
    tJs (xs.map fun x => rdE g Z x) acc σ H fun out H1 => Q (.str out) H1
  | [], acc, r, h, H, M, fl, σ, Q, rs, rh, p => p _ H M (Ext.refl H M) rh .t
  | x :: xs, acc, r, h, H, M, fl, σ, Q, rs, rh, p => by
    refine ⟨r, h, M, fl, rs, rh, Po.bind p fun w h1 v H1 M1 e1 rh1 rw1 p1 => ?_⟩
    cases w with
    | t y =>
      cases rw1
      obtain ⟨q, p1⟩ := po_ifP p1
      exact ⟨y, rfl, (lim_line ▸ q), js_rd xs _ (rs.mono e1 rh.sub) rh1 p1⟩
    | d z =>
      cases z with
      | str y =>
        obtain ⟨rfl, _⟩ := rw1.str_inv
        obtain ⟨q, p1⟩ := po_ifP p1
        exact ⟨y, rfl, (lim_line ▸ q), js_rd xs _ (rs.mono e1 rh.sub) rh1 p1⟩
      | _ => exact p1.elim
    | _ => exact p1.elim
/-- f'..' of two parts and more -/
def xFs (xs : List XE) : XE := fun r h => jsX xs Str.empty r h
theorem se_fs {v1 v2 : Expr} {rest : List Expr} {xs : List XE} (h : PJs X g Z (v1 :: v2 :: rest) xs) : PE X (.JoinedStr (v1 :: v2 :: rest) pos) (rdE g Z (xFs xs)) :=
  PE.imp (pe_joined h.pj) fun σ H Q ⟨r, h, M, fl, rs, rh, p⟩ => js_rd xs Str.empty rs rh p
end
end
end Xs

/-! XsAH: text.replace of written texts. -/
namespace Xs
noncomputable section
open PySem PySem.Spec PyProof.Rows L2
section
variable {X : Cx} {g : G} {Z : WX}
def tRp (y z : Str) (to : TE) : TE := fun σ H Q => to σ H fun x H1 => ∃ a : Str, x = .str a ∧ a.length + (a.length + 1) * z.length ≤ 16777216 ∧ Q (.str (Txt.replace a y z)) H1
theorem PET.of {e : Expr} {t : TE} (h : PE X e t) : PET X e t := fun pins s σ H Q _ I q => h.run pins s σ H Q I q
theorem pet_rep {o : Expr} {to : TE} {y z : Str} {j0 j1 : Nat} {c0 c1 apos pos : Pos} (ho : PET X o to) (hyz : (y == z) = false)
    (hst : starEach [.Constant (.str y) j0 c0, .Constant (.str z) j1 c1] X.env = [(false, eval (.Constant (.str y) j0 c0) X.env), (false, eval (.Constant (.str z) j1 c1) X.env)] := by rfl)
    (hbase : attributeBase o "replace" X.env (eval o X.env) = eval o X.env := by rfl) (hline : (apos.endLine == pos.line) = true := by rfl) :
    PET X (.Call (.Attribute o "replace" apos) [.Constant (.str y) j0 c0, .Constant (.str z) j1 c1] [] pos) (tRp y z to) := by
  intro pins s σ H Q h0 I h
  refine PySem.Call_method2 hbase hst hline (wpAny_mono (PySem.wpAny_toks (ho pins s σ H _ h0 I h)) (fun v s1 hv => ?_) fun _ _ z => z.2)
  obtain ⟨hk, x, H1, I1, r1, a, ev, hb, q⟩ := hv
  subst ev
  obtain ⟨ta, rfl⟩ := r1
  refine ⟨"str", _, F.plainAttrs_str, F.slot_str_replace, F.type_str_replace, typeIs_str _ _ _, (fun _ e => nomatch e), Calls.callWith_builtin rfl (Calls.evalArgs_plain (Calls.spliced_cons ?_))⟩
  refine Calls.Constant_str (Calls.spliced_cons (Calls.Constant_str (Calls.spliced_nil ?_)))
  exact PySem.SC.replace (show s1.toks ≠ 0 by omega) (show s1.toks + 1 ≠ 0 by omega) (show s1.toks ≠ s1.toks + 1 by omega) hyz hb fun t' k => ⟨.str (Txt.replace a y z), H1, I1.tok k, ⟨t', rfl⟩, q⟩
/-- text.replace(y, z), both written -/
@[simp] def xRp (y z : Str) (xo : XE) : XE := fun r h => (xo r h).bind fun w h1 => match w.str? with
  | some a => if a.length + (a.length + 1) * z.length ≤ lim ∧ PyData.strOk (Txt.replace a y z) = true then .ok (.d (.str (Txt.replace a y z))) h1 else .stuck
  | none => .stuck
theorem PET.imp {e : Expr} {t t' : TE} (p : PET X e t) (f : ∀ σ H Q, t' σ H Q → t σ H Q) : PET X e t' := fun pins s σ H Q h0 I q => p pins s σ H Q h0 I (f σ H Q q)
theorem PST.imp {e : Stmt} {t t' : TS} (p : PST X e t) (f : ∀ D σ H, t' D σ H → t D σ H) : PST X e t' := fun pins s σ H D h0 I q => p pins s σ H D h0 I (f D σ H q)
theorem PSsT.imp {e : List Stmt} {t t' : TS} (p : PSsT X e t) (f : ∀ D σ H, t' D σ H → t D σ H) : PSsT X e t' := fun pins s σ H D h0 I q => p pins s σ H D h0 I (f D σ H q)
theorem set_rp {o : Expr} {xo : XE} {y z : Str} {j0 j1 : Nat} {c0 c1 apos pos : Pos} (ho : PET X o (rdE g Z xo)) (hyz : (y == z) = false := by decide +kernel)
    (hst : starEach [.Constant (.str y) j0 c0, .Constant (.str z) j1 c1] X.env = [(false, eval (.Constant (.str y) j0 c0) X.env), (false, eval (.Constant (.str z) j1 c1) X.env)] := by rfl)
    (hbase : attributeBase o "replace" X.env (eval o X.env) = eval o X.env := by rfl) (hline : (apos.endLine == pos.line) = true := by rfl) :
    PET X (.Call (.Attribute o "replace" apos) [.Constant (.str y) j0 c0, .Constant (.str z) j1 c1] [] pos) (rdE g Z (xRp y z xo)) :=
  PET.imp (pet_rep ho hyz hst hbase hline) fun σ H Q ⟨r, h, M, fl, rs, rh, p⟩ => ⟨r, h, M, fl, rs, rh, Po.bind p fun w h1 v H1 M1 e1 rh1 rw1 p1 => by
    cases e : w.str? with
    | none => rw [e] at p1; exact p1.elim
    | some a =>
      rw [e] at p1
      rw [W.str?_some e] at rw1
      obtain ⟨rfl, _⟩ := rw1.str_inv
      obtain ⟨q, p1⟩ := po_ifP p1
      exact ⟨a, rfl, Nat.le_trans q.1 (Nat.le_of_eq lim_eq), p1 _ H1 M1 (Ext.refl H1 M1) rh1 (.d (.str _ q.2))⟩⟩
theorem set_bin {a b : Expr} {xa xb : XE} {pos : Pos} {op : Operator} {F : W → W → Sto → Re W} (o : Op2 X g Z (binaryOp op) F) (ha : PET X a (rdE g Z xa)) (hb : PET X b (rdE g Z xb)) : PET X (.BinOp a op b pos) (rdE g Z (xBin F xa xb)) := by
  obtain ⟨r, ho, k⟩ := o
  refine PET.imp (t := tOp r (rdE g Z xa) (rdE g Z xb)) ?_ (rd_bin k)
  intro pins s σ H Q h0 I h
  refine wpAny_BinOp (wpAny_mono (PySem.wpAny_toks (ha pins s σ H _ h0 I h)) (fun v s1 hv => ?_) fun _ _ z => z.2)
  obtain ⟨hk, x, H1, I1, r1, q1⟩ := hv
  exact thn (hb pins s1 σ H1 _ (Nat.le_trans h0 hk) I1 q1) fun u s2 ⟨y, H2, I2, r2, q2⟩ => ho pins s2 σ H2 x y v u Q I2 r1 r2 q2
theorem st_ret {a : Expr} {xa : XE} {pos : Pos} (he : PET X a (rdE g Z xa)) : PST X (.Return (some a) pos) (rdS g Z (sRet xa)) := by
  intro pins s σ H D h0 I ⟨r, h, M, fl, rs, rh, p⟩
  exact wpAny_Return_some (thn (he pins s σ H (fun v H1 => D.rt v H1) h0 I ⟨r, h, M, fl, rs, rh, Po.then rs rh.sub p fun x h1 v H1 M1 e1 rs1 rh1 rx p1 => p1 v H1 M1 (Ext.refl H1 M1) rh1 rx⟩) fun v s1 ⟨x, H1, I1, r1, q1⟩ => ⟨x, σ, H1, I1, r1, q1⟩)
theorem st_set {a : Expr} {xa : XE} {i : Nat} {x : Str} {pos pos' : Pos} (hN : X.N.Nodup) (he : PET X a (rdE g Z xa)) (hi : X.N[i]? = some x := by rfl) (hx : Loc X.env.scope x := by first | exact Or.inl rfl | exact Or.inr rfl) (hs : swapsWith a (some (.Name x pos')) pos.line X.env = pure false := by rfl)
    (hf : X.fn x = true ∨ X.env.scope.names.lookup x = some .local := by first | exact .inl rfl | exact .inr rfl) : PST X (.Assign [.Name x pos'] a pos) (rdS g Z (sSet i xa)) := by
  intro pins s σ H D h0 I ⟨r, h, M, fl, rs, rh, p⟩
  refine wpAny_Assign_Name (thn (he pins s σ H (fun v H1 => D.nx (σ.set i (some v)) H1) h0 I ⟨r, h, M, fl, rs, rh, Po.then rs rh.sub p fun x h1 v H1 M1 e1 rs1 rh1 rx p1 => p1 _ H1 M1 (Ext.refl H1 M1) (rs1.set rx) rh1⟩) fun v s1 ⟨y, H1, I1, r1, q1⟩ => ?_) hs
  exact store_ok I1 hN hi hx r1 (fun s2 I2 => ⟨_, H1, I2, q1⟩) hf
theorem sst_one {st : Stmt} {u : XS} (h1 : PST X st (rdS g Z u)) : PSsT X [st] (rdS g Z u) := by
  refine PSsT.imp (psst_cons h1 (PSsT.of pss_nil)) fun D σ H q => ?_
  obtain ⟨r, h, M, fl, rs, rh, p⟩ := q
  exact ⟨r, h, M, fl, rs, rh, p⟩
theorem sst_cons {st : Stmt} {rest : List Stmt} {u u' : XS} (h1 : PST X st (rdS g Z u)) (h2 : PSsT X rest (rdS g Z u')) : PSsT X (st :: rest) (rdS g Z (sSeq u u')) :=
  PSsT.imp (psst_cons h1 h2) fun D σ H ⟨r, h, M, fl, rs, rh, p⟩ => ⟨r, h, M, fl, rs, rh, by
    have p : PoS g Z fl H M D ((u r h).seq u') := p
    cases e : u r h with
    | nx r1 h1 =>
      rw [e] at p
      exact fun σ1 H1 M1 e1 rs1 rh1 => ⟨r1, h1, M1, fl, rs1, rh1, PoS.ext e1 p⟩
    | _ =>
      rw [e] at p
      exact p⟩
end
section
variable {P : Program} {w : World} {K : PySem.W.Frag} {mg : Str → Option Value} {base : Heap} {k na nl : Nat} {f : Addr} {fd : FuncData} {ps N : List Str} {g : G} {body : XS} {x qual : Str} {st : Stmt}
/-- what is asked of a body at whose entry a token is out -/
abbrev BodyT (P : Program) (w : World) (K : PySem.W.Frag) (mg : Str → Option Value) (base : Heap) (f : Addr) (N : List Str) (g : G) (body : XS) (qual : Str) (st : Stmt) : Prop :=
  ∀ (cdv : Value) (A : Around) (outer : List PySem.Env) (s : Shared) (H : Hp) (E : XK),
    PSsT (cxOf (L2.CX P w) P w K mg base N qual (defScope st) f cdv A outer s H E) (defBody st) (rdS g (fun c d _ H => E c d H) body)
theorem fngIT (F : Fun K x qual st f fd) (S : FnScope N ps (defScope st)) (b : BodyT P w K mg base f N g body qual st) (hnc : ∀ y ∈ (defScope st).names, y.2 ≠ .cell) (hps : 1 ≤ ps.length) (hN : N.length = nl := by rfl) (hp : ps.length = na := by rfl) : FnG P w K mg base (k + 1) f fd ps (spF g (fnI na nl body)) := by
  obtain ⟨oc, od, kV, doc, pm, an, cdv, ct, osl, rfl, lk, hcd⟩ := F.ex
  have ok : FnOk P w K mg base (L2.CX P w) (k + 1) f (PySem.W.fnOf x qual (defArgs st) (defBody st) (defScope st) .none kV doc pm an cdv ct) ps (spF g (fnI na nl body)) :=
    fn_ofT lk hcd S hnc hps (fun vs H Q E h => fnI_len hp h) fun A outer s H vs Q E hr h => ⟨_, b cdv A outer s H E, readI hN h⟩
  exact ⟨ok.len, fun A outer s H args us vs Q E hr _ e0 hb r hsp => ok.run A outer s H args us vs Q E hr e0 hb r hsp⟩
end
end
end Xs

/-! XsAI: the module's own dicts, asked for a key that may be none. -/
namespace Xs
noncomputable section
open PySem PySem.Spec PyProof.Rows L2
/-- the entries are these texts -/
def Keyed : List DictEntry → List (Str × Str) → Prop
  | [], [] => True
  | e :: es, (k, d) :: l => (∃ t, e.key = .str k t) ∧ (∃ t, e.val = .str d t) ∧ Keyed es l
  | _, _ => False
def KTot (K : PySem.W.Frag) (w : World) (a : Addr) (l : List (Str × Str)) : Prop := ∃ es n, K.lookup a = some ⟨.type "dict", none, .dict es n, #[]⟩ ∧ PySem.W.KeysLit w.params es.toList ∧ (a == sysModules) = false ∧ Keyed es.toList l
theorem keyed_find {z : Str} : ∀ {es : List DictEntry} {l : List (Str × Str)}, Keyed es l → es.any (·.refKey) = false ∧ (match l.lookup z with
    | some d => ∃ e t, es.find? (·.key.isStr z) = some e ∧ e.val = .str d t
    | none => es.find? (·.key.isStr z) = none)
  | [], [], _ => ⟨rfl, rfl⟩
  | e :: es, (k, d) :: l, h => by
    obtain ⟨⟨t, h1⟩, ⟨t2, h2⟩, h3⟩ := h
    obtain ⟨i1, i2⟩ := keyed_find (z := z) h3
    have rk : e.refKey = false := by simp [DictEntry.refKey, h1]
    have ks : e.key.isStr z = (k == z) := by rw [h1]; rfl
    refine ⟨by simp [rk, i1], ?_⟩
    rw [List.lookup_cons, List.find?_cons, ks]
    by_cases hz : k = z
    · subst hz
      simp [h2]
    · have e1 : (k == z) = false := beq_eq_false_iff_ne.mpr hz
      have e2 : (z == k) = false := beq_eq_false_iff_ne.mpr fun q => hz q.symm
      rw [e1, e2]
      exact i2
  | [], _ :: _, h => h.elim
  | _ :: _, [], h => h.elim
section
variable {X : Cx} {g : G} {Z : WX}
theorem ktot_ns {K : PySem.W.Frag} {w : World} {a : Addr} {l : List (Str × Str)} {es : Array DictEntry} {n : Nat} {z : Str} (hl : K.lookup a = some ⟨.type "dict", none, .dict es n, #[]⟩) (h : Keyed es.toList l) :
    match l.lookup z with
    | some d => ∃ t, PySem.W.nsIn K a z = some (some (.str d t))
    | none => PySem.W.nsIn K a z = some none := by
  obtain ⟨h1, h2⟩ := keyed_find (z := z) h
  cases e : l.lookup z with
  | some d =>
    rw [e] at h2
    obtain ⟨en, t, e1, e2⟩ := h2
    refine ⟨t, ?_⟩
    unfold PySem.W.nsIn
    rw [hl]
    simp only [e1, e2]
  | none =>
    rw [e] at h2
    unfold PySem.W.nsIn
    rw [hl]
    have h2 : es.toList.find? (·.key.isStr z) = none := h2
    simp only [h2, h1, Bool.false_eq_true, if_false]
/-- NAME.get(k), NAME a dict of the module -/
@[simp] def xKget (l : List (Str × Str)) (e : XE) : XE := fun r h => (e r h).bind fun w h1 => match w.str? with
  | some z => match l.lookup z with
    | some d => if PyData.strOk d = true then .ok (.d (.str d)) h1 else .stuck
    | none => .ok (.d .non) h1
  | none => .stuck
theorem se_kget {y : Str} {a : Addr} {l : List (Str × Str)} {e : Expr} {xe : XE} {p apos cpos : Pos} (hm : X.mg y = some (.ref a)) (kt : KTot X.K X.w a l) (he : PE X e (rdE g Z xe)) (m : M1 X (.Name y p) "get" apos e cpos) (hg : Gl X y := by rfl)
    (hd : (y == ("__debug__" : Str)) = false := by decide) : PE X (.Call (.Attribute (.Name y p) "get" apos) [e] [] cpos) (rdE g Z (xKget l xe)) := by
  obtain ⟨es, n, hl, hk, low, ky⟩ := kt
  refine ⟨fun pins s σ H Q I ⟨r, h, M, fl, rs, rh, q⟩ => ?_⟩
  refine wpAny_Call_method m.base m.few m.line PySem.F.plainAttrs_dict PySem.F.slot_dict_get PySem.F.type_dict_get (ld_glob I hg hm ?_ hd)
  have mp := PySem.W.mapOf_K (prog := X.prog) (w := X.w) I.kIn hl hk
  refine ⟨mp.typeIs, fun b z => ?_, ?_⟩
  · cases z
    exact ⟨_, I.kIn _ _ hl, rfl⟩
  · rw [m.trees]
    refine wpAny_dict_get1 (knd := strKind X.prog X.w) low (thn (he.run pins s σ H (fun v H1 => ∃ z : Str, v = .str z ∧ ∀ b H2, b = (match l.lookup z with | some d => V.str d | none => V.non) → H2 = H1 → Q b H2) I ⟨r, h, M, fl, rs, rh, Po.bind q fun w h1 v H1 M1 e1 rh1 rw1 p1 => ?_⟩) fun kv s1 ⟨v, H1, I1, rv, z, ev, q1⟩ => ?_)
    · cases ew : w.str? with
      | none => rw [ew] at p1; exact p1.elim
      | some z =>
        rw [ew] at p1
        rw [W.str?_some ew] at rw1
        refine ⟨z, rw1.str_inv.1, fun b H2 hb hH => ?_⟩
        subst hb hH
        simp only at p1
        cases el : l.lookup z with
        | some d =>
          rw [el] at p1
          obtain ⟨ok, p1⟩ := po_ifP p1
          exact p1 _ _ M1 (Ext.refl _ _) rh1 (.d (.str d ok))
        | none =>
          rw [el] at p1
          exact p1 _ _ M1 (Ext.refl _ _) rh1 (.d .non)
    · subst ev
      obtain ⟨t, rfl⟩ := (show ∃ t, kv = Value.str z t from rv)
      have mp1 := PySem.W.mapOf_K (prog := X.prog) (w := X.w) I1.kIn hl hk
      refine ⟨z, _, strKind_is X.prog X.w z t, mp1, ?_⟩
      have ns := ktot_ns (K := X.K) (w := X.w) (z := z) hl ky
      cases el : l.lookup z with
      | some d =>
        rw [el] at ns
        obtain ⟨t2, ns⟩ := ns
        rw [PySem.W.find_K hl ns]
        exact ⟨.str d, H1, I1.tok _, ⟨t2, rfl⟩, q1 _ _ (by rw [el]) rfl⟩
      | none =>
        rw [el] at ns
        rw [PySem.W.find_K hl ns]
        exact ⟨.non, H1, I1.tok _, rfl, q1 _ _ (by rw [el]) rfl⟩
end
end
end Xs

/-! XsAJ: a text several times. -/
namespace Xs
noncomputable section
open PySem PySem.Spec PyProof.Rows L2
theorem mulOk_small {x : Str} {n : Int} (h0 : 0 ≤ n) (h1 : n ≤ 1000) (hx : x.length ≤ 1000) : MulOk x n := by
  refine ⟨?_, fun h2 _ => ?_, fun _ _ => ?_⟩
  · have a : ¬ n < -(2 ^ 63 : Int) := by omega
    have b : ¬ n ≥ (2 ^ 63 : Int) := by omega
    simp [a, b]
    omega
  · have : (1000 : Int) ≤ (2 ^ 63 - 1) / n := by
      have hp : 0 < n := by omega
      rw [Int.le_ediv_iff_mul_le hp]
      omega
    omega
  · unfold Builtin.Str.tooLong
    have : x.length * n.toNat ≤ 1000 * 1000 := Nat.mul_le_mul hx (by omega)
    rw [sizeLine_eq]
    exact decide_eq_false (by omega)
section
variable {X : Cx} {g : G} {Z : WX}
/-- a text several times -/
@[simp] def fMulS (w y : W) (h : Sto) : Re W := match w.str?, y.int? with
  | some a, some k => if 0 ≤ k ∧ k ≤ 1000 ∧ a.length ≤ 1000 ∧ PyData.strOk (Txt.mul a k) = true then .ok (.d (.str (Txt.mul a k))) h else .stuck
  | _, _ => .stuck
theorem op_mulS : OpR X (binaryOp .Mult) (fun x y H Q => ∃ (a : Str) (k : Int), x = .str a ∧ y = .int k ∧ 0 ≤ k ∧ k ≤ 1000 ∧ a.length ≤ 1000 ∧ Q (.str (Txt.mul a k)) H) := by
  rintro pins s σ H x y v u Q I rx ry ⟨a, k, rfl, rfl, h0, h1, hx, q⟩
  obtain ⟨t, rfl⟩ := (show ∃ t, v = Value.str a t from rx)
  obtain ⟨t2, rfl⟩ := (show ∃ t, u = Value.int k t from ry)
  exact PySem.SB.mul (mulOk_small h0 h1 hx) fun t' n => ⟨.str (Txt.mul a k), H, I.tok n, ⟨t', rfl⟩, q⟩
theorem o_mulS : Op2 X g Z (binaryOp .Mult) fMulS := ⟨_, op_mulS, fun {σ H M fl h v u w y Q} rh rx ry p => by
  simp only [fMulS] at p
  cases e1 : w.str? with
  | none => rw [e1] at p; exact p.elim
  | some a =>
    cases e2 : y.int? with
    | none => rw [e1, e2] at p; exact p.elim
    | some k =>
      rw [e1, e2] at p
      obtain ⟨q, p⟩ := po_ifP p
      rw [W.str?_some e1] at rx
      rw [W.int?_some e2] at ry
      exact ⟨a, k, rx.str_inv.1, ry.int_inv, q.1, q.2.1, q.2.2.1, p _ _ _ (Ext.refl _ _) rh (.d (.str _ q.2.2.2))⟩⟩
end
end
end Xs

/-! XsAK: int of a written text. -/
namespace Xs
noncomputable section
open PySem PySem.Spec PyProof.Rows L2
section
variable {X : Cx} {g : G} {Z : WX}
/-- int of a text that is a number -/
@[simp] def fIntS (w : W) (h : Sto) : Re W := match w.str? with
  | some a => match PySem.intText? a with
    | some n => if a.length ≤ 640 then .ok (.d (.int n)) h else .stuck
    | none => .stuck
  | none => .stuck
theorem c_intS : Fn1 X g Z (.type "int") (f1 fIntS) := Fn1.one call_int_str fun {σ H M fl h v w Q} rh rv p => by
  simp only [fIntS] at p
  cases e1 : w.str? with
  | none => rw [e1] at p; exact p.elim
  | some a =>
    rw [e1] at p
    simp only at p
    cases e2 : PySem.intText? a with
    | none => rw [e2] at p; exact p.elim
    | some n =>
      rw [e2] at p
      obtain ⟨q, p⟩ := po_ifP p
      rw [W.str?_some e1] at rv
      obtain ⟨rfl, _⟩ := rv.str_inv
      exact ⟨a, n, rfl, e2, q, po_int rh p⟩
end
end
end Xs

/-! XsAL: plain laws of texts: a text as the list of its signs. -/
namespace Xs
noncomputable section
open PySem PySem.Spec PyProof.Rows L2
/-- the signs of a text; the text of signs -/
def Tx (x : Str) : List Nat := x.cps.toList
def mk (l : List Nat) : Str := ⟨l.toArray⟩
/-- a text as a value -/
abbrev wT (l : List Nat) : W := .d (.str (mk l))
@[simp] theorem Tx_mk (l : List Nat) : Tx (mk l) = l := by simp [Tx, mk]
@[simp] theorem mk_Tx (x : Str) : mk (Tx x) = x := by cases x; simp [Tx, mk]
@[simp] theorem mk_cps (l : List Nat) : (mk l).cps = l.toArray := rfl
theorem Tx_cps (x : Str) : x.cps.toList = Tx x := rfl
theorem mk_one (c : Nat) : (⟨#[c]⟩ : Str) = mk [c] := rfl
theorem Tx_app (x y : Str) : Tx (x ++ y) = Tx x ++ Tx y := by
  show (x.cps ++ y.cps).toList = _
  simp [Tx]
theorem Tx_inj {x y : Str} (h : Tx x = Tx y) : x = y := by
  cases x; cases y
  simp only [Tx] at h
  rw [Array.toList_inj] at h
  rw [h]
@[simp] theorem mk_app (a b : List Nat) : mk a ++ mk b = mk (a ++ b) := Tx_inj (by rw [Tx_app]; simp)
@[simp] theorem mk_inj {a b : List Nat} : mk a = mk b ↔ a = b := ⟨fun h => by have := congrArg Tx h; simpa using this, fun h => by rw [h]⟩
@[simp] theorem mk_len (l : List Nat) : (mk l).length = l.length := by show l.toArray.size = _; simp
theorem Tx_len (x : Str) : (Tx x).length = x.length := by show x.cps.toList.length = x.cps.size; simp
@[simp] theorem mk_beq (a b : List Nat) : (mk a == mk b) = decide (a = b) := by
  by_cases h : a = b
  · subst h; simp
  · rw [decide_eq_false h]
    exact beq_eq_false_iff_ne.mpr fun z => h (mk_inj.mp z)
theorem of_mk (x : Str) : ∃ l, x = mk l := ⟨Tx x, (mk_Tx x).symm⟩
@[simp] theorem contains_mk (z : Str) (c : Nat) : Txt.contains z ⟨#[c]⟩ = decide (c ∈ Tx z) := StrLaws.found_one z c
theorem lim_of {n : Nat} (h : n ≤ 16000000) : n ≤ lim := le_lim h
/-- a sign of a text -/
theorem fIx_tx {l : List Nat} {k : Nat} {h : Sto} (hk : k < l.length) (hl : l.length ≤ lim) : fIx (wT l) (.d (.int k)) h = .ok (wT [l[k]]) h := by
  have e := atI_nat (xs := l) hk
  simp [e, hl, mk_one]
theorem fIx_txLast {l : List Nat} {c : Nat} {h : Sto} (hl : (l ++ [c]).length ≤ lim) : fIx (wT (l ++ [c])) (.d (.int (-1))) h = .ok (wT [c]) h := by
  have e := atI_last (xs := l) c
  have hl' : l.length + 1 ≤ lim := by simpa using hl
  simp [e, hl', mk_one]
theorem fInS_tx {c : Nat} {z : Str} {neg : Bool} {h : Sto} : fInS neg (wT [c]) (.d (.str z)) h = .ok (.d (.bl (if neg then !decide (c ∈ Tx z) else decide (c ∈ Tx z)))) h := by
  simp [Tx]
theorem fEq_tx {a b : List Nat} {h : Sto} : fEq (wT a) (wT b) h = .ok (.d (.bl (decide (a = b)))) h := by
  simp [D.eq]
theorem fNe_tx {a b : List Nat} {h : Sto} : fNe (wT a) (wT b) h = .ok (.d (.bl (!decide (a = b)))) h := by
  simp [D.eq]
theorem fAddS_tx {a b : List Nat} {h : Sto} (hl : a.length + b.length ≤ lim) : fAddS (wT a) (wT b) h = .ok (wT (a ++ b)) h := by
  simp [hl]
theorem fLen_tx {a : List Nat} {h : Sto} (hl : a.length ≤ lim) : fLen (wT a) h = .ok (.d (.int a.length)) h := by
  simp [hl]
theorem cut_nat {l : List Nat} {i j : Nat} : (l.drop (min i l.length)).take (min j l.length - min i l.length) = (l.drop i).take (j - i) := by
  apply List.ext_getElem?
  intro k
  rw [List.getElem?_take, List.getElem?_take, List.getElem?_drop, List.getElem?_drop]
  by_cases hi : i ≤ l.length
  · rw [Nat.min_eq_left hi]
    by_cases h1 : k < j - i
    · rw [if_pos h1]
      by_cases h2 : k < min j l.length - i
      · rw [if_pos h2]
      · rw [if_neg h2, List.getElem?_eq_none (by omega)]
    · rw [if_neg h1, if_neg (by omega)]
  · rw [if_neg (by omega)]
    rw [List.getElem?_eq_none (show l.length ≤ i + k by omega)]
    split <;> rfl
theorem cutS_nat {l : List Nat} {i j : Nat} : cutS (mk l) (some (i : Int)) (some (j : Int)) = mk ((l.drop i).take (j - i)) := by
  apply Tx_inj
  rw [Tx_mk, ← cut_nat]
  unfold cutS Tx
  rw [HT.sIx_nat, HT.sIx_nat]
  simp
theorem cutS_take {l : List Nat} {j : Nat} : cutS (mk l) none (some (j : Int)) = mk (l.take j) := by
  have e : (l.drop 0).take (j - 0) = l.take j := by simp
  apply Tx_inj
  rw [Tx_mk, ← e, ← cut_nat]
  unfold cutS Tx
  rw [HT.sIx_nat, HT.sIx_none]
  simp
theorem cutS_drop {l : List Nat} {i : Nat} : cutS (mk l) (some (i : Int)) none = mk (l.drop i) := by
  have e : (l.drop i).take (l.length - i) = l.drop i := List.take_of_length_le (by simp)
  apply Tx_inj
  rw [Tx_mk, ← e, ← cut_nat]
  unfold cutS Tx
  rw [HT.sIx_nat, HT.sIx_none]
  simp
theorem fSl_tx {l : List Nat} {i j : Nat} {h : Sto} (hl : l.length ≤ lim) : fSl (wT l) (some (i : Int)) (some (j : Int)) h = .ok (wT ((l.drop i).take (j - i))) h := by
  simp [cutS_nat, hl]
theorem fSl_txT {l : List Nat} {j : Nat} {h : Sto} (hl : l.length ≤ lim) : fSl (wT l) none (some (j : Int)) h = .ok (wT (l.take j)) h := by
  simp [cutS_take, hl]
theorem fSl_txD {l : List Nat} {i : Nat} {h : Sto} (hl : l.length ≤ lim) : fSl (wT l) (some (i : Int)) none h = .ok (wT (l.drop i)) h := by
  simp [cutS_drop, hl]
/-- one sign by others -/
def rep (c : Nat) (z : List Nat) : List Nat → List Nat
  | [] => []
  | d :: r => if d = c then z ++ rep c z r else d :: rep c z r
theorem replL_rep {c : Nat} {z : List Nat} : ∀ l : List Nat, StrLaws.replL [c] z l = rep c z l
  | [] => by rw [StrLaws.replL_nil]; rfl
  | d :: r => by
    by_cases h : d = c
    · subst h
      rw [StrLaws.replL_hit (by simp) (by simp)]
      simp [rep, replL_rep r]
    · rw [StrLaws.replL_miss (by simpa using h), replL_rep r]
      simp [rep, h]
theorem replace_mk {c : Nat} {z l : List Nat} : Txt.replace (mk l) (mk [c]) (mk z) = mk (rep c z l) := by
  apply Tx_inj
  have := StrLaws.replace_list (x := mk l) (y := mk [c]) (z := mk z) (by simp)
  rw [Tx_cps] at this
  rw [this]
  show StrLaws.replL (Tx (mk [c])) (Tx (mk z)) (Tx (mk l)) = _
  simp [replL_rep]
/-- a text several times -/
theorem mul_mk {l : List Nat} {n : Nat} : Txt.mul (mk l) (n : Int) = mk (List.replicate n l).flatten := by
  unfold Txt.mul
  by_cases h0 : n = 0
  · subst h0
    simp [mk, Str.empty]
  · rw [if_neg (by omega)]
    split
    · rename_i h1
      simp only [Bool.or_eq_true, beq_iff_eq, mk_len] at h1
      rcases h1 with h1 | h1
      · have : n = 1 := by omega
        subst this
        simp
      · have : l = [] := List.length_eq_zero_iff.mp h1
        subst this
        simp
    · have key : ∀ (k : Nat) (acc : Array Nat), (List.replicate k (mk l).cps).foldl (· ++ ·) acc = acc ++ (List.replicate k l).flatten.toArray := by
        intro k
        induction k with
        | zero => intro acc; simp
        | succ k ih => intro acc; rw [List.replicate_succ, List.foldl_cons, ih, List.replicate_succ]; simp
      apply Tx_inj
      show ((List.replicate (n : Int).toNat (mk l).cps).foldl (· ++ ·) #[]).toList = _
      rw [key]
      simp
/-- a text of digits -/
def dig (n : Nat) : List Nat := Tx (Str.ofString (toString (n : Int)))
theorem dig_eq (n : Nat) : dig n = (Nat.toDigits 10 n).map Char.toNat := PySem.W.KIN.signs_num n
theorem dig_mk (n : Nat) : Str.ofString (toString (n : Int)) = mk (dig n) := (mk_Tx _).symm
theorem dig_mk' (n : Nat) : Str.ofString (Int.repr n) = mk (dig n) := dig_mk n
theorem dig_digits (n : Nat) : ∀ c ∈ dig n, 48 ≤ c ∧ c ≤ 57 := by
  intro c hc
  rw [dig_eq] at hc
  obtain ⟨ch, hch, rfl⟩ := List.mem_map.mp hc
  exact digit_range (Nat.isDigit_of_mem_toDigits (by decide) (by decide) hch)
theorem dig_ne (n : Nat) : dig n ≠ [] := by
  rw [dig_eq]
  intro e
  have h := toDigits_len_ge 10 n
  rw [List.map_eq_nil_iff.mp e] at h
  exact absurd h (by decide)
theorem dig_val (n : Nat) : NumText.digitsVal (dig n) = n := by
  rw [dig_eq]
  exact PySem.W.KIN.val_back n
theorem dig_len10 {n : Nat} (h : n < 10000000000) : (dig n).length ≤ 10 := by
  have := PySem.W.KT.len_num (n := (n : Int)) (by omega) (by omega)
  rw [dig, Tx_len]
  exact this
theorem toDigits_snoc {n : Nat} (h : 10 ≤ n) : Nat.toDigits 10 n = Nat.toDigits 10 (n / 10) ++ Nat.toDigits 10 (n % 10) := by
  have t : Nat.toDigits 10 (n / 10) ++ Nat.toDigits 10 (n % 10) = Nat.toDigits 10 (10 * (n / 10) + n % 10) := Nat.toDigits_append_toDigits (by decide) (by omega) (Nat.mod_lt n (by decide))
  rw [Nat.div_add_mod] at t
  exact t.symm
theorem dig_small {n : Nat} (h : n < 10) : dig n = [48 + n] := by
  have k : ∀ n : Fin 10, dig n.val = [48 + n.val] := by decide +kernel
  exact k ⟨n, h⟩
theorem dig_snoc {n : Nat} (h : 10 ≤ n) : dig n = dig (n / 10) ++ [48 + n % 10] := by
  rw [dig_eq, toDigits_snoc h, List.map_append, ← dig_eq, ← dig_eq, dig_small (Nat.mod_lt n (by decide))]
theorem dig_len {k : Nat} : ∀ {n : Nat}, n < 10 ^ (k + 1) → (dig n).length ≤ k + 1 := by
  induction k with
  | zero => intro n h; rw [dig_small (by simpa using h)]; simp
  | succ k ih =>
    intro n h
    by_cases h1 : n < 10
    · rw [dig_small h1]; simp
    · rw [dig_snoc (by omega), List.length_append]
      have := ih (n := n / 10) (by rw [Nat.pow_succ] at h; omega)
      simp
      omega
theorem dig_len9 {n : Nat} (h : n < 1000000000) : (dig n).length ≤ 9 := dig_len (k := 8) h
theorem dig_head0 (n : Nat) : 1 ≤ n → (dig n).head? ≠ some 48 := by
  induction n using Nat.strongRecOn with
  | _ n ih =>
    intro h
    by_cases h1 : n < 10
    · rw [dig_small h1]
      simp
      omega
    · rw [dig_snoc (by omega)]
      have := ih (n / 10) (by omega) (by omega)
      obtain ⟨c, r, e⟩ : ∃ c r, dig (n / 10) = c :: r := by
        cases hd : dig (n / 10) with
        | nil => exact absurd hd (dig_ne _)
        | cons c r => exact ⟨c, r, rfl⟩
      rw [e] at this ⊢
      simpa using this
theorem dig_head (n : Nat) (h : 1 < (dig n).length) : (dig n).head? ≠ some 48 := by
  refine dig_head0 n ?_
  rcases Nat.eq_zero_or_pos n with z | z
  · subst z
    rw [dig_small (by decide)] at h
    exact absurd h (by decide)
  · exact z
theorem strOk_mk {l : List Nat} (h : ∀ c ∈ l, c < 1114112) : PyData.strOk (mk l) = true := by
  unfold PyData.strOk
  rw [Array.all_eq_true_iff_forall_mem]
  intro c hc
  exact decide_eq_true (h c (by simpa using hc))
/-- text.replace of one sign, as a value -/
theorem xRp_tx {c : Nat} {z l : List Nat} {xo : XE} {r : Env} {h h1 : Sto} (e : xo r h = .ok (wT l) h1) (hl : l.length + (l.length + 1) * z.length ≤ lim) (hc : ∀ c ∈ l, c < 1114112) (hz : ∀ c ∈ z, c < 1114112) : xRp (mk [c]) (mk z) xo r h = .ok (wT (rep c z l)) h1 := by
  have k : ∀ d ∈ rep c z l, d < 1114112 := by
    have : ∀ l : List Nat, (∀ c ∈ l, c < 1114112) → ∀ d ∈ rep c z l, d < 1114112 := by
      intro l
      induction l with
      | nil => intro _ d hd; exact absurd hd (by simp [rep])
      | cons a l ih =>
        intro h d hd
        unfold rep at hd
        split at hd
        · rcases List.mem_append.mp hd with hd | hd
          · exact hz d hd
          · exact ih (fun x hx => h x (List.mem_cons_of_mem _ hx)) d hd
        · rcases List.mem_cons.mp hd with rfl | hd
          · exact h d List.mem_cons_self
          · exact ih (fun x hx => h x (List.mem_cons_of_mem _ hx)) d hd
    exact this l hc
  have e2 := strOk_mk k
  simp [e, replace_mk, hl, e2]
@[simp] theorem atI_c0 {α : Type} (x : α) (l : List α) : atI (x :: l) (0 : Int) = some x := by simp [atI, ixN]
@[simp] theorem atI_c1 {α : Type} (x y : α) (l : List α) : atI (x :: y :: l) (1 : Int) = some y := by have := atI_nat (xs := x :: y :: l) (k := 1) (by simp); simpa using this
@[simp] theorem atI_c2 {α : Type} (x y z : α) (l : List α) : atI (x :: y :: z :: l) (2 : Int) = some z := by have := atI_nat (xs := x :: y :: z :: l) (k := 2) (by simp); simpa using this
@[simp] theorem atI_c3 {α : Type} (x y z u : α) (l : List α) : atI (x :: y :: z :: u :: l) (3 : Int) = some u := by have := atI_nat (xs := x :: y :: z :: u :: l) (k := 3) (by simp); simpa using this
@[simp] theorem pureL_cmp {α : Type} (f : α → D) (l : List α) : pureL (l.map (W.d ∘ f)) = some (l.map f) := by rw [← List.map_map, pureL_map]
@[simp] theorem pureL_fn {α : Type} (f : α → D) (l : List α) : pureL (l.map fun x => W.d (f x)) = some (l.map f) := pureL_cmp f l
theorem drop_tw {p : Nat → Bool} : ∀ l : List Nat, l.drop (l.takeWhile p).length = l.dropWhile p
  | [] => rfl
  | c :: r => by
    by_cases h : p c = true
    · simp [h, drop_tw r]
    · simp [h]
theorem fMulS_tx {l : List Nat} {n : Nat} {h : Sto} (hn : n ≤ 1000) (hl : l.length ≤ 1000) (hc : ∀ c ∈ l, c < 1114112) : fMulS (wT l) (.d (.int n)) h = .ok (wT (List.replicate n l).flatten) h := by
  have e : PyData.strOk (mk (List.replicate n l).flatten) = true := strOk_mk fun c hc' => by
    obtain ⟨m, h1, h2⟩ := List.mem_flatten.mp hc'
    rw [(List.mem_replicate.mp h1).2] at h2
    exact hc c h2
  have h0 : (n : Int) ≤ 1000 := by omega
  simp [mul_mk, e, h0, hl]
/-! ### steps -/
section
variable {a b c d : XE} {s u : XS} {t : XT} {r r1 : Env} {h h1 h2 h3 h4 : Sto} {w x y z : W} {i : Nat}
theorem seq_rt (e : s r h = .rt w h1) : sSeq s u r h = .rt w h1 := by simp [e]
theorem seq_exc {q : Ex} (e : s r h = .exc q r1 h1) : sSeq s u r h = .exc q r1 h1 := by simp [e]
theorem ret_ok (e : a r h = .ok w h1) : sRet a r h = .rt w h1 := by simp [e]
theorem set_ok (e : a r h = .ok w h1) : sSet i a r h = .nx (r.set i (some w)) h1 := by simp [e]
theorem drop_ok (e : a r h = .ok w h1) : sDrop a r h = .nx r h1 := by simp [e]
theorem if_t (e : t r h = .ok true h1) : sIf t s u r h = s r h1 := by simp [e]
theorem if_f (e : t r h = .ok false h1) : sIf t s u r h = u r h1 := by simp [e]
theorem tst_ok {p : Bool} (e : a r h = .ok (.d (.bl p)) h1) : xTest a r h = .ok p h1 := by simp [e]
theorem not_ok {p : Bool} (e : t r h = .ok p h1) : xNot t r h = .ok (!p) h1 := by simp [e]
theorem and_ok {t2 : XT} {p q : Bool} (e1 : t r h = .ok p h) (e2 : t2 r h = .ok q h) : xAnd t t2 r h = .ok (p && q) h := by cases p <;> simp [e1, e2]
theorem or_ok {t2 : XT} {p q : Bool} (e1 : t r h = .ok p h) (e2 : t2 r h = .ok q h) : xOr t t2 r h = .ok (p || q) h := by cases p <;> simp [e1, e2]
theorem bin_ok {f : W → W → Sto → Re W} {z : Re W} (e : a r h = .ok x h1) (e2 : b r h1 = .ok y h2) (e3 : f x y h2 = z) : xBin f a b r h = z := by simp [e, e2, e3]
theorem un_ok {f : W → Sto → Re W} {z : Re W} (e : a r h = .ok x h1) (e3 : f x h1 = z) : xUn f a r h = z := by simp [e, e3]
theorem app0 {f : List W → Sto → Re W} {z : Re W} (e3 : f [] h = z) : xApp f xNil r h = z := by simp [e3]
theorem app1 {f : List W → Sto → Re W} {z : Re W} (e : a r h = .ok x h1) (e3 : f [x] h1 = z) : xApp f (xCons a xNil) r h = z := by simp [e, e3]
theorem app2 {f : List W → Sto → Re W} {z : Re W} (e : a r h = .ok x h1) (e2 : b r h1 = .ok y h2) (e3 : f [x, y] h2 = z) : xApp f (xCons a (xCons b xNil)) r h = z := by simp [e, e2, e3]
theorem app3 {f : List W → Sto → Re W} {z : Re W} {v : W} (e : a r h = .ok x h1) (e2 : b r h1 = .ok y h2) (e4 : c r h2 = .ok v h3) (e3 : f [x, y, v] h3 = z) : xApp f (xCons a (xCons b (xCons c xNil))) r h = z := by simp [e, e2, e3, e4]
theorem tup2 {x y : D} (e : a r h = .ok (.d x) h1) (e2 : b r h1 = .ok (.d y) h2) : xApp mkTup (xCons a (xCons b xNil)) r h = .ok (.d (.tup [x, y])) h2 := by simp [e, e2]
theorem var_ok (e : r[i]? = some (some w)) : xVar i r h = .ok w h := by simp [e]
end
/-! ### loops -/
section
variable {c : XT} {b : XS} {n : Nat} {r r2 : Env} {h h1 h2 : Sto}
theorem while_nx (e1 : c r h = .ok true h1) (e2 : b r h1 = .nx r2 h2) : whileLoop c b (n + 1) r h = whileLoop c b n r2 h2 := by simp [whileLoop, e1, e2]
theorem while_ct (e1 : c r h = .ok true h1) (e2 : b r h1 = .ct r2 h2) : whileLoop c b (n + 1) r h = whileLoop c b n r2 h2 := by simp [whileLoop, e1, e2]
theorem while_end (e1 : c r h = .ok false h1) : whileLoop c b (n + 1) r h = .nx r h1 := by simp [whileLoop, e1]
theorem while_bk (e1 : c r h = .ok true h1) (e2 : b r h1 = .bk r2 h2) : whileLoop c b (n + 1) r h = .nx r2 h2 := by simp [whileLoop, e1, e2]
theorem while_rt {w : W} (e1 : c r h = .ok true h1) (e2 : b r h1 = .rt w h2) : whileLoop c b (n + 1) r h = .rt w h2 := by simp [whileLoop, e1, e2]
theorem while_exc {x : Ex} (e1 : c r h = .ok true h1) (e2 : b r h1 = .exc x r2 h2) : whileLoop c b (n + 1) r h = .exc x r2 h2 := by simp [whileLoop, e1, e2]
end
end
end Xs

/-! XsAM: what is never reached; zip of two and three tuples. -/
namespace Xs
noncomputable section
open PySem PySem.Spec PyProof.Rows L2
/-! ### never reached -/
section
variable {X : Cx} {g : G} {Z : WX} {e : Expr} {st : Stmt} {tg : Expr}
theorem se_stuck : PE X e (rdE g Z fun _ _ => .stuck) := ⟨fun pins s σ H Q I ⟨_, _, _, _, _, _, q⟩ => q.elim⟩
theorem st_stuck : PT X e (rdT g Z fun _ _ => .stuck) := ⟨fun pins s σ H Q I ⟨_, _, _, _, _, _, q⟩ => q.elim⟩
theorem ss_stuck : PS X st (rdS g Z fun _ _ => .stuck) := ⟨fun pins s σ H D I ⟨_, _, _, _, _, _, q⟩ => q.elim⟩
theorem sss_stuck {sts : List Stmt} : PSs X sts (rdS g Z fun _ _ => .stuck) := ⟨fun pins s σ H D I ⟨_, _, _, _, _, _, q⟩ => q.elim⟩
theorem si_stuck : PI X tg e (rdI g Z fun _ _ => .stuck) := ⟨fun pins s σ H R I ⟨_, _, _, _, _, _, q⟩ => q.elim⟩
end
/-! ### zip -/
abbrev z3H1 (h : Heap) (a : Addr) : Heap := h.push { cls := .type "tuple_iterator", data := .fields #[.ref a, .int 0 0] }
abbrev z3H2 (h : Heap) (a b : Addr) : Heap := (z3H1 h a).push { cls := .type "tuple_iterator", data := .fields #[.ref b, .int 0 0] }
abbrev z3H3 (h : Heap) (a b c : Addr) : Heap := (z3H2 h a b).push { cls := .type "tuple_iterator", data := .fields #[.ref c, .int 0 0] }
abbrev z3H4 (h : Heap) (a b c : Addr) : Heap := (z3H3 h a b c).push { cls := .type "tuple", data := .seq #[.ref h.objs.size, .ref (z3H1 h a).objs.size, .ref (z3H2 h a b).objs.size] }
abbrev z3H5 (h : Heap) (a b c : Addr) : Heap := (z3H4 h a b c).push { cls := .type "tuple", data := .seq #[.none, .none, .none] }
abbrev z3H6 (h : Heap) (a b c : Addr) : Heap := (z3H5 h a b c).push { cls := .type "zip", data := .fields #[.none, .bool false, .bool false, .ref (z3H3 h a b c).objs.size, .ref (z3H4 h a b c).objs.size] }
set_option maxHeartbeats 4000000 in
theorem meets_z3 (a b c : Addr) (xs ys zs : Array Value) :
    Meets (Builtin.«zip.__new__» ⟨[.type "zip", .ref a, .ref b, .ref c], []⟩) (fun _ R s => s.heap.IsTuple a xs ∧ s.heap.IsTuple b ys ∧ s.heap.IsTuple c zs ∧
      R (.ok (.ret (.ref (z3H5 s.heap a b c).objs.size))) { s with heap := z3H6 s.heap a b c }) :=
  .of_wp fun prog w A R s h => by
    obtain ⟨hp, g, d, tk, os⟩ := s; obtain ⟨hl1, hl2, hl3, h⟩ := h
    have hsub := sub_zip
    have hL1 : Heap.IsTuple (Shared.heap ⟨hp, g, d, tk, os⟩) a xs := hl1
    have hL2 : Heap.IsTuple (Shared.heap ⟨hp.push { cls := .type "tuple_iterator", data := .fields #[.ref a, .int 0 0] }, g, d, tk, os⟩) b ys := Heap.IsTuple.push hl2 _
    have hL3 : Heap.IsTuple (Shared.heap ⟨(hp.push { cls := .type "tuple_iterator", data := .fields #[.ref a, .int 0 0] }).push { cls := .type "tuple_iterator", data := .fields #[.ref b, .int 0 0] }, g, d, tk, os⟩) c zs := Heap.IsTuple.push (Heap.IsTuple.push hl3 _) _
    wp_walk using wpAny_pyIter_tuple hL1, wpAny_pyIter_tuple hL2, wpAny_pyIter_tuple hL3
    exact ⟨_, rfl, h⟩
theorem typeCall_zip_3 (a b c : Value) : checkTypeCall "zip" ⟨[a, b, c], []⟩ = pure () := by kernel_rfl
theorem newCall_zip_3 (a b c : Value) : checkBuiltinCall "zip.__new__" ⟨[.type "zip", a, b, c], []⟩ = pure () := by kernel_rfl
theorem args_object_init_4 (o a b c : Value) : argsOk "object.__init__" ⟨[o, a, b, c], []⟩ := by
  unfold argsOk
  first | kernel_rfl | exact ⟨by kernel_rfl, by kernel_rfl⟩
section
variable {prog : Program} {w : World} {A : Around} {E : Value → Shared → Prop} {s : Shared}
theorem call_z3 {a b c : Addr} {xs ys zs : Array Value} {Q : Value → Shared → Prop} (hl1 : s.heap.IsTuple a xs) (hl2 : s.heap.IsTuple b ys) (hl3 : s.heap.IsTuple c zs)
    (h : ∀ h', IsZip h' (s.heap.objs.size + 5) (s.heap.objs.size + 3) (s.heap.objs.size + 4) .none → IsTupOf3 h' (s.heap.objs.size + 3) (.ref s.heap.objs.size) (.ref (s.heap.objs.size + 1)) (.ref (s.heap.objs.size + 2)) →
      IsTupOf3 h' (s.heap.objs.size + 4) .none .none .none → h'.IsTupleIter s.heap.objs.size a 0 → h'.IsTupleIter (s.heap.objs.size + 1) b 0 → h'.IsTupleIter (s.heap.objs.size + 2) c 0 → h'.objs.size = s.heap.objs.size + 6 →
      (∀ c o, s.heap.get? c = some o → h'.get? c = some o) → Q (.ref (s.heap.objs.size + 5)) { s with heap := h' }) :
    wpAny (model prog w) A (call (.type "zip") [.ref a, .ref b, .ref c]) Q E s := by
  refine callType_new F.called_zip (by decide) (typeCall_zip_3 _ _ _) (newCall_zip_3 _ _ _) (fun obj => args_object_init_4 obj _ _ _) F.entry_zip_new
    (meets_z3 a b c xs ys zs) ⟨hl1, hl2, hl3, ?_⟩
  have z1 : (z3H1 s.heap a).objs.size = s.heap.objs.size + 1 := Heap.size_push ..
  have z2 : (z3H2 s.heap a b).objs.size = s.heap.objs.size + 2 := by rw [Heap.size_push, z1]
  have z3 : (z3H3 s.heap a b c).objs.size = s.heap.objs.size + 3 := by rw [Heap.size_push, z2]
  have z4 : (z3H4 s.heap a b c).objs.size = s.heap.objs.size + 4 := by rw [Heap.size_push, z3]
  have z5 : (z3H5 s.heap a b c).objs.size = s.heap.objs.size + 5 := by rw [Heap.size_push, z4]
  have z6 : (z3H6 s.heap a b c).objs.size = s.heap.objs.size + 6 := by rw [Heap.size_push, z5]
  have g6 : (z3H6 s.heap a b c).get? (z3H5 s.heap a b c).objs.size = some _ := Heap.get?_push_size _ rfl
  have g5 : (z3H6 s.heap a b c).get? (z3H4 s.heap a b c).objs.size = some _ := Heap.get?_push_of_some _ (Heap.get?_push_size _ rfl)
  have g4 : (z3H6 s.heap a b c).get? (z3H3 s.heap a b c).objs.size = some _ := Heap.get?_push_of_some _ (Heap.get?_push_of_some _ (Heap.get?_push_size _ rfl))
  have g3 : (z3H6 s.heap a b c).get? (z3H2 s.heap a b).objs.size = some _ := Heap.get?_push_of_some _ (Heap.get?_push_of_some _ (Heap.get?_push_of_some _ (Heap.get?_push_size _ rfl)))
  have g2 : (z3H6 s.heap a b c).get? (z3H1 s.heap a).objs.size = some _ := Heap.get?_push_of_some _ (Heap.get?_push_of_some _ (Heap.get?_push_of_some _ (Heap.get?_push_of_some _ (Heap.get?_push_size _ rfl))))
  have g1 : (z3H6 s.heap a b c).get? s.heap.objs.size = some _ := Heap.get?_push_of_some _ (Heap.get?_push_of_some _ (Heap.get?_push_of_some _ (Heap.get?_push_of_some _ (Heap.get?_push_of_some _ (Heap.get?_push_size _ rfl)))))
  show _ ∧ _
  rw [z3, z4, z5] at g6
  rw [z1, z2, z3] at g4
  rw [z4] at g5
  rw [z2] at g3
  rw [z1] at g2
  rw [z5]
  exact ⟨⟨_, g6, rfl⟩, h _ g6 g4 g5 ⟨_, g1, rfl, rfl⟩ ⟨_, g2, rfl, rfl⟩ ⟨_, g3, rfl, rfl⟩ z6 fun b o x =>
    Heap.get?_push_of_some _ (Heap.get?_push_of_some _ (Heap.get?_push_of_some _ (Heap.get?_push_of_some _ (Heap.get?_push_of_some _ (Heap.get?_push_of_some _ x)))))⟩
end
/-- the tuples at a, b and c as they stand at each turn, the items in new tuples -/
def ItzT3 (K : PySem.W.Frag) (a b c : Addr) (N1 N2 N3 : Nat) : It :=
  ⟨fun i H => ∃ (xs ys zs : List V) (x y z : V), (SqT K H a xs ∧ xs.length = N1) ∧ (SqT K H b ys ∧ ys.length = N2) ∧ (SqT K H c zs ∧ zs.length = N3) ∧ xs[i]? = some x ∧ ys[i]? = some y ∧ zs[i]? = some z,
    fun i H v H' => ∃ T x y z, v = .ref T ∧ H T = none ∧ H' = upd H T (.tup [x, y, z]) ∧ (∀ xs, SqT K H a xs → xs[i]? = some x) ∧ (∀ ys, SqT K H b ys → ys[i]? = some y) ∧ ∀ zs, SqT K H c zs → zs[i]? = some z,
    fun i H => ∃ xs ys zs : List V, (SqT K H a xs ∧ xs.length = N1) ∧ (SqT K H b ys ∧ ys.length = N2) ∧ (SqT K H c zs ∧ zs.length = N3) ∧ (xs.length ≤ i ∨ ys.length ≤ i ∨ zs.length ≤ i)⟩
theorem tup_draws {X : Cx} {pins : List (Addr × Obj)} {σ : L2.St} {H : Hp} {s : Shared} {it a : Addr} {xs : List V} {i : Nat} (hc : X.calm = true) (I : Inv X pins σ H s) (hq : SqT X.K H a xs) (st : s.heap.IsTupleIter it a i) :
    ∃ its : List Value, Vals xs its ∧ Draws X.prog X.w X.A.in1 it [it, a] xs.length (fun i v => its[i]? = some v) (fun i h => h.IsTupleIter it a i ∧ h.IsTuple a its.toArray) ∧ s.heap.IsTuple a its.toArray := by
  obtain ⟨its, rv, p, hz⟩ := I.tuple hq
  have hp : s.heap.IsTuple a its.toArray := p
  obtain ⟨ot, et, ct, nt, dt⟩ := id hp
  have ne : a ≠ it := fun z => by
    obtain ⟨o, e, c, d⟩ := id st
    rw [z, e] at et
    cases et
    rw [c] at ct
    simp at ct
  have dr := Draws.tuple (prog := X.prog) (w := X.w) (A := X.A.in1) (I.ok.hd hc) it a ne its.toArray
  have len : its.toArray.size = xs.length := by rw [List.size_toArray]; exact rv.length.symm
  rw [len] at dr
  refine ⟨its, rv, ?_, hp⟩
  have e : (fun (i : Nat) (v : Value) => its.toArray[i]? = some v) = fun i v => its[i]? = some v := by
    funext i v
    simp
  rw [e] at dr
  exact dr
theorem turn_z3 {P : Program} {w : World} {K : PySem.W.Frag} {elts : List Expr} {kk : Nat} {tpos : Pos} {a b c z TI TO i1 i2 i3 : Addr} {N1 N2 N3 : Nat} (D : ZipSep3 z TI TO i1 i2 i3 [i1, a] [i2, b] [i3, c]) :
    Turn P w K (.Tuple elts kk tpos) (ItzT3 K a b c N1 N2 N3) [z, TI, TO, i1, i2, i3] z (fun i h => IsZip h z TI TO .none ∧ IsTupOf3 h TI (.ref i1) (.ref i2) (.ref i3) ∧ (∃ x y u, IsTupOf3 h TO x y u) ∧ h.IsTupleIter i1 a i ∧ h.IsTupleIter i2 b i ∧ h.IsTupleIter i3 c i ∧ i ≤ N1 ∧ i ≤ N2 ∧ i ≤ N3) where
  mem := by simp
  obj := fun i h st c hc => by
    obtain ⟨hz, hTI, ⟨x, y, u, hTO⟩, ⟨o1, e1, _, d1⟩, ⟨o2, e2, _, d2⟩, ⟨o3, e3, _, d3⟩, _⟩ := st
    have e' : c = z ∨ c = TI ∨ c = TO ∨ c = i1 ∨ c = i2 ∨ c = i3 := by simpa using hc
    rcases e' with q | q | q | q | q | q
    · rw [q]; exact ⟨_, hz, fun v q => nomatch q⟩
    · rw [q]; exact ⟨_, hTI, fun v q => nomatch q⟩
    · rw [q]; exact ⟨_, hTO, fun v q => nomatch q⟩
    · rw [q]; exact ⟨o1, e1, fun v q => by rw [d1] at q; cases q⟩
    · rw [q]; exact ⟨o2, e2, fun v q => by rw [d2] at q; cases q⟩
    · rw [q]; exact ⟨o3, e3, fun v q => by rw [d3] at q; cases q⟩
  keep := fun i h h' st k => by
    obtain ⟨hz, hTI, ⟨x, y, u, hTO⟩, h1, h2, h3, l1, l2, l3⟩ := st
    exact ⟨k z (by simp) _ hz, k TI (by simp) _ hTI, ⟨x, y, u, k TO (by simp) _ hTO⟩, h1.at fun o q => k i1 (by simp) o q, h2.at fun o q => k i2 (by simp) o q, h3.at fun o q => k i3 (by simp) o q, l1, l2, l3⟩
  item := by
    rintro X rfl rfl rfl hc i pins s σ H E I hf ⟨hz, hTI, ⟨x0, y0, u0, hTO⟩, h1, h2, h3, l1, l2, l3⟩ ⟨xs, ys, zs, x, y, u, ⟨hqx, n1⟩, ⟨hqy, n2⟩, ⟨hqz, n3⟩, hx, hy, hu⟩
    obtain ⟨its1, rv1, D1, p1⟩ := tup_draws hc I hqx h1
    obtain ⟨its2, rv2, D2, p2⟩ := tup_draws hc I hqy h2
    obtain ⟨its3, rv3, D3, p3⟩ := tup_draws hc I hqz h3
    have hi1 : i < xs.length := (List.getElem?_eq_some_iff.mp hx).1
    have hi2 : i < ys.length := (List.getElem?_eq_some_iff.mp hy).1
    have hi3 : i < zs.length := (List.getElem?_eq_some_iff.mp hu).1
    have hzl : z < s.heap.objs.size := Heap.lt_size hz
    refine wpAny_pyNext_zipD3_item D D1 D2 D3 hz hTI hTO ⟨h1, p1⟩ ⟨h2, p2⟩ ⟨h3, p3⟩ hi1 hi2 hi3 fun x1 x2 x3 h' tk q1 q2 q3 z' TO' s1 s2 s3 hT hsz hk => ?_
    refine ⟨_, rfl, wpAny_letOwnedTupleGo_zip (s := { s with heap := h', toks := tk }) z' fun h'' z'' sb => ?_⟩
    have hT2 : h''.get? s.heap.objs.size = some { cls := .type "tuple", data := .seq #[x1, x2, x3] } := (sb.2 _ (Nat.ne_of_gt hzl)).trans hT
    obtain ⟨y1, e1, r1⟩ := rv1.get hx
    obtain ⟨y2, e2, r2⟩ := rv2.get hy
    obtain ⟨y3, e3, r3⟩ := rv3.get hu
    rw [q1] at e1
    rw [q2] at e2
    rw [q3] at e3
    cases e1
    cases e2
    cases e3
    have new : ObjOk X.prog X.w (upd H s.heap.objs.size (.tup [x, y, u])) h'' s.heap.objs.size (.tup [x, y, u]) :=
      ⟨by show 3 ≤ sizeLine; decide, [x1, x2, x3], .cons r1 (.cons r2 (.cons r3 .nil)), ⟨_, hT2, rfl, _, rfl⟩⟩
    have I1 : Inv X pins σ (upd H s.heap.objs.size (.tup [x, y, u])) { s with heap := h'', toks := tk } :=
      I.turnedNew (t' := tk) (ch := [z, TI, TO, i1, i2, i3]) (fun c o hb q => (sb.2 c (fun q' => hb (by simp [q']))).trans (hk c o (fun q' => hb (by simp [q'])) (fun q' => hb (by simp [q'])) (fun q' => hb (by simp [q'])) (fun q' => hb (by simp [q'])) (fun q' => hb (by simp [q'])) q)) hf (Nat.le_refl _) new
    refine ⟨.ref s.heap.objs.size, _, I1, rfl, ⟨_, x, y, u, rfl, I.hok.fresh (Nat.le_refl _), rfl, fun l hl => by rw [I.tuple_inj hl hqx]; exact hx, fun l hl => by rw [I.tuple_inj hl hqy]; exact hy, fun l hl => by rw [I.tuple_inj hl hqz]; exact hu⟩,
      ⟨z'', ?_, ⟨x1, x2, x3, ?_⟩, ?_, ?_, ?_, by omega, by omega, by omega⟩, fun c hcm => ?_⟩
    · exact (sb.2 _ D.TIz).trans (hk _ _ D.TIz D.TITO D.TIi1 D.TIi2 D.TIi3 hTI)
    · exact (sb.2 _ D.TOz).trans TO'
    · exact s1.1.at fun o q => (sb.2 _ (Ne.symm D.zi1)).trans q
    · exact s2.1.at fun o q => (sb.2 _ (Ne.symm D.zi2)).trans q
    · exact s3.1.at fun o q => (sb.2 _ (Ne.symm D.zi3)).trans q
    · have hlt : c < s.heap.objs.size := by
        have e' : c = z ∨ c = TI ∨ c = TO ∨ c = i1 ∨ c = i2 ∨ c = i3 := by simpa using hcm
        rcases e' with q | q | q | q | q | q
        · rw [q]; exact hzl
        · rw [q]; exact Heap.lt_size hTI
        · rw [q]; exact Heap.lt_size hTO
        · rw [q]; obtain ⟨_, e1, _⟩ := h1; exact Heap.lt_size e1
        · rw [q]; obtain ⟨_, e2, _⟩ := h2; exact Heap.lt_size e2
        · rw [q]; obtain ⟨_, e3, _⟩ := h3; exact Heap.lt_size e3
      rw [upd_ne (Nat.ne_of_lt hlt)]
      exact (hf c hcm).1
  done := by
    rintro X rfl rfl rfl hc i pins s σ H E I hf ⟨hz, hTI, ⟨x0, y0, u0, hTO⟩, h1, h2, h3, l1, l2, l3⟩ ⟨xs, ys, zs, ⟨hqx, n1⟩, ⟨hqy, n2⟩, ⟨hqz, n3⟩, hend⟩
    obtain ⟨its1, rv1, D1, p1⟩ := tup_draws hc I hqx h1
    obtain ⟨its2, rv2, D2, p2⟩ := tup_draws hc I hqy h2
    obtain ⟨its3, rv3, D3, p3⟩ := tup_draws hc I hqz h3
    refine wpAny_pyNext_zipD3_end D D1 D2 D3 hz hTI hTO ⟨h1, p1⟩ ⟨h2, p2⟩ ⟨h3, p3⟩ (by omega) (by omega) (by omega) (by omega) fun h' tk hk => ⟨rfl, I.turnedL (t' := tk) (ch := [z, TI, TO, i1, i2, i3]) (fun c o hb q =>
      hk c o (fun q' => hb (by simp [q'])) (fun q' => hb (by simp [q'])) (fun q' => hb (by simp [q'])) (fun q' => hb (by simp [q'])) (fun q' => hb (by simp [q'])) q) hf⟩
  self := fun A i s Q E st h => wpAny_pyIter_zip st.1 h
def iZ3 (K : PySem.W.Frag) (ta : TA) : TI := fun σ H R => ta σ H fun vs H1 => ∃ a b c xs ys zs, vs = [.ref a, .ref b, .ref c] ∧ SqT K H1 a xs ∧ SqT K H1 b ys ∧ SqT K H1 c zs ∧ R (ItzT3 K a b c xs.length ys.length zs.length) H1
theorem pi_z3 {X : Cx} {e1 e2 e3 : Expr} {ta : TA} {p pos tpos : Pos} {elts : List Expr} {kk : Nat} (hg : Gl X "zip") (hm : X.mg "zip" = none) (ha : PA X [e1, e2, e3] ta)
    (hs : starEach [e1, e2, e3] X.env = (false, eval e1 X.env) :: starEach [e2, e3] X.env := by rfl) (hpl : (backTo pos (starEach [e2, e3] X.env)).any (·.1) = false := by rfl) :
    PI X (.Tuple elts kk tpos) (.Call (.Name "zip" p) [e1, e2, e3] [] pos) (iZ3 X.K ta) := by
  refine ⟨fun pins s σ H R I h => ?_⟩
  refine Call_ (ld_blt I hg hm PyProof.Rows.boot_zip (PyProof.Rows.callWith_type1 (thn (ha.run pos pins s σ H _ I h) fun us s1 ⟨vs, H1, I1, r1, q1⟩ => ?_) hs hpl))
  obtain ⟨a, b, c, xs, ys, zs, ex, hqx, hqy, hqz, q⟩ := q1
  subst ex
  cases r1 with
  | cons r rr =>
    cases rr with
    | cons r' rr =>
      cases rr with
      | cons r2 rr =>
        cases rr
        cases r
        cases r'
        cases r2
        obtain ⟨its1, rv1, p1, _⟩ := I1.tuple hqx
        obtain ⟨its2, rv2, p2, _⟩ := I1.tuple hqy
        obtain ⟨its3, rv3, p3, _⟩ := I1.tuple hqz
        obtain ⟨o1, ho1, _⟩ := id p1
        obtain ⟨o2, ho2, _⟩ := id p2
        obtain ⟨o3, ho3, _⟩ := id p3
        have la := Heap.lt_size ho1
        have lb := Heap.lt_size ho2
        have lc := Heap.lt_size ho3
        refine call_z3 (show s1.heap.IsTuple a its1.toArray from p1) (show s1.heap.IsTuple b its2.toArray from p2) (show s1.heap.IsTuple c its3.toArray from p3) fun h' hz hTI hTO h1 h2 h3 hsz hk => wpAny_pyIter_zip hz ?_
        have I2 : Inv X pins σ H1 { s1 with heap := h' } := I1.kept (t' := s1.toks) hk
        have fp : ∀ x, s1.heap.objs.size ≤ x → FpOk X pins H1 x := fun x hle => I1.fpOk hle (I1.hok.fresh hle)
        generalize s1.heap.objs.size = N at *
        have D : ZipSep3 (N + 5) (N + 3) (N + 4) N (N + 1) (N + 2) [N, a] [N + 1, b] [N + 2, c] := zip_sep3 (fun x hx => by rw [List.mem_singleton.mp hx]; exact la) (fun x hx => by rw [List.mem_singleton.mp hx]; exact lb) (fun x hx => by rw [List.mem_singleton.mp hx]; exact lc)
        refine ⟨N + 5, [N + 5, N + 3, N + 4, N, N + 1, N + 2], _, _, H1, rfl, I2, turn_z3 D, ⟨hz, hTI, ⟨_, _, _, hTO⟩, h1, h2, h3, Nat.zero_le _, Nat.zero_le _, Nat.zero_le _⟩, fun x hxm => ?_, q⟩
        have e' : x = N + 5 ∨ x = N + 3 ∨ x = N + 4 ∨ x = N ∨ x = N + 1 ∨ x = N + 2 := by simpa using hxm
        have hle : N ≤ x := by
          rcases e' with z | z | z | z | z | z <;> rw [z] <;> first | exact Nat.le_add_right _ _ | exact Nat.le_refl _
        exact fp x hle
section
variable {X : Cx} {g : G} {Z : WX} {H : Hp} {M : Mu} {tg : Expr}
def zip3D (xs ys zs : List D) : List D := (xs.zip (ys.zip zs)).map fun p => .tup [p.1, p.2.1, p.2.2]
def zip2D (xs ys : List D) : List D := (xs.zip ys).map fun p => .tup [p.1, p.2]
@[simp] def iZip3 (a : XA) : XI := fun r h => (a r h).bind fun ws h1 => match ws with
  | [.d (.tup xs), .d (.tup ys), .d (.tup zs)] => .ok ((zip3D xs ys zs).length + 1, nL ((zip3D xs ys zs).map .d)) h1
  | _ => .stuck
@[simp] def iZip2 (a : XA) : XI := fun r h => (a r h).bind fun ws h1 => match ws with
  | [.d (.tup xs), .d (.tup ys)] => .ok ((zip2D xs ys).length + 1, nL ((zip2D xs ys).map .d)) h1
  | _ => .stuck
theorem zip_get {α β : Type} : ∀ {xs : List α} {ys : List β} {i : Nat}, (xs.zip ys)[i]? = match xs[i]?, ys[i]? with
    | some x, some y => some (x, y)
    | _, _ => none
  | [], _, _ => by simp
  | x :: xs, [], i => by cases i <;> simp
  | x :: xs, y :: ys, 0 => by simp
  | x :: xs, y :: ys, i + 1 => by
    rw [List.zip_cons_cons, List.getElem?_cons_succ, List.getElem?_cons_succ, List.getElem?_cons_succ]
    exact zip_get
theorem zip3_get {xs ys zs : List D} {i : Nat} : (zip3D xs ys zs)[i]? = match xs[i]?, ys[i]?, zs[i]? with
    | some x, some y, some z => some (.tup [x, y, z])
    | _, _, _ => none := by
  unfold zip3D
  rw [List.getElem?_map, zip_get, zip_get]
  cases xs[i]? <;> cases ys[i]? <;> cases zs[i]? <;> rfl
theorem zip2_get {xs ys : List D} {i : Nat} : (zip2D xs ys)[i]? = match xs[i]?, ys[i]? with
    | some x, some y => some (.tup [x, y])
    | _, _ => none := by
  unfold zip2D
  rw [List.getElem?_map, zip_get]
  cases xs[i]? <;> cases ys[i]? <;> rfl
theorem ItOk.z3 {a b c : Addr} {xs ys zs : List V} {dx dy dz : List D} (sb : Sub M) (ha : SqT g.K H a xs) (hb : SqT g.K H b ys) (hc : SqT g.K H c zs) (rx : RDs g H M.B xs dx) (ry : RDs g H M.B ys dy) (rz : RDs g H M.B zs dz) :
    ItOk g (ItzT3 g.K a b c xs.length ys.length zs.length) (nL ((zip3D dx dy dz).map .d)) H M := fun fl i H1 M1 h1 x rh => by
  have s1 := sqT_mono x ha
  have s2 := sqT_mono x hb
  have s3 := sqT_mono x hc
  have d1 := rx.mono x sb
  have d2 := ry.mono x sb
  have d3 := rz.mono x sb
  have l1 := d1.len
  have l2 := d2.len
  have l3 := d3.len
  refine ⟨fun e => ?_, fun w e => ?_⟩
  · simp only [nL, Option.some.injEq, List.getElem?_map, Option.map_eq_none_iff, zip3_get] at e
    refine ⟨xs, ys, zs, ⟨s1, rfl⟩, ⟨s2, rfl⟩, ⟨s3, rfl⟩, ?_⟩
    cases ex : dx[i]? with
    | none => exact .inl (by rw [l1]; exact List.getElem?_eq_none_iff.mp ex)
    | some _ =>
      cases ey : dy[i]? with
      | none => exact .inr (.inl (by rw [l2]; exact List.getElem?_eq_none_iff.mp ey))
      | some _ =>
        cases ez : dz[i]? with
        | none => exact .inr (.inr (by rw [l3]; exact List.getElem?_eq_none_iff.mp ez))
        | some _ =>
          rw [ex, ey, ez] at e
          cases e
  · simp only [nL, Option.some.injEq, List.getElem?_map, Option.map_eq_some_iff, zip3_get] at e
    obtain ⟨u, e, rfl⟩ := e
    cases ex : dx[i]? with
    | none => rw [ex] at e; cases e
    | some x' =>
      cases ey : dy[i]? with
      | none => rw [ex, ey] at e; cases e
      | some y' =>
        cases ez : dz[i]? with
        | none => rw [ex, ey, ez] at e; cases e
        | some z' =>
          rw [ex, ey, ez] at e
          cases e
          obtain ⟨v1, e1, r1⟩ := d1.get ex
          obtain ⟨v2, e2, r2⟩ := d2.get ey
          obtain ⟨v3, e3, r3⟩ := d3.get ez
          refine ⟨⟨xs, ys, zs, v1, v2, v3, ⟨s1, rfl⟩, ⟨s2, rfl⟩, ⟨s3, rfl⟩, e1, e2, e3⟩, fun y H2 yd => ?_⟩
          obtain ⟨T, w1, w2, w3, rfl, hT, rfl, k1, k2, k3⟩ := yd
          have f1 := k1 xs s1
          have f2 := k2 ys s2
          have f3 := k3 zs s3
          rw [e1] at f1
          rw [e2] at f2
          rw [e3] at f3
          cases f1
          cases f2
          cases f3
          have x2 : Ext H1 M1 (upd H1 T (.tup [v1, v2, v3])) M1 := Ext.fresh hT rh
          exact ⟨M1, x2, rh.fresh hT, .d (.tup (.inl (.inl upd_same)) (.cons (r1.mono x2 rh.sub) (.cons (r2.mono x2 rh.sub) (.cons (r3.mono x2 rh.sub) .nil))))⟩
theorem ItOk.z2 {a b : Addr} {xs ys : List V} {dx dy : List D} (sb : Sub M) (ha : SqT g.K H a xs) (hb : SqT g.K H b ys) (rx : RDs g H M.B xs dx) (ry : RDs g H M.B ys dy) :
    ItOk g (RZ.ItzT g.K a b) (nL ((zip2D dx dy).map .d)) H M := fun fl i H1 M1 h1 x rh => by
  have s1 := sqT_mono x ha
  have s2 := sqT_mono x hb
  have d1 := rx.mono x sb
  have d2 := ry.mono x sb
  have l1 := d1.len
  have l2 := d2.len
  refine ⟨fun e => ?_, fun w e => ?_⟩
  · simp only [nL, Option.some.injEq, List.getElem?_map, Option.map_eq_none_iff, zip2_get] at e
    refine ⟨xs, ys, s1, s2, ?_⟩
    cases ex : dx[i]? with
    | none => exact .inl (by rw [l1]; exact List.getElem?_eq_none_iff.mp ex)
    | some _ =>
      cases ey : dy[i]? with
      | none => exact .inr (by rw [l2]; exact List.getElem?_eq_none_iff.mp ey)
      | some _ =>
        rw [ex, ey] at e
        cases e
  · simp only [nL, Option.some.injEq, List.getElem?_map, Option.map_eq_some_iff, zip2_get] at e
    obtain ⟨u, e, rfl⟩ := e
    cases ex : dx[i]? with
    | none => rw [ex] at e; cases e
    | some x' =>
      cases ey : dy[i]? with
      | none => rw [ex, ey] at e; cases e
      | some y' =>
        rw [ex, ey] at e
        cases e
        obtain ⟨v1, e1, r1⟩ := d1.get ex
        obtain ⟨v2, e2, r2⟩ := d2.get ey
        refine ⟨⟨xs, ys, v1, v2, s1, s2, e1, e2⟩, fun y H2 yd => ?_⟩
        obtain ⟨T, w1, w2, rfl, hT, rfl, k1, k2⟩ := yd
        have f1 := k1 xs s1
        have f2 := k2 ys s2
        rw [e1] at f1
        rw [e2] at f2
        cases f1
        cases f2
        have x2 : Ext H1 M1 (upd H1 T (.tup [v1, v2])) M1 := Ext.fresh hT rh
        exact ⟨M1, x2, rh.fresh hT, .d (.tup (.inl (.inl upd_same)) (.cons (r1.mono x2 rh.sub) (.cons (r2.mono x2 rh.sub) .nil)))⟩
theorem si_zip3 {e1 e2 e3 : Expr} {ta : XA} {p pos tpos : Pos} {elts : List Expr} {kk : Nat} (hm : X.mg "zip" = none) (ha : PA X [e1, e2, e3] (rdA g Z ta)) (hg : Gl X "zip" := by rfl) (hK : X.K = g.K := by rfl)
    (hs : starEach [e1, e2, e3] X.env = (false, eval e1 X.env) :: starEach [e2, e3] X.env := by rfl) (hpl : (backTo pos (starEach [e2, e3] X.env)).any (·.1) = false := by rfl) :
    PI X (.Tuple elts kk tpos) (.Call (.Name "zip" p) [e1, e2, e3] [] pos) (rdI g Z (iZip3 ta)) :=
  PI.imp (pi_z3 hg hm ha hs hpl) fun σ H R ⟨r, h, M, fl, rs, rh, q⟩ => ⟨r, h, M, fl, rs, rh, Po.bind q fun ws h1 vs H1 M1 x1 rh1 rws q1 => by
    rcases ws with _ | ⟨w1, ws⟩ <;> try exact q1.elim
    rcases ws with _ | ⟨w2, ws⟩
    · cases w1 with
      | d y => cases y <;> exact q1.elim
      | _ => exact q1.elim
    rcases ws with _ | ⟨w3, ws⟩
    · cases w1 with
      | d y => cases y with
        | tup _ => cases w2 with
          | d y => cases y <;> exact q1.elim
          | _ => exact q1.elim
        | _ => exact q1.elim
      | _ => exact q1.elim
    cases w1 with
    | d y1 => cases y1 with
      | tup dx => cases w2 with
        | d y2 => cases y2 with
          | tup dy => cases w3 with
            | d y3 => cases y3 with
              | tup dz =>
                cases ws with
                | cons _ _ => exact q1.elim
                | nil =>
                  obtain ⟨v1, v2, v3, rfl, r1, r2, r3⟩ := rws.three
                  obtain ⟨a, xs, rfl, ta, da⟩ := r1.tup_inv
                  obtain ⟨b, ys, rfl, tb, db⟩ := r2.tup_inv
                  obtain ⟨c, zs, rfl, tc, dc⟩ := r3.tup_inv
                  rw [hK]
                  exact ⟨a, b, c, xs, ys, zs, rfl, ta, tb, tc, q1 _ H1 M1 (Ext.refl _ _) rh1 (ItOk.z3 rh1.sub ta tb tc da db dc)⟩
              | _ => exact q1.elim
            | _ => exact q1.elim
          | _ => exact q1.elim
        | _ => exact q1.elim
      | _ => exact q1.elim
    | _ => exact q1.elim⟩
theorem si_zip2 {e1 e2 : Expr} {ta : XA} {p pos tpos : Pos} {elts : List Expr} {kk : Nat} (hm : X.mg "zip" = none) (ha : PA X [e1, e2] (rdA g Z ta)) (hg : Gl X "zip" := by rfl) (hK : X.K = g.K := by rfl)
    (hs : starEach [e1, e2] X.env = (false, eval e1 X.env) :: starEach [e2] X.env := by rfl) (hpl : (backTo pos (starEach [e2] X.env)).any (·.1) = false := by rfl) :
    PI X (.Tuple elts kk tpos) (.Call (.Name "zip" p) [e1, e2] [] pos) (rdI g Z (iZip2 ta)) :=
  PI.imp (RZ.pi_zipA hg hm ha hs hpl) fun σ H R ⟨r, h, M, fl, rs, rh, q⟩ => ⟨r, h, M, fl, rs, rh, Po.bind q fun ws h1 vs H1 M1 x1 rh1 rws q1 => by
    rcases ws with _ | ⟨w1, ws⟩ <;> try exact q1.elim
    rcases ws with _ | ⟨w2, ws⟩
    · cases w1 with
      | d y => cases y <;> exact q1.elim
      | _ => exact q1.elim
    cases w1 with
    | d y1 => cases y1 with
      | tup dx => cases w2 with
        | d y2 => cases y2 with
          | tup dy =>
            cases ws with
            | cons _ _ => exact q1.elim
            | nil =>
              obtain ⟨v1, v2, rfl, r1, r2⟩ := rws.two
              obtain ⟨a, xs, rfl, ta, da⟩ := r1.tup_inv
              obtain ⟨b, ys, rfl, tb, db⟩ := r2.tup_inv
              rw [hK]
              exact ⟨a, b, xs, ys, rfl, .inr ⟨ta, tb, q1 _ H1 M1 (Ext.refl _ _) rh1 (ItOk.z2 rh1.sub ta tb da db)⟩⟩
          | _ => exact q1.elim
        | _ => exact q1.elim
      | _ => exact q1.elim
    | _ => exact q1.elim⟩
end
end
end Xs

/-! XsAN: constants of the module: tuples, dicts with such values. -/
namespace Xs
noncomputable section
open PySem PySem.Spec PyProof.Rows L2
def clsTup : Value → Bool
  | .type t => t == "tuple"
  | _ => false
mutual
/-- the data that a value of the written part is -/
def kd (K : PySem.W.Frag) : Nat → Value → Option D
  | 0, _ => none
  | _ + 1, .none => some .non
  | _ + 1, .bool b => some (.bl b)
  | _ + 1, .int i _ => some (.int i)
  | _ + 1, .str s _ => if PyData.strOk s = true then some (.str s) else none
  | n + 1, .ref a => match K.lookup a with
    | some o => match o.data with
      | .seq its _ => if (clsTup o.cls && decide (its.size ≤ sizeLine)) = true then (kds K n its.toList).map D.tup else none
      | _ => none
    | none => none
  | _ + 1, _ => none
def kds (K : PySem.W.Frag) : Nat → List Value → Option (List D)
  | 0, _ => none
  | _ + 1, [] => some []
  | n + 1, v :: vs => match kd K n v, kds K n vs with
    | some d, some ds => some (d :: ds)
    | _, _ => none
end
mutual
theorem kd_ok {K : PySem.W.Frag} : ∀ (n : Nat) (v : Value) (d : D), kd K n v = some d → ∃ x, RelV x v ∧ ∀ (g : G) (H : Hp) (B : Addr → Prop), g.K = K → RD g H B x d
  | 0, _, _, h => nomatch h
  | n + 1, v, d, h => by
    unfold kd at h
    split at h
    all_goals first
      | (rename_i h0; cases h0; done)
      | skip
    · cases h
      exact ⟨.non, rfl, fun _ _ _ _ => .non⟩
    · cases h
      exact ⟨.bl _, rfl, fun _ _ _ _ => .bl _⟩
    · cases h
      exact ⟨.int _, ⟨_, rfl⟩, fun _ _ _ _ => .int _⟩
    · split at h
      · rename_i hs
        cases h
        exact ⟨.str _, ⟨_, rfl⟩, fun _ _ _ _ => .str _ hs⟩
      · cases h
    · split at h
      · rename_i o ho
        split at h
        · rename_i its c hd
          split at h
          · rename_i hb
            rw [Bool.and_eq_true] at hb
            obtain ⟨ds, e, rfl⟩ := Option.map_eq_some_iff.mp h
            obtain ⟨xs, rv, k⟩ := kds_ok _ _ _ e
            have hc : o.cls = .type "tuple" := by
              have := hb.1
              unfold clsTup at this
              split at this
              · rename_i t ht
                rw [ht, eq_of_beq this]
              · cases this
            exact ⟨.ref _, rfl, fun g H B hg => .tup (.inr ⟨o, its, c, by rw [hg]; exact ho, hc, hd, of_decide_eq_true hb.2, rv⟩) (k g H B hg)⟩
          · cases h
        · cases h
      · cases h
    · cases h
theorem kds_ok {K : PySem.W.Frag} : ∀ (n : Nat) (vs : List Value) (ds : List D), kds K n vs = some ds → ∃ xs, Vals xs vs ∧ ∀ (g : G) (H : Hp) (B : Addr → Prop), g.K = K → RDs g H B xs ds
  | 0, _, _, h => nomatch h
  | n + 1, [], ds, h => by
    cases h
    exact ⟨[], .nil, fun _ _ _ _ => .nil⟩
  | n + 1, v :: vs, ds, h => by
    unfold kds at h
    split at h
    · rename_i d ds e1 e2
      cases h
      obtain ⟨x, r, k⟩ := kd_ok n v d e1
      obtain ⟨xs, rs, ks⟩ := kds_ok n vs ds e2
      exact ⟨x :: xs, .cons r rs, fun g H B hg => .cons (k g H B hg) (ks g H B hg)⟩
    · cases h
end
section
variable {X : Cx} {g : G} {Z : WX} {pos : Pos}
/-- a constant of the module -/
theorem se_globD {x : Str} {v : Value} {d : D} {n : Nat} (hm : X.mg x = some v) (hk : kd g.K n v = some d) (hg : Gl X x := by rfl) (hd : (x == ("__debug__" : Str)) = false := by decide) : PE X (.Name x pos) (rdE g Z (xC d)) := by
  obtain ⟨w, r, k⟩ := kd_ok n v d hk
  exact se_glob hm r (fun H B => k g H B rfl) hg hd
end
/-- the entries of a dict of the module -/
def kdE (K : PySem.W.Frag) (n : Nat) : List DictEntry → Option (List (Str × D))
  | [] => some []
  | e :: es => match e.key, kd K n e.val, kdE K n es with
    | .str z _, some d, some l => some ((z, d) :: l)
    | _, _, _ => none
def kdD (K : PySem.W.Frag) (n : Nat) (a : Addr) : Option (List (Str × D)) := match K.lookup a with
  | some o => match o.data with
    | .dict es _ => kdE K n es.toList
    | _ => none
  | none => none
theorem kdE_find {K : PySem.W.Frag} {n : Nat} {z : Str} : ∀ {es : List DictEntry} {l : List (Str × D)}, kdE K n es = some l → es.any (·.refKey) = false ∧ (match l.lookup z with
    | some d => ∃ e, es.find? (·.key.isStr z) = some e ∧ kd K n e.val = some d
    | none => es.find? (·.key.isStr z) = none)
  | [], l, h => by
    cases h
    exact ⟨rfl, rfl⟩
  | e :: es, l, h => by
    unfold kdE at h
    split at h
    · rename_i k t d l e1 e2 e3
      cases h
      obtain ⟨i1, i2⟩ := kdE_find (z := z) e3
      have rk : e.refKey = false := by simp [DictEntry.refKey, e1]
      have ks : e.key.isStr z = (k == z) := by rw [e1]; rfl
      refine ⟨by simp [rk, i1], ?_⟩
      rw [List.lookup_cons, List.find?_cons, ks]
      by_cases hz : k = z
      · subst hz
        simp [e2]
      · have q1 : (k == z) = false := beq_eq_false_iff_ne.mpr hz
        have q2 : (z == k) = false := beq_eq_false_iff_ne.mpr fun q => hz q.symm
        rw [q1, q2]
        exact i2
    · cases h
/-- the dict of the module at a, its values data -/
def KDs (K : PySem.W.Frag) (w : World) (a : Addr) (n : Nat) (l : List (Str × D)) : Prop := ∃ es k, K.lookup a = some ⟨.type "dict", none, .dict es k, #[]⟩ ∧ PySem.W.KeysLit w.params es.toList ∧ (a == sysModules) = false ∧ kdE K n es.toList = some l
theorem kds_ns {K : PySem.W.Frag} {a : Addr} {n : Nat} {l : List (Str × D)} {es : Array DictEntry} {k : Nat} {z : Str} (hl : K.lookup a = some ⟨.type "dict", none, .dict es k, #[]⟩) (h : kdE K n es.toList = some l) :
    match l.lookup z with
    | some d => ∃ v, PySem.W.nsIn K a z = some (some v) ∧ kd K n v = some d
    | none => PySem.W.nsIn K a z = some none := by
  obtain ⟨h1, h2⟩ := kdE_find (z := z) h
  cases e : l.lookup z with
  | some d =>
    rw [e] at h2
    obtain ⟨en, e1, e2⟩ := h2
    refine ⟨en.val, ?_, e2⟩
    unfold PySem.W.nsIn
    rw [hl]
    simp only [e1]
  | none =>
    rw [e] at h2
    unfold PySem.W.nsIn
    rw [hl]
    have h2 : es.toList.find? (·.key.isStr z) = none := h2
    simp only [h2, h1, Bool.false_eq_true, if_false]
section
variable {X : Cx} {g : G} {Z : WX} {pos : Pos}
/-- NAME[k] -/
@[simp] def xKixD (l : List (Str × D)) (e : XE) : XE := fun r h => (e r h).bind fun w h1 => match w.str? with
  | some z => match l.lookup z with
    | some d => .ok (.d d) h1
    | none => .stuck
  | none => .stuck
theorem se_kixD {y : Str} {a : Addr} {n : Nat} {l : List (Str × D)} {b : Expr} {xb : XE} {p : Pos} (hm : X.mg y = some (.ref a)) (kt : KDs X.K X.w a n l) (hb : PE X b (rdE g Z xb)) (hK : X.K = g.K := by rfl) (hg : Gl X y := by rfl)
    (hd : (y == ("__debug__" : Str)) = false := by decide) (hs : PlainIx b := by exact fun _ _ => rfl) : PE X (.Subscript (.Name y p) b pos) (rdE g Z (xKixD l xb)) :=
  PE.imp (pe_ix ix_kdict (pe_glob (v := .ref a) hg hm rfl hd) hb hs) fun σ H Q ⟨r, h, M, fl, rs, rh, q⟩ =>
    ⟨r, h, M, fl, rs, rh, Po.bind q fun w h1 v H1 M1 e1 rh1 rw1 p1 => by
      cases ew : w.str? with
      | none => rw [ew] at p1; exact p1.elim
      | some z =>
        rw [ew] at p1
        rw [W.str?_some ew] at rw1
        simp only at p1
        cases el : l.lookup z with
        | none => rw [el] at p1; exact p1.elim
        | some d =>
          rw [el] at p1
          obtain ⟨es, k, hl, hk, low, ke⟩ := kt
          have ns := kds_ns (K := X.K) (z := z) hl ke
          rw [el] at ns
          obtain ⟨u, ns, ku⟩ := ns
          obtain ⟨x, rx, kx⟩ := kd_ok n u d ku
          exact ⟨a, z, x, rfl, rw1.str_inv.1, ⟨es, k, u, hl, hk, ns, rx⟩, p1 _ H1 M1 (Ext.refl _ _) rh1 (.d (kx g H1 M1.B hK.symm))⟩⟩
/-- NAME.get(k) -/
@[simp] def xKgetD (l : List (Str × D)) (e : XE) : XE := fun r h => (e r h).bind fun w h1 => match w.str? with
  | some z => .ok (.d ((l.lookup z).getD .non)) h1
  | none => .stuck
theorem se_kgetD {y : Str} {a : Addr} {n : Nat} {l : List (Str × D)} {e : Expr} {xe : XE} {p apos cpos : Pos} (hm : X.mg y = some (.ref a)) (kt : KDs X.K X.w a n l) (he : PE X e (rdE g Z xe)) (m : M1 X (.Name y p) "get" apos e cpos) (hK : X.K = g.K := by rfl) (hg : Gl X y := by rfl)
    (hd : (y == ("__debug__" : Str)) = false := by decide) : PE X (.Call (.Attribute (.Name y p) "get" apos) [e] [] cpos) (rdE g Z (xKgetD l xe)) := by
  obtain ⟨es, k, hl, hk, low, ky⟩ := kt
  refine ⟨fun pins s σ H Q I ⟨r, h, M, fl, rs, rh, q⟩ => ?_⟩
  refine wpAny_Call_method m.base m.few m.line PySem.F.plainAttrs_dict PySem.F.slot_dict_get PySem.F.type_dict_get (ld_glob I hg hm ?_ hd)
  have mp := PySem.W.mapOf_K (prog := X.prog) (w := X.w) I.kIn hl hk
  refine ⟨mp.typeIs, fun b z => ?_, ?_⟩
  · cases z
    exact ⟨_, I.kIn _ _ hl, rfl⟩
  · rw [m.trees]
    refine wpAny_dict_get1 (knd := strKind X.prog X.w) low (thn (he.run pins s σ H (fun v H1 => ∃ z : Str, v = .str z ∧ ∀ x, (∀ B, RD g H1 B x ((l.lookup z).getD .non)) → Q x H1) I ⟨r, h, M, fl, rs, rh, Po.bind q fun w h1 v H1 M1 e1 rh1 rw1 p1 => ?_⟩) fun kv s1 ⟨v, H1, I1, rv, z, ev, q1⟩ => ?_)
    · cases ew : w.str? with
      | none => rw [ew] at p1; exact p1.elim
      | some z =>
        rw [ew] at p1
        rw [W.str?_some ew] at rw1
        exact ⟨z, rw1.str_inv.1, fun x rx => p1 _ _ M1 (Ext.refl _ _) rh1 (.d (rx _))⟩
    · subst ev
      obtain ⟨t, rfl⟩ := (show ∃ t, kv = Value.str z t from rv)
      have mp1 := PySem.W.mapOf_K (prog := X.prog) (w := X.w) I1.kIn hl hk
      refine ⟨z, _, strKind_is X.prog X.w z t, mp1, ?_⟩
      have ns := kds_ns (K := X.K) (z := z) hl ky
      cases el : l.lookup z with
      | some d =>
        rw [el] at ns q1
        obtain ⟨u, ns, ku⟩ := ns
        obtain ⟨x, rx, kx⟩ := kd_ok n u d ku
        rw [PySem.W.find_K hl ns]
        exact ⟨x, H1, I1.tok _, rx, q1 x fun B => kx g H1 B hK.symm⟩
      | none =>
        rw [el] at ns q1
        rw [PySem.W.find_K hl ns]
        exact ⟨.non, H1, I1.tok _, rfl, q1 .non fun B => .non⟩
/-- k in NAME -/
@[simp] def xKin (neg : Bool) (l : List (Str × D)) (e : XE) : XE := fun r h => (e r h).bind fun w h1 => match w.str? with
  | some z => .ok (.d (.bl (if neg then !(l.lookup z).isSome else (l.lookup z).isSome))) h1
  | none => .stuck
theorem kin_of {l : List (Str × D)} {n a k : Nat} {es : Array DictEntry} {z : Str} {K : PySem.W.Frag} (hl : K.lookup a = some ⟨.type "dict", none, .dict es k, #[]⟩) (ky : kdE K n es.toList = some l) : (findBy Value.isStrOf es z).isSome = (l.lookup z).isSome := by
  have ns := kds_ns (K := K) (z := z) hl ky
  cases el : l.lookup z with
  | some d =>
    rw [el] at ns
    obtain ⟨u, ns, ku⟩ := ns
    rw [PySem.W.find_K hl ns]
    rfl
  | none =>
    rw [el] at ns
    rw [PySem.W.find_K hl ns]
    rfl
theorem op_kin {a n k : Nat} {l : List (Str × D)} {es : Array DictEntry} (hl : X.K.lookup a = some ⟨.type "dict", none, .dict es k, #[]⟩) (hk : PySem.W.KeysLit X.w.params es.toList) (low : (a == sysModules) = false) (ky : kdE X.K n es.toList = some l) :
    OpR X (compareOp .In) (fun x y H Q => ∃ z : Str, x = .str z ∧ y = .ref a ∧ Q (.bl (l.lookup z).isSome) H) := by
  rintro pins s σ H x y v u Q I rx ry ⟨z, rfl, rfl, q⟩
  obtain ⟨t, rfl⟩ := (show ∃ t, v = Value.str z t from rx)
  obtain rfl : u = Value.ref a := ry
  have mp := PySem.W.mapOf_K (prog := X.prog) (w := X.w) I.kIn hl hk
  refine wpAny_in_of (strKind_is X.prog X.w z t) low mp ?_
  rw [kin_of (n := n) (a := a) hl ky]
  exact ⟨.bl _, H, I.tok _, rfl, q⟩
theorem op_knin {a n k : Nat} {l : List (Str × D)} {es : Array DictEntry} (hl : X.K.lookup a = some ⟨.type "dict", none, .dict es k, #[]⟩) (hk : PySem.W.KeysLit X.w.params es.toList) (low : (a == sysModules) = false) (ky : kdE X.K n es.toList = some l) :
    OpR X (compareOp .NotIn) (fun x y H Q => ∃ z : Str, x = .str z ∧ y = .ref a ∧ Q (.bl !(l.lookup z).isSome) H) := by
  rintro pins s σ H x y v u Q I rx ry ⟨z, rfl, rfl, q⟩
  obtain ⟨t, rfl⟩ := (show ∃ t, v = Value.str z t from rx)
  obtain rfl : u = Value.ref a := ry
  have mp := PySem.W.mapOf_K (prog := X.prog) (w := X.w) I.kIn hl hk
  refine wpAny_notIn_of (strKind_is X.prog X.w z t) low mp ?_
  rw [kin_of (n := n) (a := a) hl ky]
  exact ⟨.bl _, H, I.tok _, rfl, q⟩
theorem se_kin {y : Str} {a n : Nat} {l : List (Str × D)} {e : Expr} {xe : XE} {p : Pos} (hm : X.mg y = some (.ref a)) (kt : KDs X.K X.w a n l) (he : PE X e (rdE g Z xe)) (hg : Gl X y := by rfl) (hd : (y == ("__debug__" : Str)) = false := by decide)
    (hmk : behindInMarks .In (.Name y p) = false := by first | exact nomark _ | rfl) : PE X (.Compare e [.In] [.Name y p] pos) (rdE g Z (xKin false l xe)) := by
  obtain ⟨es, k, hl, hk, low, ky⟩ := kt
  refine PE.imp (pe_cmpR (op_kin hl hk low ky) he (pe_glob (v := .ref a) hg hm rfl hd) hmk) fun σ H Q ⟨r, h, M, fl, rs, rh, q⟩ => ⟨r, h, M, fl, rs, rh, Po.bind q fun w h1 v H1 M1 e1 rh1 rw1 p1 => ?_⟩
  cases ew : w.str? with
  | none => rw [ew] at p1; exact p1.elim
  | some z =>
    rw [ew] at p1
    rw [W.str?_some ew] at rw1
    exact ⟨z, rw1.str_inv.1, rfl, p1 _ H1 M1 (Ext.refl _ _) rh1 (.d (.bl _))⟩
theorem se_knin {y : Str} {a n : Nat} {l : List (Str × D)} {e : Expr} {xe : XE} {p : Pos} (hm : X.mg y = some (.ref a)) (kt : KDs X.K X.w a n l) (he : PE X e (rdE g Z xe)) (hg : Gl X y := by rfl) (hd : (y == ("__debug__" : Str)) = false := by decide)
    (hmk : behindInMarks .NotIn (.Name y p) = false := by first | exact nomark _ | rfl) : PE X (.Compare e [.NotIn] [.Name y p] pos) (rdE g Z (xKin true l xe)) := by
  obtain ⟨es, k, hl, hk, low, ky⟩ := kt
  refine PE.imp (pe_cmpR (op_knin hl hk low ky) he (pe_glob (v := .ref a) hg hm rfl hd) hmk) fun σ H Q ⟨r, h, M, fl, rs, rh, q⟩ => ⟨r, h, M, fl, rs, rh, Po.bind q fun w h1 v H1 M1 e1 rh1 rw1 p1 => ?_⟩
  cases ew : w.str? with
  | none => rw [ew] at p1; exact p1.elim
  | some z =>
    rw [ew] at p1
    rw [W.str?_some ew] at rw1
    exact ⟨z, rw1.str_inv.1, rfl, p1 _ H1 M1 (Ext.refl _ _) rh1 (.d (.bl _))⟩
theorem st_kin {y : Str} {a n : Nat} {l : List (Str × D)} {e : Expr} {xe : XE} {p : Pos} (hm : X.mg y = some (.ref a)) (kt : KDs X.K X.w a n l) (he : PE X e (rdE g Z xe)) (hg : Gl X y := by rfl) (hd : (y == ("__debug__" : Str)) = false := by decide)
    (hmk : behindInMarks .In (.Name y p) = false := by first | exact nomark _ | rfl) : PT X (.Compare e [.In] [.Name y p] pos) (rdT g Z (xTest (xKin false l xe))) := by
  obtain ⟨es, k, hl, hk, low, ky⟩ := kt
  refine PT.imp (pt_cmpR (op_kin hl hk low ky) he (pe_glob (v := .ref a) hg hm rfl hd) hmk) fun σ H Q q => ?_
  obtain ⟨r, h, M, fl, rs, rh, q⟩ := rd_test σ H Q q
  refine ⟨r, h, M, fl, rs, rh, Po.bind q fun w h1 v H1 M1 e1 rh1 rw1 p1 => ?_⟩
  cases ew : w.str? with
  | none => rw [ew] at p1; exact p1.elim
  | some z =>
    rw [ew] at p1
    rw [W.str?_some ew] at rw1
    exact ⟨z, rw1.str_inv.1, rfl, p1 _ H1 M1 (Ext.refl _ _) rh1 (.d (.bl _))⟩
theorem st_knin {y : Str} {a n : Nat} {l : List (Str × D)} {e : Expr} {xe : XE} {p : Pos} (hm : X.mg y = some (.ref a)) (kt : KDs X.K X.w a n l) (he : PE X e (rdE g Z xe)) (hg : Gl X y := by rfl) (hd : (y == ("__debug__" : Str)) = false := by decide)
    (hmk : behindInMarks .NotIn (.Name y p) = false := by first | exact nomark _ | rfl) : PT X (.Compare e [.NotIn] [.Name y p] pos) (rdT g Z (xTest (xKin true l xe))) := by
  obtain ⟨es, k, hl, hk, low, ky⟩ := kt
  refine PT.imp (pt_cmpR (op_knin hl hk low ky) he (pe_glob (v := .ref a) hg hm rfl hd) hmk) fun σ H Q q => ?_
  obtain ⟨r, h, M, fl, rs, rh, q⟩ := rd_test σ H Q q
  refine ⟨r, h, M, fl, rs, rh, Po.bind q fun w h1 v H1 M1 e1 rh1 rw1 p1 => ?_⟩
  cases ew : w.str? with
  | none => rw [ew] at p1; exact p1.elim
  | some z =>
    rw [ew] at p1
    rw [W.str?_some ew] at rw1
    exact ⟨z, rw1.str_inv.1, rfl, p1 _ H1 M1 (Ext.refl _ _) rh1 (.d (.bl _))⟩
/-- text.split(sep) -/
@[simp] def fSplit (w : W) (as : List W) (h : Sto) : Re W := match as with
  | [u] => match w.str?, u.str? with
    | some a, some b => if b.length ≠ 0 ∧ a.length ≤ 1000000 ∧ ((Txt.split a b).all fun z => PyData.strOk z) = true then .ok (.d (.lst ((Txt.split a b).map .str))) h else .stuck
    | _, _ => .stuck
  | _ => .stuck
theorem rds_strs {H : Hp} {B : Addr → Prop} : ∀ {zs : List Str}, (zs.all fun z => PyData.strOk z) = true → RDs g H B (zs.map V.str) (zs.map .str)
  | [], _ => .nil
  | z :: zs, h => by
    rw [List.all_cons, Bool.and_eq_true] at h
    exact .cons (.str z h.1) (rds_strs h.2)
theorem m_split : Mt X g Z "str.split" fSplit := ⟨_, mt_split, fun {σ H M fl h v w vs ws Q} rh rw1 rws p => by
  cases ws with
  | nil => exact p.elim
  | cons u ws =>
    cases ws with
    | cons _ _ => exact p.elim
    | nil =>
      obtain ⟨zv, rfl, rz⟩ := rws.one
      simp only [fSplit] at p
      cases e1 : w.str? with
      | none => rw [e1] at p; exact p.elim
      | some a =>
        cases e2 : u.str? with
        | none => rw [e1, e2] at p; exact p.elim
        | some b =>
          rw [e1, e2] at p
          simp only at p
          obtain ⟨q, p⟩ := po_ifP p
          rw [W.str?_some e1] at rw1
          rw [W.str?_some e2] at rz
          obtain ⟨rfl, hs⟩ := rw1.str_inv
          obtain ⟨rfl, hz⟩ := rz.str_inv
          refine ⟨a, b, rfl, rfl, beq_eq_false_iff_ne.mpr q.1, Nat.le_trans (Nat.add_le_add_right q.2.1 2) (by decide), fun l hl => po_lst rh p (rds_strs q.2.2) hl⟩⟩
end
/-! ### try .. except X -/
/-- no slot holds the exception -/
def Env.nox (r : Env) : Bool := r.all fun o => match o with
  | some w => w.nox
  | none => true
theorem RS.unheld {g : G} {H : Hp} {M : Mu} {a : Addr} {c : Value} {d : Option Addr} {σ : L2.St} {r : Env} (hn : Env.nox r = true) (q : RS (g.held a c d) H M σ r) : RS g H M σ r :=
  ⟨q.len, fun i w e => let ⟨v, e1, z⟩ := q.ev i w e; ⟨v, e1, z.unheld (by
    have := List.all_eq_true.mp hn (some w) (List.mem_of_getElem? e)
    exact this)⟩⟩
def sTry0 (sub : Str → Bool) (body suite : XS) : XS := fun r h => match body r h with
  | .exc e r1 h1 => if sub e.c = true then (match suite r1 h1 with
    | .rt (.d x) h2 => if h2.nox = true then .rt (.d x) h2 else .stuck
    | .nx r2 h2 => if (h2.nox && Env.nox r2) = true then .nx r2 h2 else .stuck
    | _ => .stuck) else .exc e r1 h1
  | f => f
section
variable {X : Cx} {g : G} {Z : WX} {pos pos' np : Pos}
theorem ss_try0 {sub : Str → Bool} {x : Str} {cv : Value} {body suite : List Stmt} {b₀ : Stmt} {xb xs : XS} (hx : g.xa = none) (hs : X.stack = X.env :: X.outer) (hf : X.env.frame = some X.env.locals) (hc : Names X x cv) (tk : Takes X Z)
    (hsub : ∀ c C, g.cm c = some C → PySem.W.exmOne X.K (.ref C) cv = some (sub c))
    (hb : ∀ (W : WX) (pn : List (Addr × Obj)) (xe : Value → Shared → Prop), Takes (X.tr pn xe) W → PassesOwn (model X.prog X.w) X.A X.env xe → PSs (X.tr pn xe) body (rdS g W xb))
    (hsu : ∀ (a : Addr) (oe : Obj) (cls : Value) (d : Option Addr) (pn : List (Addr × Obj)), Zc cls d oe → (∃ vs, oe.data = .fields vs) → PSs (X.suite a ((a, oe) :: pn)) (b₀ :: suite) (rdS (g.held a cls d) (fun _ _ _ _ => False) xs)) :
    PS X (.Try body [.ExceptHandler (some (.Name x np)) none (b₀ :: suite) pos'] [] [] pos) (rdS g Z (sTry0 sub xb xs)) := by
  refine PS.imp (ps_try_only hs hf hc tk hb hsu) fun D σ H ⟨r, h, M, fl, rs, rh, p⟩ => ⟨r, h, M, fl, rs, rh, ?_⟩
  unfold sTry0 at p
  cases eb : xb r h with
  | exc e r1 h1 =>
    rw [eb] at p
    simp only at p
    intro c d σ1 H1 M1 x1 rs1 rh1 rex
    obtain ⟨C, rfl, hcm, rest⟩ := rex
    refine ⟨sub e.c, hsub _ _ hcm, fun hb2 a ha => ?_, fun hb2 => ?_⟩
    · rw [if_pos hb2] at p
      refine ⟨r1, h1, M1, fl, rs1.held hx, rh1.held hx, ?_⟩
      cases es : xs r1 h1 with
      | rt w h2 =>
        rw [es] at p
        cases w with
        | d y =>
          simp only at p
          by_cases hn : h2.nox = true
          · rw [if_pos hn] at p
            intro v H2 M2 x2 rh2 rv
            exact p v H2 M2 (x1.trans x2) (rh2.unheld hn) (rv.unheld rfl)
          · rw [if_neg hn] at p
            exact p.elim
        | _ => exact p.elim
      | nx r2 h2 =>
        rw [es] at p
        simp only at p
        by_cases hn : (h2.nox && Env.nox r2) = true
        · rw [if_pos hn] at p
          rw [Bool.and_eq_true] at hn
          intro σ2 H2 M2 x2 rs2 rh2
          exact p σ2 H2 M2 (x1.trans x2) (rs2.unheld hn.2) (rh2.unheld hn.1)
        · rw [if_neg hn] at p
          exact p.elim
      | _ => rw [es] at p; exact p.elim
    · rw [if_neg (by rw [hb2]; exact Bool.false_ne_true)] at p
      exact p _ _ σ1 H1 M1 x1 rs1 rh1 ⟨C, rfl, hcm, rest⟩
  | nx _ _ => rw [eb] at p; exact p
  | rt _ _ => rw [eb] at p; exact p
  | bk _ _ => rw [eb] at p; exact p
  | ct _ _ => rw [eb] at p; exact p
  | stuck => rw [eb] at p; exact p
end
end
end Xs

/-! XsAO: texts put together and taken apart. -/
namespace Xs
noncomputable section
open PySem PySem.Spec PyProof.Rows L2
/-- texts with sep between them -/
def jn (sep : List Nat) : List (List Nat) → List Nat
  | [] => []
  | [a] => a
  | a :: b :: r => a ++ sep ++ jn sep (b :: r)
/-- a text, taken apart at c -/
def spl (c : Nat) : List Nat → List (List Nat)
  | [] => [[]]
  | d :: r => if d = c then [] :: spl c r else match spl c r with
    | a :: as => (d :: a) :: as
    | [] => [[d]]
theorem spl_ne (c : Nat) : ∀ l : List Nat, spl c l ≠ []
  | [] => by simp [spl]
  | d :: r => by
    unfold spl
    split
    · simp
    · split <;> simp
theorem spl_free (c : Nat) : ∀ l : List Nat, ∀ a ∈ spl c l, c ∉ a
  | [], a, h => by
    simp [spl] at h
    simp [h]
  | d :: r, a, h => by
    have ih := spl_free c r
    unfold spl at h
    split at h
    · rcases List.mem_cons.mp h with rfl | h
      · simp
      · exact ih a h
    · rename_i hd
      split at h
      · rename_i b bs e
        rcases List.mem_cons.mp h with rfl | h
        · have := ih b (by rw [e]; exact List.mem_cons_self)
          intro z
          rcases List.mem_cons.mp z with z | z
          · exact hd z.symm
          · exact this z
        · exact ih a (by rw [e]; exact List.mem_cons_of_mem _ h)
      · rw [List.mem_singleton.mp h]
        simp
        exact fun z => hd z.symm
theorem jn_spl (c : Nat) : ∀ l : List Nat, jn [c] (spl c l) = l
  | [] => rfl
  | d :: r => by
    have ih := jn_spl c r
    unfold spl
    split
    · rename_i hd
      subst hd
      cases e : spl d r with
      | nil => exact absurd e (spl_ne _ _)
      | cons b bs =>
        rw [e] at ih
        show [] ++ [d] ++ jn [d] (b :: bs) = _
        rw [ih]
        rfl
    · split
      · rename_i b bs e
        rw [e] at ih
        cases bs with
        | nil => show d :: b = _; rw [← ih]; rfl
        | cons b2 bs =>
          show (d :: b) ++ [c] ++ jn [c] (b2 :: bs) = _
          rw [← ih]
          rfl
      · rename_i e
        exact absurd e (spl_ne _ _)
theorem app_inj {c : Nat} : ∀ {a b s t : List Nat}, c ∉ a → c ∉ b → a ++ c :: s = b ++ c :: t → a = b ∧ s = t
  | [], [], s, t, _, _, h => by simpa using h
  | [], d :: b, s, t, _, hb, h => by
    simp only [List.nil_append, List.cons_append, List.cons.injEq] at h
    exact absurd (by rw [← h.1]; exact List.mem_cons_self) hb
  | d :: a, [], s, t, ha, _, h => by
    simp only [List.nil_append, List.cons_append, List.cons.injEq] at h
    exact absurd (by rw [h.1]; exact List.mem_cons_self) ha
  | d :: a, e :: b, s, t, ha, hb, h => by
    simp only [List.cons_append, List.cons.injEq] at h
    obtain ⟨rfl, h⟩ := h
    obtain ⟨h1, h2⟩ := app_inj (fun z => ha (List.mem_cons_of_mem _ z)) (fun z => hb (List.mem_cons_of_mem _ z)) h
    exact ⟨by rw [h1], h2⟩
theorem jn_inj {c : Nat} : ∀ {A B : List (List Nat)}, A ≠ [] → B ≠ [] → (∀ a ∈ A, c ∉ a) → (∀ a ∈ B, c ∉ a) → jn [c] A = jn [c] B → A = B
  | [], _, h, _, _, _, _ => absurd rfl h
  | _, [], _, h, _, _, _ => absurd rfl h
  | [a], [b], _, _, _, _, h => by
    have h : a = b := h
    rw [h]
  | [a], b :: b2 :: bs, _, _, ha, _, h => by
    have h : a = b ++ [c] ++ jn [c] (b2 :: bs) := h
    exact absurd (by rw [h]; simp) (ha a List.mem_cons_self)
  | a :: a2 :: as, [b], _, _, _, hb, h => by
    have h : a ++ [c] ++ jn [c] (a2 :: as) = b := h
    exact absurd (by rw [← h]; simp) (hb b List.mem_cons_self)
  | a :: a2 :: as, b :: b2 :: bs, _, _, ha, hb, h => by
    have h : a ++ [c] ++ jn [c] (a2 :: as) = b ++ [c] ++ jn [c] (b2 :: bs) := h
    rw [List.append_assoc, List.append_assoc] at h
    obtain ⟨h1, h2⟩ := app_inj (ha a List.mem_cons_self) (hb b List.mem_cons_self) h
    have := jn_inj (A := a2 :: as) (B := b2 :: bs) (by simp) (by simp) (fun x hx => ha x (List.mem_cons_of_mem _ hx)) (fun x hx => hb x (List.mem_cons_of_mem _ hx)) h2
    rw [h1, this]
theorem spl_jn {c : Nat} {A : List (List Nat)} (h : A ≠ []) (hf : ∀ a ∈ A, c ∉ a) : spl c (jn [c] A) = A := jn_inj (spl_ne _ _) h (spl_free _ _) hf (jn_spl _ _)
theorem glue_fold (sep : List Nat) : ∀ (r : List (List Nat)) (acc : Array Nat), (((r.map mk).foldl (fun acc p => acc ++ (mk sep).cps ++ p.cps) acc).toList) = acc.toList ++ (r.map fun a => sep ++ a).flatten
  | [], acc => by simp
  | a :: r, acc => by
    rw [List.map_cons, List.foldl_cons, glue_fold sep r]
    simp
theorem jn_flat (sep a : List Nat) : ∀ r : List (List Nat), jn sep (a :: r) = a ++ (r.map fun b => sep ++ b).flatten := by
  intro r
  induction r generalizing a with
  | nil => simp [jn]
  | cons b r ih =>
    show a ++ sep ++ jn sep (b :: r) = _
    rw [ih]
    simp
theorem join_mk {sep : List Nat} {ls : List (List Nat)} : Txt.join (mk sep) (ls.map mk) = mk (jn sep ls) := by
  apply Tx_inj
  rw [Tx_mk]
  show (((ls.map mk).drop 1).foldl (fun acc p => acc ++ (mk sep).cps ++ p.cps) ((ls.map mk).headD Str.empty).cps).toList = _
  cases ls with
  | nil => rfl
  | cons a r =>
    rw [List.map_cons, List.drop_succ_cons, List.drop_zero, glue_fold, jn_flat]
    simp
theorem split_mk {c : Nat} {l : List Nat} : Txt.split (mk l) (mk [c]) = (spl c l).map mk := by
  have h1 := StrLaws.join_split (mk l) (mk [c])
  have h2 : ∀ p ∈ Txt.split (mk l) (mk [c]), c ∉ p.cps.toList := fun p hp => StrLaws.split_free (mk l) c p hp
  have h3 := split_pos (mk l) (mk [c])
  obtain ⟨A, hA⟩ : ∃ A : List (List Nat), Txt.split (mk l) (mk [c]) = A.map mk := ⟨(Txt.split (mk l) (mk [c])).map Tx, by
    rw [List.map_map]
    conv => lhs; rw [← List.map_id (Txt.split (mk l) (mk [c]))]
    exact List.map_congr_left fun x _ => (mk_Tx x).symm⟩
  rw [hA] at h1 h2 h3 ⊢
  have e : jn [c] A = l := by
    have q : Txt.join (mk [c]) (A.map mk) = mk l := by
      rw [← h1]
      exact StrLaws.glued_eq_join _ _
    rw [join_mk] at q
    exact mk_inj.mp q
  rw [jn_inj (A := A) (B := spl c l) (by intro z; rw [z] at h3; simp at h3) (spl_ne _ _) (fun a ha => by have := h2 (mk a) (List.mem_map_of_mem ha); simpa using this) (spl_free _ _) (by rw [e, jn_spl])]
theorem cut_m1 {α : Type} {xs : List α} {x : α} : Xs.cut (xs ++ [x]) none (some (-1)) = xs := by
  have e : HT.sIx (xs ++ [x]).length (xs ++ [x]).length (some (-1)) = xs.length := by
    unfold HT.sIx
    simp
    omega
  unfold Xs.cut
  rw [HT.sIx_none, e]
  simp
/-- a comprehension over data, each by a computation that keeps the store -/
theorem lc_map {α : Type} {xs : List α} {f k : α → D} {src : XI} {e : XE} {i : Nat} {own : List Nat} {r : Env} {h : Sto} (hs : src r h = .ok ((xs.map f).length + 1, nL ((xs.map f).map .d)) h)
    (he : ∀ x ∈ xs, e ((wipeR r own).set i (some (.d (f x)))) h = .ok (.d (k x)) h) (hl : xs.length < lim) : xLc src (gN i) xYes e own r h = .ok (.d (.lst (xs.map k))) h := by
  obtain ⟨acc, rfl, z⟩ := lc_run (tg := gN i) (c := xYes) (e := e) (ws := (xs.map f).map .d) (r := wipeR r own) (h := h) (fun i acc => acc = (xs.take i).map fun x => .d (k x)) rfl (by
    rintro j w acc hw rfl
    rw [List.getElem?_map, List.getElem?_map] at hw
    have hj : j < xs.length := by
      rcases Nat.lt_or_ge j xs.length with z | z
      · exact z
      · rw [List.getElem?_eq_none z] at hw
        cases hw
    rw [List.getElem?_eq_getElem hj] at hw
    cases hw
    refine ⟨_, rfl, .inr ⟨rfl, Nat.lt_of_le_of_lt (by simp; omega) hl, .d (k xs[j]), he _ (List.getElem_mem hj), ?_⟩⟩
    rw [show xs.take (j + 1) = xs.take j ++ [xs[j]] by rw [List.take_succ, List.getElem?_eq_getElem hj]; rfl]
    simp only [List.map_append, List.map_cons, List.map_nil])
  have e' : List.take (List.map W.d (List.map f xs)).length xs = xs := by simp
  rw [e'] at z
  have pe : pureL (xs.map fun x => W.d (k x)) = some (xs.map k) := pureL_fn k xs
  have y : xLcs src (gN i) xYes e own r h = .ok (xs.map fun x => .d (k x)) h := by
    show (src r h).bind _ = _
    rw [hs]
    simp only [Re.bind]
    rw [show (List.map W.d (List.map f xs)).length = (List.map f xs).length from by simp] at z
    exact z
  simp only [xLc, y, Re.bind, pe]
theorem lc_mapT {α : Type} {xs : List α} {f k : α → D} {src : XI} {tg : XG} {e : XE} {own : List Nat} {r : Env} {h : Sto} (hs : src r h = .ok ((xs.map f).length + 1, nL ((xs.map f).map .d)) h)
    (he : ∀ x ∈ xs, ∃ r1, tg (.d (f x)) (wipeR r own) = some r1 ∧ e r1 h = .ok (.d (k x)) h) (hl : xs.length < lim) : xLc src tg xYes e own r h = .ok (.d (.lst (xs.map k))) h := by
  obtain ⟨acc, rfl, z⟩ := lc_run (tg := tg) (c := xYes) (e := e) (ws := (xs.map f).map .d) (r := wipeR r own) (h := h) (fun i acc => acc = (xs.take i).map fun x => .d (k x)) rfl (by
    rintro j w acc hw rfl
    rw [List.getElem?_map, List.getElem?_map] at hw
    have hj : j < xs.length := by
      rcases Nat.lt_or_ge j xs.length with z | z
      · exact z
      · rw [List.getElem?_eq_none z] at hw
        cases hw
    rw [List.getElem?_eq_getElem hj] at hw
    cases hw
    obtain ⟨r1, h1, h2⟩ := he _ (List.getElem_mem hj)
    refine ⟨r1, h1, .inr ⟨rfl, Nat.lt_of_le_of_lt (by simp; omega) hl, .d (k xs[j]), h2, ?_⟩⟩
    rw [show xs.take (j + 1) = xs.take j ++ [xs[j]] by rw [List.take_succ, List.getElem?_eq_getElem hj]; rfl]
    simp only [List.map_append, List.map_cons, List.map_nil])
  have e' : List.take (List.map W.d (List.map f xs)).length xs = xs := by simp
  rw [e'] at z
  have pe : pureL (xs.map fun x => W.d (k x)) = some (xs.map k) := pureL_fn k xs
  have y : xLcs src tg xYes e own r h = .ok (xs.map fun x => .d (k x)) h := by
    show (src r h).bind _ = _
    rw [hs]
    simp only [Re.bind]
    rw [show (List.map W.d (List.map f xs)).length = (List.map f xs).length from by simp] at z
    exact z
  simp only [xLc, y, Re.bind, pe]
theorem seq_lst {src : XE} {xs : List D} {r : Env} {h : Sto} (e : src r h = .ok (.d (.lst xs)) h) : iSeq src r h = .ok (xs.length + 1, nL (xs.map .d)) h := by simp only [iSeq, e, Re.bind, iterOf]
theorem seq_tup {src : XE} {xs : List D} {r : Env} {h : Sto} (e : src r h = .ok (.d (.tup xs)) h) : iSeq src r h = .ok (xs.length + 1, nL (xs.map .d)) h := by simp only [iSeq, e, Re.bind, iterOf]
/-- the text of texts with sep between them -/
theorem join_tx {sep : List Nat} {ls : List (List Nat)} {h : Sto} (hl : (ls.map List.length).sum + ls.length * sep.length ≤ 16000000) : fJoin (wT sep) [.d (.lst (ls.map fun l => .str (mk l)))] h = .ok (wT (jn sep ls)) h := by
  have pu : pureL ((ls.map fun l => D.str (mk l)).map .d) = some (ls.map fun l => D.str (mk l)) := pureL_map _
  have st : strsD (ls.map fun l => D.str (mk l)) = some (ls.map mk) := by
    have := strsD_map (ls.map mk)
    rwa [List.map_map] at this
  have sm : ((ls.map mk).map (·.length)).sum + (ls.map mk).length * (mk sep).length ≤ 16000000 := by
    rw [List.map_map, List.length_map, mk_len]
    have : (ls.map ((fun x => x.length) ∘ mk)) = ls.map List.length := List.map_congr_left fun l _ => mk_len l
    rw [this]
    exact hl
  simp only [fJoin, W.str?, sdOf, seqOf, lstOf, pu, st]
  rw [if_pos sm, join_mk]
theorem sum_le {ls : List (List Nat)} {k : Nat} (h : ∀ l ∈ ls, l.length ≤ k) : (ls.map List.length).sum ≤ k * ls.length := by
  induction ls with
  | nil => simp
  | cons l ls ih =>
    have h1 := h l List.mem_cons_self
    have h2 := ih fun x hx => h x (List.mem_cons_of_mem _ hx)
    simp only [List.map_cons, List.sum_cons, List.length_cons]
    rw [Nat.mul_succ]
    omega
theorem bm1 {T : String} {F : W → List W → Sto → Re W} {o a : XE} {r : Env} {h h1 h2 : Sto} {w x : W} {z : Re W} (e1 : o r h = .ok w h1) (ty : tyOk T w h1 = true) (e2 : a r h1 = .ok x h2) (e3 : F w [x] h2 = z) : xBm T F o (xCons a xNil) r h = z := by
  simp only [xBm, e1, Re.bind]
  rw [if_pos ty]
  simp only [xCons, xNil, e2, Re.bind, e3]
theorem addL_d {xs ys : List D} {h : Sto} (hl : xs.length + ys.length ≤ lim) : fAddL (.d (.lst xs)) (.d (.lst ys)) h = .ok (.d (.lst (xs ++ ys))) h := by
  have p1 : pureL (xs.map .d) = some xs := pureL_map _
  have p2 : pureL (ys.map .d) = some ys := pureL_map _
  simp [p1, p2, hl]
theorem slT_drop {ds : List D} {k : Nat} {h : Sto} : fSl (.d (.tup ds)) (some (k : Int)) none h = .ok (.d (.tup (ds.drop k))) h := by
  simp only [fSl, W.tup?, cut_drop]
theorem slT_take {ds : List D} {k : Nat} {h : Sto} : fSl (.d (.tup ds)) none (some (k : Int)) h = .ok (.d (.tup (ds.take k))) h := by
  simp only [fSl, W.tup?, cut_take]
theorem slL_drop {ds : List D} {k : Nat} {h : Sto} : fSl (.d (.lst ds)) (some (k : Int)) none h = .ok (.d (.lst (ds.drop k))) h := by
  have p1 : pureL (ds.map .d) = some ds := pureL_map _
  simp only [fSl, W.tup?, lstOf, p1, cut_drop]
theorem sl_ok {a : XE} {lo hi : XO} {l u : Option Int} {r : Env} {h h1 h2 h3 : Sto} {w : W} {z : Re W} (e1 : a r h = .ok w h1) (e2 : lo r h1 = .ok l h2) (e3 : hi r h2 = .ok u h3) (e4 : fSl w l u h3 = z) : xSl a lo hi r h = z := by
  simp only [xSl, e1, e2, e3, Re.bind, e4]
theorem asg_ok {tg : XG} {e : XE} {r r1 : Env} {h h1 : Sto} {w : W} (e1 : e r h = .ok w h1) (e2 : tg w r = some r1) : sAsg tg e r h = .nx r1 h1 := by simp [e1, e2]
/-! ### texts that are put together -/
/-- e gives the text x, of at most k signs, and keeps the store -/
def Ev (e : XE) (r : Env) (h : Sto) (x : List Nat) (k : Nat) : Prop := e r h = .ok (wT x) h ∧ x.length ≤ k
theorem Ev.add {a b : XE} {r : Env} {h : Sto} {x y : List Nat} {k l : Nat} (p : Ev a r h x k) (q : Ev b r h y l) (hk : k + l ≤ 16000000 := by decide) : Ev (xBin fAddS a b) r h (x ++ y) (k + l) := by
  have h1 := p.2
  have h2 := q.2
  exact ⟨bin_ok p.1 q.1 (fAddS_tx (lim_of (by omega))), by rw [List.length_append]; omega⟩
theorem Ev.lit {s : Str} {l : List Nat} {r : Env} {h : Sto} (e : s = mk l) (k : Nat) (hk : l.length ≤ k := by decide) : Ev (xC (.str s)) r h l k := ⟨by rw [e]; rfl, hk⟩
theorem Ev.up {e : XE} {r : Env} {h : Sto} {x : List Nat} {k : Nat} (l : Nat) (p : Ev e r h x k) (hk : k ≤ l := by decide) : Ev e r h x l := ⟨p.1, Nat.le_trans p.2 hk⟩
theorem Ev.num {a : XE} {r : Env} {h : Sto} {n : Nat} (e : a r h = .ok (.d (.int n)) h) (hn : n < 1000000000) : Ev (xApp (f1 fStr) (xCons a xNil)) r h (dig n) 9 := by
  have l : Nat.log2 n < 1920 := by
    have : Nat.log2 n < 30 := by
      rcases Nat.eq_zero_or_pos n with z | z
      · subst z; decide
      · exact (Nat.log2_lt (by omega)).mpr (by omega)
    omega
  refine ⟨app1 e ?_, dig_len9 hn⟩
  simp [l, dig_mk']
theorem cons_ok {a : XE} {b : XA} {r : Env} {h h1 h2 : Sto} {x : W} {xs : List W} (e : a r h = .ok x h1) (e2 : b r h1 = .ok xs h2) : xCons a b r h = .ok (x :: xs) h2 := by simp [e, e2]
theorem nil_ok {r : Env} {h : Sto} : xNil r h = .ok [] h := rfl
theorem appx {F : List W → Sto → Re W} {t : XA} {r : Env} {h h1 : Sto} {ws : List W} {z : Re W} (e : t r h = .ok ws h1) (e2 : F ws h1 = z) : xApp F t r h = z := by simp [e, e2]
theorem mkTup_d {ds : List D} {h : Sto} (hl : ds.length ≤ 1000 := by first | decide | simp) : mkTup (ds.map .d) h = .ok (.d (.tup ds)) h := by
  have p : pureL (ds.map .d) = some ds := pureL_map _
  have l : ds.length ≤ lim := lim_of (by omega)
  simp [mkTup, p, l]
theorem mkLst_d {ds : List D} {h : Sto} (hl : ds.length ≤ 1000 := by first | decide | simp) : mkLst (ds.map .d) h = .ok (.d (.lst ds)) h := by
  have p : pureL (ds.map .d) = some ds := pureL_map _
  have l : ds.length ≤ lim := lim_of (by omega)
  simp [mkLst, p, l]
theorem ixL {ds : List D} {k : Nat} {h : Sto} (hk : k < ds.length) : fIx (.d (.lst ds)) (.d (.int k)) h = .ok (.d ds[k]) h := by
  have hk' : k < (ds.map W.d).length := by simpa using hk
  simp only [fIx, seqOf, lstOf, W.int?, atI_nat hk']
  simp
theorem ixT {ds : List D} {k : Nat} {h : Sto} (hk : k < ds.length) : fIx (.d (.tup ds)) (.d (.int k)) h = .ok (.d ds[k]) h := by
  have hk' : k < (ds.map W.d).length := by simpa using hk
  simp only [fIx, seqOf, W.int?, atI_nat hk']
  simp
/-! ### what is shown stays short -/
structure Sm (d : D) (m c : Nat) : Prop where
  rok : d.rok = true
  dep : d.depth ≤ m
  cost : d.cost ≤ c
theorem Sm.up {d : D} {m c m' c' : Nat} (h : Sm d m c) (hm : m ≤ m' := by decide) (hc : c ≤ c' := by decide) : Sm d m' c' := ⟨h.rok, Nat.le_trans h.dep hm, Nat.le_trans h.cost hc⟩
theorem Sm.lst0 {m c : Nat} : ∀ {ds : List D}, (∀ x ∈ ds, Sm x m c) → D.roks ds = true ∧ D.depths ds ≤ m ∧ D.costs ds ≤ ds.length * (c + 2)
  | [], _ => ⟨rfl, Nat.zero_le _, Nat.zero_le _⟩
  | d :: ds, h => by
    obtain ⟨h1, h2, h3⟩ := Sm.lst0 fun x hx => h x (List.mem_cons_of_mem _ hx)
    have h0 := h d List.mem_cons_self
    refine ⟨by simp only [D.roks, h0.rok, h1, Bool.and_self], ?_, ?_⟩
    · simp only [D.depths]
      exact Nat.max_le.mpr ⟨h0.dep, h2⟩
    · simp only [D.costs, List.length_cons, Nat.succ_mul]
      have := h0.cost
      omega
theorem Sm.tup {ds : List D} {m c : Nat} (n : Nat) (h : ∀ x ∈ ds, Sm x m c) (hn : ds.length ≤ n) : Sm (.tup ds) (m + 1) (n * (c + 2) + 3) := by
  obtain ⟨h1, h2, h3⟩ := Sm.lst0 h
  have := Nat.mul_le_mul_right (c + 2) hn
  exact ⟨by simpa only [D.rok] using h1, by simp only [D.depth]; omega, by simp only [D.cost]; omega⟩
theorem Sm.lst {ds : List D} {m c : Nat} (n : Nat) (h : ∀ x ∈ ds, Sm x m c) (hn : ds.length ≤ n) : Sm (.lst ds) (m + 1) (n * (c + 2) + 3) := by
  obtain ⟨h1, h2, h3⟩ := Sm.lst0 h
  have := Nat.mul_le_mul_right (c + 2) hn
  exact ⟨by simpa only [D.rok] using h1, by simp only [D.depth]; omega, by simp only [D.cost]; omega⟩
theorem Sm.int {n : Nat} (h : n < 1000000000) : Sm (.int n) 0 1921 := by
  have l : Nat.log2 n < 1920 := by
    have : Nat.log2 n < 30 := by
      rcases Nat.eq_zero_or_pos n with z | z
      · subst z; decide
      · exact (Nat.log2_lt (by omega)).mpr (by omega)
    omega
  exact ⟨by simp [D.rok, l], Nat.le_refl _, Nat.le_refl _⟩
theorem Sm.str {s : List Nat} (k : Nat) (h : s.length ≤ k) : Sm (.str (Xs.mk s)) 0 (10 * k + 2) := ⟨rfl, Nat.le_refl _, by simp only [D.cost, mk_len]; omega⟩
theorem Sm.strS {z : Str} (k : Nat) (h : z.length ≤ k) : Sm (.str z) 0 (10 * k + 2) := ⟨rfl, Nat.le_refl _, by simp only [D.cost]; omega⟩
theorem Sm.bl {b : Bool} : Sm (.bl b) 0 5 := ⟨rfl, Nat.le_refl _, Nat.le_refl _⟩
theorem Sm.repr {d : D} {m c : Nat} {h : Sto} (s : Sm d m c) (hm : m ≤ 64 := by decide) (hc : c ≤ 16000000 := by decide) : fRepr (.d d) h = .ok (.t d.py.shown) h := by
  have h1 := s.rok
  have h2 : d.depth ≤ 64 := Nat.le_trans s.dep hm
  have h3 : d.cost ≤ lim := lim_of (Nat.le_trans s.cost hc)
  simp [h1, h2, h3]
end
end Xs

/-! XsAP: exceptions whose context is None (defs of the kind N), raise C(), an except suite that raises. -/
namespace Xs
noncomputable section
open PySem PySem.Spec PyProof.Rows L2
theorem cx_of_n {P : Program} {w : World} {outer : List PySem.Env} {H : Hp} {s : Shared} {E : XK} {u : Value} {s' : Shared} (x : L2N.CX P w outer H s E u s') : L2.CX P w outer H s E u s' := by
  obtain ⟨a, B, H', cls, d, rfl, fl, hok, ub, na, os, ag, hE⟩ := x
  exact ⟨a, B, H', cls, d, rfl, L2H.flyingZ_imp (fun _ z => z.zc) fl, hok, ub, na, os, ag, hE⟩
theorem cx_call_none {X : Cx} {Z : WX} (tk : L2N.Takes X Z) : Passes (L2.CX X.prog X.w) X (fun _ _ _ => False) := fun _ _ _ _ _ _ _ c => by
  obtain ⟨_, _, _, _, _, _, _, _, _, _, _, _, hE⟩ := c
  exact hE.elim
theorem pmk_of_n {X : Cx} {e : Expr} {t : L2.St → Hp → XK → Prop} (h : L2N.PMk X e t) : PMk X e t := fun pins s σ H Q I q => wpAny_mono (h pins s σ H Q I q) (fun u s1 ⟨a, oe, vs, sI, H', cls, d, e1, J, k, hne, ha, hz, r⟩ => ⟨a, oe, vs, sI, H', cls, d, e1, J, k, hne, ha, hz.zc, r⟩) fun _ _ x => x
section
variable {X : Cx} {C : Addr} {bmB : List Value} {B newId initId : String}
/-- C() -/
theorem pmk_own0 {x : Str} {p pos : Pos} (F : ExcBaseFacts B newId initId bmB) (q : PySem.W.excIn X.K C bmB newId = true) (gC : X.mg x = some (.ref C)) (kC : PySem.W.keepIn X.K (.ref C) = true) (r : Raises X (.ref C)) (hg : Gl X x)
    (hdb : (x == ("__debug__" : Str)) = false := by decide) : L2N.PMk X (.Call (.Name x p) [] [] pos) (fun _ H Q => Q (.ref C) none H) := by
  intro pins s σ H Q I h
  refine wpAny_Call_Name_kw (ld_glob I hg gC ?_ hdb)
  refine PySem.W.callWith_K0 I.kIn kC ?_
  show wpAny _ _ (call (.ref C) []) _ _ _
  obtain ⟨bm, N, nm, qn, bs, hdct, sn, sub, ab, col, dd, k0, k1, k2, k3, k5, mN, hC, hN, hni, T⟩ := exc_obj I.kIn q
  refine wpAny_call_exc_subT F T hC hN hni (fun h' e hm => ?_) (by show 0 ≤ sizeLine; exact Nat.zero_le _)
  exact L2N.mk_of I hm r h (I.hok.gone hm.new)
end
section
variable {X : Cx} {pins : List (Addr × Obj)} {σ : L2.St} {e : Expr} {es : List Expr} {ta : TA} {p pos : Pos}
theorem mk_endN {H1 H2 : Hp} {Q : XK} {hp hp2 h2 : Heap} {g1 g2 : Array GenState} {d1 d2 : Drawn} {t1 t2 : Nat} {os1 os2 : OsState} {a C d : Addr} {fs : List (Str × V)} (T : Raises X (.ref C)) (I1 : Inv X pins σ H1 ⟨hp, g1, d1, t1, os1⟩)
    (ha : hp.objs.size ≤ a) (k : ∀ b o, hp.get? b = some o → hp2.get? b = some o) (un : Un (frs X.stack) [] (upd H1 a (exo a C none)) H2 hp2 h2) (hok : HOk X.prog X.w H2 h2) (ho : os2 = os1) (hb : AllBare g2)
    (ea : H2 a = some (exo a C (some d))) (ed : H2 d = some (exd d fs)) (hd1 : H1 d = none) (q : Q (.ref C) (some d) (upd (del H2 a) d (.xd fs))) : L2N.MkP X pins σ Q (.ref a) ⟨h2, g2, d2, t2, os2⟩ := by
  obtain ⟨t0, G, J, kG, ge, hoe, na⟩ := mk_end0 (d2 := d2) (t2 := t2) I1 ha k un hok ho hb ea ed hd1
  exact ⟨a, _, _, ⟨G, g2, d2, t2, os2⟩, _, .ref C, some d, rfl, J, kG, ge, hoe, ⟨rfl, rfl, fun vs e => by cases e; rfl⟩, rfl, rfl, na, rfl, hb, T, q⟩
theorem pmk_oexN {CX : CXT} {x : Str} {C fI : Addr} {k : Nat} {fd : FuncData} {ps : List Str} {sp : Sp} {ds : List Value} {dvs : List V} (T : OexC X.K C) (iC : PySem.W.findIn X.K (.ref C) "__init__" = some (some (.ref fI))) (tI : PySem.W.typeIn X.K (.ref fI) = some (.type "function"))
    (F1 : FnOk X.prog X.w X.K X.mg X.base CX k fI fd ps sp) (hr : Room (k + 1) X.A) (hb : Binds X.K fd ps ds) (hd : Vals dvs ds) (hx : Passes CX X (fun _ _ _ => False)) (hg : Gl X x) (hm : X.mg x = some (.ref C)) (ha : PA X (e :: es) ta)
    (hdb : (x == ("__debug__" : Str)) = false := by decide) (he : starEach (e :: es) X.env = (false, eval e X.env) :: starEach es X.env := by rfl) (hpl : (backTo pos (starEach es X.env)).any (·.1) = false := by rfl) :
    L2N.PMk X (.Call (.Name x p) (e :: es) [] pos) (tMkO C sp dvs ta) := by
  intro pins s σ H Q I h
  obtain ⟨nm, q, N, bs, bm, sn, sub, ab, col, dd, k0, k1, k2, k3, k5, hC, hbm⟩ := T.cls
  refine wpAny_Call_Name_kw (ld_glob I hg hm ?_ hdb)
  refine PySem.W.callWith_K (h₀ := X.base) I.ok.mod.kin T.kC (thn (ha.run pos pins s σ H _ I h) fun us s1 ⟨vs, H1, I1, r1, hz, q1⟩ => ⟨I1.kIn, ?_⟩) he hpl
  show wpAny _ _ (call (.ref C) us) _ _ _
  obtain ⟨hp, g, dr, tk, os⟩ := s1
  have hsz : hp.objs.size ≤ hp.objs.size + 1 := Nat.le_succ _
  have hn : H1 (hp.objs.size + 1) = none := I1.hok.fresh hsz
  have hq := q1 (hp.objs.size + 1) hn
  have kk : ∀ b o, hp.get? b = some o → ((hp.push (PySem.W.kdv_tup us)).push (PySem.HandSPX.excO C hp.objs.size)).get? b = some o := fun b o e => Heap.get?_push_of_some _ (Heap.get?_push_of_some _ e)
  have hget : ((hp.push (PySem.W.kdv_tup us)).push (PySem.HandSPX.excO C hp.objs.size)).get? (hp.objs.size + 1) = some (PySem.HandSPX.excO C hp.objs.size) := by heap_get
  have I2 : Inv X pins σ (upd H1 (hp.objs.size + 1) (exo (hp.objs.size + 1) C none)) ⟨(hp.push (PySem.W.kdv_tup us)).push (PySem.HandSPX.excO C hp.objs.size), g, dr, tk, os⟩ :=
    I1.laid (t' := tk) (a := hp.objs.size + 1) (o := exo (hp.objs.size + 1) C none) (h' := (hp.push (PySem.W.kdv_tup us)).push (PySem.HandSPX.excO C hp.objs.size)) kk hsz (exo_ok hget)
  have r2 : Vals (V.ref (hp.objs.size + 1) :: (vs ++ dvs)) (Value.ref (hp.objs.size + 1) :: (us ++ ds)) := .cons rfl (r1.append hd)
  have hl : (Value.ref (hp.objs.size + 1) :: us ++ ds).length = ps.length := by
    have e := r2.length
    rw [F1.len _ _ _ _ hq] at e
    exact e.symm
  have hus : us.length ≤ sizeLine := by
    rw [← Paired.length r1, sizeLine_eq]
    omega
  refine wpAny_call (PySem.HandSPX.call_own F.excBase_ValueError (fun Y => PySem.HandSPX.refsVE_contains Y bm hbm) (I1.kIn _ _ hC) (PySem.W.looks_findIn I1.kIn iC) (fun self => PySem.W.bind_fn I1.kIn self tI) hus
    (codeAny_mono (F1.run _ X.stack _ _ ⟨Value.ref (hp.objs.size + 1) :: us, []⟩ (Value.ref (hp.objs.size + 1) :: (us ++ ds)) _ _ (fun _ _ _ => False) (hr.make C us []) (I2.env0.make C us []) (hb _ (Value.ref (hp.objs.size + 1) :: us) I2.kIn hl) r2 hq) fun r s' hq' => ?_))
  cases r with
  | error er => exact hx pins σ _ _ er s' I2 hq'
  | ok fl =>
    cases fl with
    | ret u =>
      obtain ⟨v, H2, os2, bare2, un2, hok2, rv, ev, d, fs, ea, ed, hd1, q2⟩ := hq'
      subst ev
      obtain ⟨h2, g2, d2, t2, os'⟩ := s'
      exact ⟨rv, mk_endN (raises_own T.exC T.tyC) I1 hsz kk un2 hok2 os2 bare2 ea ed hd1 q2⟩
    | next => exact False.elim hq'
    | brk => exact False.elim hq'
    | cont => exact False.elim hq'
end
section
variable {g : G} {Z : WX} {H H1 H2 : Hp} {M M1 M2 : Mu} {fl : List Nat} {h h1 h2 : Sto} {a C dx : Addr} {u : HO} {X : Cx} {pos : Pos}
theorem ss_raiseN {c n cx : Str} {xe xa : XE} {e : Expr} {p p1 : Pos} {fI : Addr} {k : Nat} {fd : FuncData} {y : Str} (tk : L2N.Takes X Z) (hcalm : X.calm = true) (hcm : g.cm c = some C) (T : OexC X.K C)
    (iC : PySem.W.findIn X.K (.ref C) "__init__" = some (some (.ref fI))) (tI : PySem.W.typeIn X.K (.ref fI) = some (.type "function")) (F1 : FnOk X.prog X.w X.K X.mg X.base (L2.CX X.prog X.w) k fI fd [("self" : Str), y] (spX g C n xe))
    (hr : Room (k + 1) X.A) (hb : Binds X.K fd [("self" : Str), y] []) (hg : Gl X cx) (hm : X.mg cx = some (.ref C)) (ha : PE X e (rdE g Z xa))
    (hdb : (cx == ("__debug__" : Str)) = false := by decide) (he : starEach [e] X.env = (false, eval e X.env) :: starEach [] X.env := by rfl) :
    PS X (.Raise (some (.Call (.Name cx p) [e] [] p1)) none pos) (rdS g Z (sRaise c n xe xa)) := by
  refine PS.imp (L2N.ps_raise hcalm tk (pmk_oexN (ds := []) (dvs := []) T iC tI F1 hr hb .nil (cx_call_none tk) hg hm (sa_cons ha sa_nil he) hdb he)) fun D σ H ⟨r, h, M, fl, rs, rh, p⟩ => ?_
  refine ⟨r, h, M, fl, rs, rh, ?_⟩
  have key := Po.then rs rh.sub p (Q1 := fun v H1 => ∀ a, H1 a = none → spX g C n xe [.ref a, v] (upd H1 a (exo a C none)) (fun v H2 => v = .non ∧ ∃ (d : Addr) (fs : List (Str × V)), H2 a = some (exo a C (some d)) ∧ H2 d = some (exd d fs) ∧ H1 d = none ∧ Z (.ref C) (some d) σ (upd (del H2 a) d (.xd fs))) (fun _ _ _ => False)) (R := RW g) fun w h1 v H1 M1 e1 rs1 rh1 rw1 p1 => ?_
  · simp only [xCons, xNil]
    cases ex : xa r h with
    | ok w h1 =>
      rw [ex] at key
      intro vs H1 M1 x1 rh1 rws
      cases rws with
      | cons rv t =>
        cases t
        refine ⟨by simp, fun a hn => ?_⟩
        have := key _ H1 M1 x1 rh1 rv a hn
        simpa using this
    | exc e' h1 =>
      rw [ex] at key
      exact key
    | stuck => rw [ex] at key; exact key
  · intro a hn
    cases w with
    | d x =>
      simp only at p1
      cases ey : xe [none, some (.d x), none] h1 with
      | ok w2 h2 =>
        rw [ey] at p1
        simp only at p1
        have x0 : Ext H1 M1 (upd H1 a (exo a C none)) (M1.tmp a) := Ext.tmp hn rh1
        have am0 : a ∉ (M1.tmp a).m := RH.notin (M := M1) hn rh1
        cases rw1 with
        | d rx =>
          refine ⟨a, v, x, M1.tmp a, fl, h1, w2, h2, rfl, RH.tmp hn rh1, rx.mono x0 rh1.sub, upd_same, am0, ey, fun H2 M2 dx x2 rh2 ea2 hdx ne => ?_⟩
          obtain ⟨y1, y2, y3⟩ := let_go hn rh1 x2 rh2 ea2
          have d1 : H1 dx = none := by
            cases hz : H1 dx with
            | none => rfl
            | some o =>
              obtain ⟨o', q⟩ := x2.dom dx o (by rw [upd_ne ne]; exact hz)
              rw [hdx] at q
              cases q
          have hd2 : (del H2 a) dx = none := by rw [del_ne ne]; exact hdx
          refine ⟨rfl, dx, [(n, v)], upd_same, by rw [upd_ne ne, upd_same], d1, ?_⟩
          have eq : upd (del (upd (upd H2 dx (exd dx [(n, v)])) a (exo a C (some dx))) a) dx (.xd [(n, v)]) = upd (del H2 a) dx (.xd [(n, v)]) := by
            funext b
            by_cases b1 : b = dx
            · rw [b1, upd_same, upd_same]
            · rw [upd_ne b1, upd_ne b1]
              by_cases b2 : b = a
              · rw [b2, del_same, del_same]
              · rw [del_ne b2, del_ne b2, upd_ne b2, upd_ne b1]
          rw [eq]
          have z1 := Ext.freshF (u := .xd [(n, v)]) hd2 y2
          have z2 := RH.freshF (u := .xd [(n, v)]) y2 hd2
          have yz := y1.trans z1
          exact p1 (.ref C) (some dx) σ _ _ yz (rs1.mono yz rh1.sub) z2 ⟨C, rfl, hcm, .inr ⟨dx, [(n, v)], rfl, upd_same, fun q => q.2 rfl, .cons (rx.mono yz rh1.sub) .nil⟩⟩
      | exc _ _ => rw [ey] at p1; exact p1.elim
      | stuck => rw [ey] at p1; exact p1.elim
    | _ => exact p1.elim
end
/-! ### raise C() -/
def sRaise0 (c : Str) : XS := fun r h => .exc ⟨c, []⟩ r h
section
variable {X : Cx} {g : G} {Z : WX} {C : Addr} {bmB : List Value} {B newId initId : String} {c x : Str} {p p1 pos : Pos}
theorem raise0_read {D : Ends} {σ : L2.St} {H : Hp} (hcm : g.cm c = some C) (q : rdS g Z (sRaise0 c) D σ H) : Z (.ref C) none σ H := by
  obtain ⟨r, h, M, fl, rs, rh, p⟩ := q
  exact p (.ref C) none σ H M (Ext.refl H M) rs rh ⟨C, rfl, hcm, .inl ⟨rfl, rfl⟩⟩
theorem ss_raise0 (tk : Takes X Z) (hcalm : X.calm = true) (hcm : g.cm c = some C) (F : ExcBaseFacts B newId initId bmB) (q : PySem.W.excIn X.K C bmB newId = true) (gC : X.mg x = some (.ref C)) (kC : PySem.W.keepIn X.K (.ref C) = true) (r : Raises X (.ref C)) (hg : Gl X x)
    (hdb : (x == ("__debug__" : Str)) = false := by decide) : PS X (.Raise (some (.Call (.Name x p) [] [] p1)) none pos) (rdS g Z (sRaise0 c)) :=
  PS.imp (ps_raise hcalm tk (pmk_of_n (pmk_own0 F q gC kC r hg hdb))) fun _ _ _ => raise0_read hcm
theorem ss_raise0N (tk : L2N.Takes X Z) (hcalm : X.calm = true) (hcm : g.cm c = some C) (F : ExcBaseFacts B newId initId bmB) (q : PySem.W.excIn X.K C bmB newId = true) (gC : X.mg x = some (.ref C)) (kC : PySem.W.keepIn X.K (.ref C) = true) (r : Raises X (.ref C)) (hg : Gl X x)
    (hdb : (x == ("__debug__" : Str)) = false := by decide) : PS X (.Raise (some (.Call (.Name x p) [] [] p1)) none pos) (rdS g Z (sRaise0 c)) :=
  PS.imp (L2N.ps_raise hcalm tk (pmk_own0 F q gC kC r hg hdb)) fun _ _ _ => raise0_read hcm
/-- in an except suite -/
theorem ss_raise0H (tk : Takes X Z) (hot : L2H.HotC X) (hcm : g.cm c = some C) (F : ExcBaseFacts B newId initId bmB) (q : PySem.W.excIn X.K C bmB newId = true) (gC : X.mg x = some (.ref C)) (kC : PySem.W.keepIn X.K (.ref C) = true) (r : Raises X (.ref C)) (hg : Gl X x)
    (hdb : (x == ("__debug__" : Str)) = false := by decide) : PS X (.Raise (some (.Call (.Name x p) [] [] p1)) none pos) (rdS g Z (sRaise0 c)) :=
  PS.imp (L2H.ps_raiseH hot tk (pmk_own0 F q gC kC r hg hdb)) fun _ _ _ => raise0_read hcm
end
/-! ### defs of the kind N -/
structure FnGN (P : Program) (w : World) (K : PySem.W.Frag) (mg : Str → Option Value) (base : Heap) (k : Nat) (f : Addr) (fd : FuncData) (ps : List Str) (sp : Sp) : Prop where
  len : ∀ vs H Q E, sp vs H Q E → vs.length = ps.length
  go : ∀ (A : Around) (outer : List PySem.Env) (s : Shared) (H : Hp) (args : Args) (us : List Value) (vs : List V) (Q : VK) (E : XK), Room k A → A.guards = some [] → Env0 P w K mg base A outer s H → BindsTo s fd args (ps.zip us) → Vals vs us → sp vs H Q E →
    codeAny (model P w) A (.call (.ref f) args) (CR (L2N.CX P w) outer P w H s Q E) s
section
variable {P : Program} {w : World} {K : PySem.W.Frag} {mg : Str → Option Value} {base : Heap} {j k na nl : Nat} {f : Addr} {fd : FuncData} {ps N : List Str} {sp : Sp} {g : G} {body : XS} {x qual : Str} {st : Stmt}
theorem FnGN.mono (F : FnGN P w K mg base j f fd ps sp) (h : j ≤ k) : FnGN P w K mg base k f fd ps sp := ⟨F.len, fun A outer s H args us vs Q E hr => F.go A outer s H args us vs Q E (hr.mono h)⟩
theorem FnGN.up (F : FnGN P w K mg base k f fd ps sp) : FnG P w K mg base k f fd ps sp := ⟨F.len, fun A outer s H args us vs Q E hr hgd e0 hb r hsp => codeAny_mono (F.go A outer s H args us vs Q E hr hgd e0 hb r hsp) fun z s' hq => by
  cases z with
  | error e => exact cx_of_n hq
  | ok fl =>
    cases fl with
    | ret u => exact hq
    | next => exact hq.elim
    | brk => exact hq.elim
    | cont => exact hq.elim⟩
theorem fng_coreN {name qual : Str} {params : Arguments} {body : List Stmt} {scope : Scope} {dV kV doc pm cdv ct oc : Value} {an od : Option Addr} {osl : Array (Option Value)} {N : List Str} {A : Around} {outer : List PySem.Env} {s : Shared} {H : Hp} {args : Args} {us : List Value} {vs : List V} {Q : VK} {E : XK}
    (lk : K.lookup f = some ⟨oc, od, .func (PySem.W.fnOf name qual params body scope dV kV doc pm an cdv ct), osl⟩) (hcd : PySem.W.codeIn K cdv qual = true) (S : FnScope N ps scope) (hr : Room (k + 1) A) (hgd : A.guards = some []) (e0 : Env0 P w K mg base A outer s H)
    (hb : BindsTo s (PySem.W.fnOf name qual params body scope dV kV doc pm an cdv ct) args (ps.zip us)) (r : Vals vs us) (hsp : sp vs H Q E) (hl : vs.length = ps.length)
    (go : ∃ t, PSs (cxOf (L2N.CX P w) P w K mg base N qual scope f cdv A outer s H E) body t ∧ t { nx := fun _ H' => Q .non H', rt := Q } (start N vs) H) :
    codeAny (model P w) A (.call (.ref f) args) (CR (L2N.CX P w) outer P w H s Q E) s := by
  have KX : K.In s.heap := e0.mod.kin.keeps fun b o e => (e0.bs b o e).1
  have room : s.heap.NoLimit := e0.mod.nolimit.keeps fun b o e => (e0.bs b o e).1
  have kinds : ∀ y ∈ ps.zip us, scope.names.lookup y.1 = some .local ∨ (scope.names.lookup y.1 = some .cell ∧ ((cellsFrom (s.heap.objs.size + 1) scope.names []).lookup y.1).isSome = true) := fun ⟨n, v⟩ hy =>
    (S.par n (List.of_mem_zip hy).1).elim .inl fun q => .inr ⟨q, PySem.W.cellsFrom_some _ _ _ (.inl q)⟩
  refine codeAny_call_function hr.depth (KX _ _ lk) rfl S.co S.gen rfl (PySem.W.codeRec_of KX hcd) (hb _ _ _ _ ?_)
  refine wpAny_newFunctionEnv_cells S.kind kinds fun env he s1 x => ?_
  subst he
  refine ⟨room.keeps x.toInCall.keep, codeAny_func ?_⟩
  obtain ⟨t, ht, hq⟩ := go
  have I := inv_start (CX := L2N.CX P w) (E := E) S hr.hd e0 hl r x
  refine wpAny_mono (ht.run [] s1 (start N vs) H _ I hq) (fun fl s' hs => ?_) fun e s' hs => hs
  cases fl with
  | ret u =>
    obtain ⟨v, σ', H', J, rv, q⟩ := hs
    exact ⟨v, H', J.os, J.bare, J.base, J.hok, rv, q⟩
  | next =>
    obtain ⟨σ', H', J, q⟩ := hs
    exact ⟨V.non, H', J.os, J.bare, J.base, J.hok, rfl, q⟩
  | brk => obtain ⟨_, _, _, q⟩ := hs; exact q.elim
  | cont => obtain ⟨_, _, _, q⟩ := hs; exact q.elim
abbrev BodyN (P : Program) (w : World) (K : PySem.W.Frag) (mg : Str → Option Value) (base : Heap) (k : Nat) (f : Addr) (N : List Str) (g : G) (body : XS) (qual : Str) (st : Stmt) : Prop :=
  ∀ (cdv : Value) (A : Around) (outer : List PySem.Env) (s : Shared) (H : Hp) (E : XK), Room k (A.deeper (envOfC qual (defScope st) s.heap.objs.size f cdv)) → (A.deeper (envOfC qual (defScope st) s.heap.objs.size f cdv)).guards = some [] →
    PSs (cxOf (L2N.CX P w) P w K mg base N qual (defScope st) f cdv A outer s H E) (defBody st) (rdS g (fun c d _ H => E c d H) body)
abbrev BodyCN (P : Program) (w : World) (K : PySem.W.Frag) (mg : Str → Option Value) (base : Heap) (k : Nat) (f : Addr) (N : List Str) (g : G) (body : XS) (qual : Str) (st : Stmt) : Prop :=
  ∀ (cdv : Value) (A : Around) (outer : List PySem.Env) (s : Shared) (H : Hp) (E : XK), Room k (A.deeper (envOfC qual (defScope st) s.heap.objs.size f cdv)) → (A.deeper (envOfC qual (defScope st) s.heap.objs.size f cdv)).guards = some [] → CodeOf K f cdv →
    PSs (cxOf (L2N.CX P w) P w K mg base N qual (defScope st) f cdv A outer s H E) (defBody st) (rdS g (fun c d _ H => E c d H) body)
theorem fngCN (F : Fun K x qual st f fd) (S : FnScope N ps (defScope st)) (b : BodyCN P w K mg base k f N g body qual st) (len : ∀ vs H Q E, sp vs H Q E → vs.length = ps.length)
    (rd : ∀ {vs : List V} {H : Hp} {Q : VK} {E : XK}, sp vs H Q E → rdS g (fun c d _ H => E c d H) body { nx := fun _ H' => Q .non H', rt := Q } (start N vs) H) : FnGN P w K mg base (k + 1) f fd ps sp := by
  obtain ⟨oc, od, kV, doc, pm, an, cdv, ct, osl, rfl, lk, hcd⟩ := F.ex
  refine ⟨len, fun A outer s H args us vs Q E hr hgd e0 hb r hsp => ?_⟩
  exact fng_coreN lk hcd S hr hgd e0 hb r hsp (len _ _ _ _ hsp) ⟨_, b cdv A outer s H E (hr.deeper _) (by rw [guards_deeper]; exact hgd) ⟨_, _, _, _, _, _, _, _, _, _, _, _, _, _, lk⟩, rd hsp⟩
theorem fngIN (F : Fun K x qual st f fd) (S : FnScope N ps (defScope st)) (b : BodyN P w K mg base k f N g body qual st) (hN : N.length = nl := by rfl) (hp : ps.length = na := by rfl) : FnGN P w K mg base (k + 1) f fd ps (spF g (fnI na nl body)) :=
  fngCN F S (fun cdv A outer s H E hr hg _ => b cdv A outer s H E hr hg) (fun vs H Q E h => fnI_len hp h) (readI hN)
theorem fngICN (F : Fun K x qual st f fd) (S : FnScope N ps (defScope st)) (b : BodyCN P w K mg base k f N g body qual st) (hN : N.length = nl := by rfl) (hp : ps.length = na := by rfl) : FnGN P w K mg base (k + 1) f fd ps (spF g (fnI na nl body)) :=
  fngCN F S b (fun vs H Q E h => fnI_len hp h) (readI hN)
theorem fngTN {fz : Bool} (F : Fun K x qual st f fd) (S : FnScope N ps (defScope st)) (b : BodyN P w K mg base k f N g body qual st) (hN : N.length = nl := by rfl) (hp : ps.length = na := by rfl) : FnGN P w K mg base (k + 1) f fd ps (spF g (fnT na nl fz body)) :=
  fngCN F S (fun cdv A outer s H E hr hg _ => b cdv A outer s H E hr hg) (fun vs H Q E h => fnT_len hp h) (readT hN)
theorem fngTCN {fz : Bool} (F : Fun K x qual st f fd) (S : FnScope N ps (defScope st)) (b : BodyCN P w K mg base k f N g body qual st) (hN : N.length = nl := by rfl) (hp : ps.length = na := by rfl) : FnGN P w K mg base (k + 1) f fd ps (spF g (fnT na nl fz body)) :=
  fngCN F S b (fun vs H Q E h => fnT_len hp h) (readT hN)
theorem takesEN {cdv : Value} {A : Around} {outer : List PySem.Env} {s : Shared} {H : Hp} {E : XK} {sc : Scope} : L2N.Takes (cxOf (L2N.CX P w) P w K mg base N qual sc f cdv A outer s H E) (fun c d _ H => E c d H) := L2N.takes_of rfl rfl rfl rfl
theorem ownsEN {cdv : Value} {A : Around} {outer : List PySem.Env} {s : Shared} {H : Hp} {E : XK} {sc : Scope} : PassesOwn (model P w) (cxOf (L2N.CX P w) P w K mg base N qual sc f cdv A outer s H E).A (cxOf (L2N.CX P w) P w K mg base N qual sc f cdv A outer s H E).env (cxOf (L2N.CX P w) P w K mg base N qual sc f cdv A outer s H E).xe := passes_of rfl
theorem ownsAt {cdv : Value} {A : Around} {outer : List PySem.Env} {s : Shared} {H : Hp} {E : XK} {sc : Scope} (hd : Option Value) : PassesOwnAt (model P w) ((cxOf (L2.CX P w) P w K mg base N qual sc f cdv A outer s H E).A.mark hd) (cxOf (L2.CX P w) P w K mg base N qual sc f cdv A outer s H E).A (cxOf (L2.CX P w) P w K mg base N qual sc f cdv A outer s H E).env (cxOf (L2.CX P w) P w K mg base N qual sc f cdv A outer s H E).xe := L2H.passesAt_of rfl hd
end
section
variable {X : Cx} {g : G} {Z : WX} {pos p : Pos} {H : Hp} {σ : L2.St} {Q : VK} {k : Nat} {f : Addr} {fd : FuncData} {ps : List Str} {F : List W → Sto → Re W} {x : Str} {e : Expr} {es : List Expr} {ta : XA}
theorem run_gN {pins : List (Addr × Obj)} {s : Shared} {us : List Value} {vs : List V} {sp : Sp} {E : L2.St → XK} (Fn : FnGN X.prog X.w X.K X.mg X.base k f fd ps sp) (hr : Room k X.A) (hgd : X.A.guards = some []) (hb : Binds X.K fd ps [])
    (hx : PassesAt (L2N.CX X.prog X.w) X σ (E σ)) (I : Inv X pins σ H s) (r : Vals vs us) (h : sp vs H Q (E σ)) : wpAny (model X.prog X.w) X.A (call (.ref f) us) (EP X pins σ Q) X.xe s := by
  have b := hb s us I.kIn (by rw [List.append_nil, ← r.length]; exact Fn.len _ _ _ _ h)
  rw [List.append_nil] at b
  refine wpAny_call (codeAny_mono (Fn.go X.A X.stack s H ⟨us, []⟩ us vs Q (E σ) hr hgd I.env0 b r h) fun z s' hq => ?_)
  cases z with
  | error e => exact hx pins H s e s' I hq
  | ok fl =>
    cases fl with
    | ret u => exact I.after hq
    | next => exact hq.elim
    | brk => exact hq.elim
    | cont => exact hq.elim
theorem se_callN (Fn : FnGN X.prog X.w X.K X.mg X.base k f fd ps (spF g F)) (hr : Room k X.A) (hgd : X.A.guards = some []) (hb : Binds X.K fd ps []) (tk : L2N.Takes X Z) (hm : X.mg x = some (.ref f)) (hk : PySem.W.keepIn X.K (.ref f) = true) (ha : PA X (e :: es) (rdA g Z ta))
    (hg : Gl X x := by rfl) (hdb : (x == ("__debug__" : Str)) = false := by decide) (he : starEach (e :: es) X.env = (false, eval e X.env) :: starEach es X.env := by rfl) (hpl : (backTo pos (starEach es X.env)).any (·.1) = false := by rfl) :
    PE X (.Call (.Name x p) (e :: es) [] pos) (rdE g Z (xApp F ta)) :=
  PE.imp (t := fun σ H Q => rdA g Z ta σ H fun vs H1 => spF g F vs H1 Q (WE Z σ)) ⟨fun pins s σ H Q I h => by
    refine wpAny_Call_Name_kw (ld_glob I hg hm ?_ hdb)
    refine PySem.W.callWith_K (h₀ := X.base) I.ok.mod.kin hk (thn (ha.run pos pins s σ H _ I h) fun us s1 ⟨vs, H1, I1, r, q⟩ => ⟨I1.kIn, ?_⟩) he hpl
    exact run_gN Fn hr hgd hb (L2N.passAt tk σ) I1 r q⟩ fun σ H Q ⟨r, h, M, fl, rs, rh, q⟩ => ⟨r, h, M, fl, rs, rh, Po.bind q fun ws h1 vs H1 M1 e1 rh1 rw1 p1 => ⟨ws, h1, M1, fl, rw1, rh1, po_wish p1⟩⟩
end
/-! ### an except suite that raises -/
def sTryR (sub : Str → Bool) (body suite : XS) : XS := fun r h => match body r h with
  | .exc e r1 h1 => if sub e.c = true then (match suite r1 h1 with
    | .rt (.d x) h2 => if h2.nox = true then .rt (.d x) h2 else .stuck
    | .nx r2 h2 => if (h2.nox && Env.nox r2) = true then .nx r2 h2 else .stuck
    | .exc e2 r2 h2 => if (h2.nox && Env.nox r2) = true then .exc e2 r2 h2 else .stuck
    | _ => .stuck) else .exc e r1 h1
  | f => f
section
variable {X : Cx} {g : G} {Z : WX} {pos pos' np : Pos}
theorem ss_tryR {sub : Str → Bool} {x : Str} {cv : Value} {body suite : List Stmt} {b₀ : Stmt} {xb xs : XS} (hx : g.xa = none) (hs : X.stack = X.env :: X.outer) (hf : X.env.frame = some X.env.locals) (hc : Names X x cv)
    (hpa : ∀ hd : Option Value, PassesOwnAt (model X.prog X.w) (X.A.mark hd) X.A X.env X.xe) (tk : Takes X Z)
    (hsub : ∀ c C, g.cm c = some C → PySem.W.exmOne X.K (.ref C) cv = some (sub c))
    (hb : ∀ (W : WX) (pn : List (Addr × Obj)) (xe : Value → Shared → Prop), L2N.Takes (X.tr pn xe) W → PassesOwn (model X.prog X.w) X.A X.env xe → PSs (X.tr pn xe) body (rdS g W xb))
    (hsu : ∀ (a : Addr) (oe : Obj) (cls : Value) (d : Option Addr) (pn : List (Addr × Obj)), Takes (L2H.suiteX X a ((a, oe) :: pn)) Z → L2H.HotC (L2H.suiteX X a ((a, oe) :: pn)) → PSs (L2H.suiteX X a ((a, oe) :: pn)) (b₀ :: suite) (rdS (g.held a cls d) Z xs)) :
    PS X (.Try body [.ExceptHandler (some (.Name x np)) none (b₀ :: suite) pos'] [] [] pos) (rdS g Z (sTryR sub xb xs)) := by
  refine PS.imp (L2H.ps_try_onlyX hs hf hc hpa tk (fun W pn xe t1 _ po => hb W pn xe t1 po) (fun a oe cls d pn _ _ t1 hot => hsu a oe cls d pn t1 hot)) fun D σ H ⟨r, h, M, fl, rs, rh, p⟩ => ⟨r, h, M, fl, rs, rh, ?_⟩
  unfold sTryR at p
  cases eb : xb r h with
  | exc e r1 h1 =>
    rw [eb] at p
    simp only at p
    intro c d σ1 H1 M1 x1 rs1 rh1 rex
    obtain ⟨C, rfl, hcm, rest⟩ := rex
    refine ⟨sub e.c, hsub _ _ hcm, fun hb2 a ha => ?_, fun hb2 => ?_⟩
    · rw [if_pos hb2] at p
      refine ⟨r1, h1, M1, fl, rs1.held hx, rh1.held hx, ?_⟩
      cases es : xs r1 h1 with
      | rt w h2 =>
        rw [es] at p
        cases w with
        | d y =>
          simp only at p
          by_cases hn : h2.nox = true
          · rw [if_pos hn] at p
            intro v H2 M2 x2 rh2 rv
            exact p v H2 M2 (x1.trans x2) (rh2.unheld hn) (rv.unheld rfl)
          · rw [if_neg hn] at p
            exact p.elim
        | _ => exact p.elim
      | nx r2 h2 =>
        rw [es] at p
        simp only at p
        by_cases hn : (h2.nox && Env.nox r2) = true
        · rw [if_pos hn] at p
          rw [Bool.and_eq_true] at hn
          intro σ2 H2 M2 x2 rs2 rh2
          exact p σ2 H2 M2 (x1.trans x2) (rs2.unheld hn.2) (rh2.unheld hn.1)
        · rw [if_neg hn] at p
          exact p.elim
      | exc e2 r2 h2 =>
        rw [es] at p
        simp only at p
        by_cases hn : (h2.nox && Env.nox r2) = true
        · rw [if_pos hn] at p
          rw [Bool.and_eq_true] at hn
          intro c2 d2 σ2 H2 M2 x2 rs2 rh2 rex2
          obtain ⟨C2, rfl, hcm2, rest2⟩ := rex2
          exact p _ _ σ2 H2 M2 (x1.trans x2) (rs2.unheld hn.2) (rh2.unheld hn.1) ⟨C2, rfl, hcm2, rest2.imp (fun z => z) fun ⟨dd, fs, z1, z2, z3, z4⟩ => ⟨dd, fs, z1, z2, z3, z4.unheld⟩⟩
        · rw [if_neg hn] at p
          exact p.elim
      | _ => rw [es] at p; exact p.elim
    · rw [if_neg (by rw [hb2]; exact Bool.false_ne_true)] at p
      exact p _ _ σ1 H1 M1 x1 rs1 rh1 ⟨C, rfl, hcm, rest⟩
  | nx _ _ => rw [eb] at p; exact p
  | rt _ _ => rw [eb] at p; exact p
  | bk _ _ => rw [eb] at p; exact p
  | ct _ _ => rw [eb] at p; exact p
  | stuck => rw [eb] at p; exact p
end
/-! ### x is True, x a bool -/
def fIsB (n : Bool) (x y : W) (h : Sto) : Re W := match x, y with
  | .d (.bl a), .d (.bl b) => .ok (.d (.bl (if n then !decide (a = b) else decide (a = b)))) h
  | _, _ => .stuck
section
variable {X : Cx} {g : G} {Z : WX}
theorem isB_inv {R : Hp → Mu → V → W → Prop} {n : Bool} {σ : L2.St} {H : Hp} {M : Mu} {fl : List Nat} {h : Sto} {v u : V} {x y : W} {Q : VK} (rx : RW g H M v x) (ry : RW g H M u y) (p : Po g Z σ fl R H M Q (fIsB n x y h)) :
    ∃ a b : Bool, v = .bl a ∧ u = .bl b ∧ Po g Z σ fl R H M Q (.ok (.d (.bl (if n then !decide (a = b) else decide (a = b)))) h) := by
  unfold fIsB at p
  split at p
  · cases rx with
    | d rx =>
      cases ry with
      | d ry =>
        cases rx
        cases ry
        exact ⟨_, _, rfl, rfl, p⟩
  · exact p.elim
theorem o_isB : Op2 X g Z (compareOp .Is) (fIsB false) := ⟨_, op_isBl, fun rh rx ry p => by
  obtain ⟨i, j, rfl, rfl, p⟩ := isB_inv rx ry p
  exact ⟨i, j, rfl, rfl, po_bl rh p⟩⟩
theorem o_notB : Op2 X g Z (compareOp .IsNot) (fIsB true) := ⟨_, op_notBl, fun rh rx ry p => by
  obtain ⟨i, j, rfl, rfl, p⟩ := isB_inv rx ry p
  exact ⟨i, j, rfl, rfl, po_bl rh p⟩⟩
end
end
end Xs

/-! XsAQ: comprehensions whose element may raise. -/
namespace Xs
noncomputable section
open PySem PySem.Spec PyProof.Rows L2
/-! ### the block of a comprehension, an exception leaves it -/
def compPostX (M : Model) (A : Around) (E : Value → Shared → Prop) (env : PySem.Env) (Q : Value → Shared → Prop) (acc : Value) (C : Addr) (r : Result) (s' : Shared) : Prop :=
  match r with
  | .ok _ => ∃ m, s'.heap.Ns C m ∧ ∀ h', Heap.SameBut C s'.heap h' → Q acc { s' with heap := h' }
  | .error x => ∃ m, s'.heap.Ns C m ∧ ∀ h', Heap.SameBut C s'.heap h' → ∀ cenv : PySem.Env, cenv.locals = C → cenv.frame = env.frame → wpAny M A (passOn "comprehension.variables-let-go" x cenv : Sem Value) (fun _ _ => False) E { s' with heap := h' }
section
variable {M : Model} {A : Around} {E : Value → Shared → Prop} {s : Shared} {env : PySem.Env}
theorem comp_freeX {e : Expr} {scope : Scope} {pos : Pos} {newAcc first : Sem Value} {g : Comprehension} {gs : List Comprehension} {cl : List (Str × Addr)} {Q : Value → Shared → Prop}
    (hcl : clausesOf e = g :: gs) (hs : ∀ x, foldedSetIterable g.iter env x = pure x) (hclos : closureFor scope env = pure cl)
    (hkind : scope.kind = .function) (hnames : ∀ x ∈ scope.names, x.2 = .local → scope.names.lookup x.1 = some .local)
    (h : wpAny M A first (fun x s₁ => wpAny M A (pyIter x) (fun it s₂ => wpAny M A newAcc (fun acc s₃ =>
      wpAny M A (newFunctionEnv scope env.globals cl [] env.qual none .none (some env)) (fun cenv s₄ =>
        cenv.frame = env.frame ∧ codeAny M A (.compStart e 0 it acc { cenv with scope := relabel scope env }) (compPostX M A E env Q acc cenv.locals) s₄) E s₃) E s₂) E s₁) E s) :
    wpAny M A (comprehension e scope env pos newAcc false first none) Q E s := by
  unfold comprehension
  rw [hclos, hcl]
  refine wpAny_bind (wpAny_mono h (fun x s₁ h₁ => wpAny_bind (wpAny_standAt (wpAny_bind (wpAny_of_eq (hs x) (wpAny_bind (wpAny_holding (wpAny_mono h₁ (fun it s₂ h₂ =>
    wpAny_standIf (wpAny_bind (wpAny_mono h₂ (fun acc s₃ h₃ => wpAny_bind (wpAny_pure (wpAny_bind (wpAny_mono h₃ (fun cenv s₄ h₄ => ?_) fun _ _ h' => h')))) fun _ _ h' => h')))
      fun _ _ h' => h'))))))) fun _ _ h' => h')
  dsimp only
  obtain ⟨hfr, h₄⟩ := h₄
  have hv : ∀ x ∈ (scope.names.filter fun x => (x.2 == .local || x.2 == .cell) && x.1 != (".0" : Str)).reverse, x.2 = .local →
      PySem.Env.kindOf { cenv with scope := relabel scope env } x.1 = some .local := fun x hx hl => lookup_relabel_local (hnames x (List.mem_filter.mp (List.mem_reverse.mp hx)).1 hl)
  refine wpAny_holding (wpAny_bind (wpAny_attempt (wpAny_holding (wpAny_run (codeAny_mono h₄ fun r s' hr => ?_)))))
  cases r with
  | ok f =>
    obtain ⟨m, hn, hr⟩ := hr
    exact wpAny_bind (wpAny_holding (wpAny_comp_letGo (cenv := { cenv with scope := relabel scope env }) hkind _ s' m hv hn fun h' m' _ hs' => wpAny_pure (hr h' hs')))
  | error x =>
    obtain ⟨m, hn, hr⟩ := hr
    exact wpAny_bind (wpAny_holding (wpAny_comp_letGo (cenv := { cenv with scope := relabel scope env }) hkind _ s' m hv hn fun h' m' _ hs' => wpAny_mono (hr h' hs' _ rfl hfr) (fun _ _ f => f.elim) fun _ _ y => y))
end
/-- an exception in the air of X, not yet noted -/
def XE2 (X : Cx) (W : WX) (u : Value) (s' : Shared) : Prop :=
  ∃ (a : Addr) (B : Heap) (sI : Shared) (pins : List (Addr × Obj)) (σ : L2.St) (H : Hp) (cls : Value) (d : Option Addr),
    u = .ref a ∧ Inv X pins σ H sI ∧ (∀ b o, sI.heap.get? b = some o → b ∉ frs X.stack → B.get? b = some o) ∧ sI.heap.UpToSlots s'.heap ∧
      HandSPX.FlyingZ B X.stack a (Zc cls d) s'.heap ∧ H a = none ∧ s'.os = sI.os ∧ AllBare s'.gens ∧ W cls d σ H
def Takes2 (X : Cx) (W : WX) : Prop := ∀ u s', XE2 X W u s' → X.xe u s'
theorem takes2_of {X : Cx} {W : WX} (tk : Takes X W) : Takes2 X W := fun u s' ⟨a, B, sI, pins, σ, H, cls, d, e, I, nb, up, fl, na, os, ag, w⟩ => tk u s' ⟨a, B, sI, pins, σ, H, cls, d, e, I, nb, up, .inr (.inl fl), na, os, ag, w⟩
section
variable {X : Cx} {pins : List (Addr × Obj)} {σ : L2.St} {H : Hp} {sI s s' : Shared} {B : Heap} {W : WX} {E : XK}
theorem XE2.of_call (I : Inv X pins σ H s) (hW : ∀ cls d H', E cls d H' → W cls d σ H') {u : Value} (c : L2.CX X.prog X.w X.stack H s E u s') : XE2 X W u s' := by
  obtain ⟨a, B, H', cls, d, rfl, fl, hok, ub, na, os, ag, hE⟩ := c
  obtain ⟨G, g1, g2⟩ := restrict s'.heap fun b => (B.get? b).isSome || decide (b ∈ frs X.stack)
  have st : B.StaysIn s'.heap := fl.1
  have gB : ∀ b o, B.get? b = some o → G.get? b = some o := fun b o e => by
    rw [g1 b (by simp [e])]
    exact st b o e
  have gF : ∀ b, b ∈ frs X.stack → G.get? b = s'.heap.get? b := fun b hb => g1 b (by simp [hb])
  have og : ∀ b o, G.get? b = some o → s'.heap.get? b = some o ∧ ((B.get? b).isSome = true ∨ b ∈ frs X.stack) := fun b o e => by
    cases q : ((B.get? b).isSome || decide (b ∈ frs X.stack)) with
    | false => rw [g2 b q] at e; cases e
    | true =>
      rw [g1 b q] at e
      exact ⟨e, by simpa [Bool.or_eq_true] using q⟩
  refine ⟨a, B, { s with heap := G, gens := s'.gens, drawn := s'.drawn, toks := s'.toks }, pins, σ, H', cls, d, rfl, ?_, fun b o e hb => ?_, Heap.UpToSlots.of_keeps fun b o e => (og b o e).1, fl, na, os, ag, hW _ _ _ hE⟩
  · refine I.call (ch := []) ⟨fun b o e n hb _ => gB b o (ub.keep b o e n hb), fun b o e n hb _ => ?_, fun b o e n _ => ub.free b o e n, fun b o e _ => ?_, ub.tups, ub.frzs, ub.tbls⟩ (hok.kept gB) ag (fun _ z => nomatch z)
    · obtain ⟨sl, q⟩ := ub.slot b o e hb
      exact ⟨sl, by rw [gF b hb]; exact q⟩
    · by_cases hb : b ∈ frs X.stack
      · obtain ⟨sl, q⟩ := ub.slot b o e hb
        exact ⟨_, by rw [gF b hb]; exact q⟩
      · obtain ⟨o', q⟩ := ub.there b o e hb
        exact ⟨o', gB b o' q⟩
  · obtain ⟨e', h⟩ := og b o e
    rcases h with h | h
    · obtain ⟨o', q⟩ := Option.isSome_iff_exists.mp h
      have z := st b o' q
      rw [e'] at z; cases z
      exact q
    · exact absurd h hb
theorem passAt2 (tk : Takes2 X W) (σ : L2.St) : PassesAt (L2.CX X.prog X.w) X σ (WE W σ) := fun _ _ _ e s' I c => tk e s' (XE2.of_call I (fun _ _ _ h => h) c)
theorem funFrames_but {base base' h h' : Heap} {C : Addr} (hb : base.get? C ≠ none) (hb' : ∀ b, base.get? b = none → base'.get? b = none) (hh : ∀ b, b ≠ C → h'.get? b = h.get? b) : ∀ {l : List PySem.Env}, h.FunFrames base l → h'.FunFrames base' l
  | [], _ => trivial
  | env :: l, x => by
    obtain ⟨hk, ⟨L, o, hf, hn, ho, hd⟩, hr⟩ := x
    exact ⟨hk, ⟨L, o, hf, hb' L hn, by rw [hh L (fun z => hb (by rw [← z]; exact hn))]; exact ho, hd⟩, funFrames_but hb hb' hh hr⟩
/-- the exception leaves the block: noted, the block's names let go, it flies on -/
theorem blk_out {H3 : Hp} {s3 : Shared} {scope : Scope} {ce : PySem.Env} {fp : List Addr} {E2 : Value → Shared → Prop} {Q : Value → Shared → Prop} {acc u : Value} (hs : X.stack = X.env :: X.outer) (hf : X.env.frame = some X.env.locals) (tk : Takes X W)
    (I3 : Inv X pins σ H3 s3) (cL : ce.locals = s3.heap.objs.size) (cF : ce.frame = X.env.frame) (f3 : ∀ b ∈ fp, FpOk X pins H3 b) (x : XE2 ((X.blk s3 H3 scope ce fp).wish E2) (fun cls d _ H' => W cls d σ H') u s') :
    notedBy (model X.prog X.w) X.A ce (fun e s'' => compPostX (model X.prog X.w) X.A X.xe X.env Q acc s3.heap.objs.size (.error e) s'') u s' := by
  obtain ⟨a, B, sI, pins', σ', H', cls, d, rfl, I', nb, up, fl, na, os, ag, w⟩ := x
  have hfr : X.A.frames = some (X.env :: X.outer) := by rw [I3.ok.frames, hs]
  have I0 : Inv (X.blk s3 H3 scope ce fp) pins' σ' H' sI := I'.unwish
  have I7 : Inv X pins σ H' sI := I3.call' (ch := fp) I0.os I0.base I0.hok I0.bare fun b hb => ⟨(f3 b hb).2.2.2.1, (f3 b hb).2.1, (f3 b hb).2.2.2.2.1, (f3 b hb).2.2.2.2.2⟩
  obtain ⟨C, hC⟩ : ∃ C, C = s3.heap.objs.size := ⟨_, rfl⟩
  have nC : H' C = none := by
    have z : H' ce.locals = none := I0.free
    rw [cL] at z
    rw [hC]
    exact z
  obtain ⟨m, hn, _⟩ := I0.loc
  have hn : sI.heap.Ns ce.locals m := hn
  rw [cL, ← hC] at hn
  obtain ⟨f0, f1, f2, f3', f4, f5⟩ := I3.fpOk (b := C) (by rw [hC]; exact Nat.le_refl _) nC
  have hCfr : C ∉ frs X.stack := fun hm => (List.mem_cons.mp (I7.stkSub C hm)).elim f1 f2
  obtain ⟨oC, eC⟩ : ∃ o, sI.heap.get? C = some o := let ⟨o, _, _, e, _⟩ := hn; ⟨o, e⟩
  have bC := nb C oC eC hCfr
  have bCn : B.get? C ≠ none := by rw [bC]; simp
  obtain ⟨G, g1, g2⟩ := restrict sI.heap fun b => decide (b ≠ C)
  have gk : ∀ b, b ≠ C → G.get? b = sI.heap.get? b := fun b hb => g1 b (decide_eq_true hb)
  have gC : G.get? C = none := g2 C (by simp)
  have J : Inv X pins σ H' { sI with heap := G, toks := sI.toks } := I7.turned (t' := sI.toks) (fun b o hb e => (gk b hb).trans e) f0 f1 f3' f4 f5
  obtain ⟨B', b1, b2⟩ := restrict B fun b => decide (b ≠ C)
  have bk : ∀ b, b ≠ C → B'.get? b = B.get? b := fun b hb => b1 b (decide_eq_true hb)
  have bC' : B'.get? C = none := b2 C (by simp)
  have bn : ∀ b, B.get? b = none → B'.get? b = none := fun b hb => by
    by_cases z : b = C
    · rw [z]; exact bC'
    · rw [bk b z]; exact hb
  have fin : ∀ h1, HandSPX.HeldZ B (X.env :: X.outer) a (Zc cls d) X.env.locals h1 → s'.heap.UpToSlots h1 → compPostX (model X.prog X.w) X.A X.xe X.env Q acc s3.heap.objs.size (.error (.ref a)) { s' with heap := h1 } := by
    intro h1 hh up1
    obtain ⟨x1, x2, x3, oe, vs, T, oT, ts, he, hz, hd, hv1, hnT, hTe, hT, hdT, hfl⟩ := hh
    rw [← hC]
    refine ⟨m, hn.at' (fun o e => x1 C o (nb C o e hCfr)), fun h' sb cenv hl hcf => ?_⟩
    have aC : a ≠ C := fun z => bCn (by rw [← z]; exact x2)
    have TC : T ≠ C := fun z => bCn (by rw [← z]; exact hnT)
    have he' : h'.get? a = some oe := (sb.2 a aC).trans he
    have hT' : h'.get? T = some oT := (sb.2 T TC).trans hT
    have ff' : h'.FunFrames B' (X.env :: X.outer) := funFrames_but bCn bn sb.2 x3
    have st' : B'.StaysIn h' := fun b o e => by
      by_cases z : b = C
      · rw [z, bC'] at e; cases e
      · rw [bk b z] at e
        exact (sb.2 b z).trans (x1 b o e)
    unfold PySem.passOn
    refine wpAny_bind (wpAny_field he' hd hv1 ?_)
    rw [if_neg (show ¬ ((Value.ref T == Value.none) = true) from by simp)]
    have go : wpAny (model X.prog X.w) X.A (setFlight (.ref a) cenv.frame) (fun _ s4 => wpAny (model X.prog X.w) X.A (throw (.ref a) : Sem Value) (fun _ _ => False) X.xe s4) X.xe { s' with heap := h' } := by
      rw [hcf, hf]
      refine HandSPX.setFlight_anyZ st' ff' ⟨oe, vs, T, oT, ts, he', hz, hd, hv1, bn T hnT, hTe, hT', hdT, hfl⟩ fun h2 k1 k2 k3 k4 => wpAny_throw (tk _ _ ?_)
      refine ⟨a, B', { sI with heap := G, toks := sI.toks }, pins, σ, H', cls, d, rfl, J, fun b o e hb => ?_, fun b o e hnf => ?_, .inr (.inr (by rw [hs]; exact ⟨k1, bn a x2, k2, k3⟩)), na, os, ag, w⟩
      · have z : b ≠ C := fun z => by rw [z] at e; rw [show (({ sI with heap := G, toks := sI.toks } : Shared).heap.get? C) = none from gC] at e; cases e
        rw [bk b z]
        exact nb b o ((gk b z).symm.trans e) hb
      · have z : b ≠ C := fun z => by rw [z] at e; rw [show (({ sI with heap := G, toks := sI.toks } : Shared).heap.get? C) = none from gC] at e; cases e
        obtain ⟨sl, e1⟩ := up b o ((gk b z).symm.trans e) hnf
        obtain ⟨sl2, e2⟩ := up1 b _ e1 hnf
        obtain ⟨sl3, e3⟩ := k4 b _ ((sb.2 b z).trans e2) hnf
        exact ⟨sl3, e3⟩
    first
      | exact wpAny_bind (wpAny_pure (wpAny_bind go))
      | exact wpAny_bind go
  have hnf : noteFrame (.ref a) ce = noteFrame (.ref a) X.env := by
    unfold noteFrame PySem.frameOf
    rw [cF]
  unfold notedBy
  rw [hnf]
  refine HandSPX.looks_onZ Zc.steady hfr hf (by rw [← hs]; exact fl) fin
end
section
variable {X : Cx}
/-- [elt for ..] whose element may raise -/
def tLcX (W : WX) (wi : TI) (g : TG) (tt : TT) (te : WX → TE) (vs : List Nat) : TE := fun σ H Q => tLc wi g tt (te fun cls d _ H' => W cls d σ H') vs σ H Q
theorem pe_lcX {elt tg iter : Expr} {ifs : List Expr} {scope : Scope} {own : List (Str × Nat)} {pos : Pos} {wi : TI} {g : TG} {tt : TT} {te : WX → TE} {W : WX} (tk : Takes X W) (hs1 : X.stack = X.env :: X.outer) (hf : X.env.frame = some X.env.locals)
    (hc : X.calm = true) (hN : X.N.Nodup) (hi : PI X tg iter wi) (ok : BlkOk X.N X.env.scope scope own)
    (hg : ∀ (s : Shared) (H : Hp) (C : Addr) (cl : List (Str × Addr)) (fp : List Addr), PG (X.blk s H scope (compEnvC scope cl C X.env) fp) tg g) (ht : ∀ (s : Shared) (H : Hp) (C : Addr) (cl : List (Str × Addr)) (fp : List Addr), PTs (X.blk s H scope (compEnvC scope cl C X.env) fp) ifs tt)
    (he : ∀ (s : Shared) (H : Hp) (C : Addr) (cl : List (Str × Addr)) (fp : List Addr) (W2 : WX) (E2 : Value → Shared → Prop), Takes2 ((X.blk s H scope (compEnvC scope cl C X.env) fp).wish E2) W2 → PE ((X.blk s H scope (compEnvC scope cl C X.env) fp).wish E2) elt (te W2))
    (hs : ∀ x, foldedSetIterable iter X.env x = pure x := by intro _; rfl) :
    PE X (.ListComp elt [⟨tg, iter, ifs, 0⟩] scope pos) (tLcX W wi g tt te (own.map (·.2))) := by
  refine ⟨fun pins s σ H Q I h => ?_⟩
  rw [eval_ListComp]
  have hfree : ∀ y ∈ scope.names, y.2 = .free → ∃ c, X.env.cells.lookup y.1 = some c := fun y hy e => by
    rcases ok.free y hy e with k | k
    · exact I.ok.has _ (.inl k)
    · exact I.ok.has _ (.inr k)
  refine comp_freeX rfl hs (closure_ok hfree) ok.kind (fun y hy e => by rw [ok.uniq y hy, e])
    (thn (hi.run pins s σ H _ I h) fun xv s1 hx => thn hx fun itv s2 h2 => ?_)
  obtain ⟨it, fp, tn, J, H2, e, I2, T, st2, f2, q⟩ := h2
  subst e
  refine wpAny_newObj_type (newEnv_comp ⟨rfl, ?_⟩) (by show 0 ≤ sizeLine; decide)
  generalize hD : s2.heap.objs.size = D
  have hDn : H2 D = none := I2.hok.fresh (Nat.le_of_eq hD)
  obtain ⟨Wl, ⟨m0, w0⟩, turn⟩ := q D hDn
  generalize hs3 : ({ s2 with heap := s2.heap.push { cls := .type "list", data := .seq ([] : List Value).toArray } } : Shared) = s3
  have I3 : Inv X pins σ (upd H2 D (.lst [])) s3 := by
    rw [← hs3]
    refine I2.laid (t' := s2.toks) (fun b o e => Heap.get?_push_of_some _ e) (Nat.le_of_eq hD) ⟨Nat.zero_le _, [], 0, .nil, ?_⟩
    rw [← hD]
    exact Heap.get?_push_size _ rfl
  have h3 : s3.heap = s2.heap.push { cls := .type "list", data := .seq ([] : List Value).toArray } := by rw [← hs3]
  have sz : ∀ b ∈ fp, b < s2.heap.objs.size := fun b hb => by
    obtain ⟨o, e, _⟩ := T.obj _ _ st2 b hb
    exact Heap.lt_size e
  have f3 : ∀ b ∈ fp, FpOk X pins (upd H2 D (.lst [])) b ∧ b < s3.heap.objs.size := fun b hb => by
    have hlt := sz b hb
    refine ⟨⟨?_, (f2 b hb).2⟩, by rw [h3, Heap.size_push]; exact Nat.lt_succ_of_lt hlt⟩
    rw [upd_ne (by rw [← hD]; exact Nat.ne_of_lt hlt)]
    exact (f2 b hb).1
  have st3 : tn 0 s3.heap := T.keep _ _ _ st2 fun b _ o e => by rw [h3]; exact Heap.get?_push_of_some _ e
  have I4 := block_start I3 ok hN f3
  have pg := hg s3 (upd H2 D (.lst [])) s3.heap.objs.size (cellsFrom (s3.heap.objs.size + 1) scope.names (cloFrom X.env.cells scope.names [])) fp
  have pt := ht s3 (upd H2 D (.lst [])) s3.heap.objs.size (cellsFrom (s3.heap.objs.size + 1) scope.names (cloFrom X.env.cells scope.names [])) fp
  have pe := he s3 (upd H2 D (.lst [])) s3.heap.objs.size (cellsFrom (s3.heap.objs.size + 1) scope.names (cloFrom X.env.cells scope.names [])) fp
  show codeAny _ _ (.compStart (.ListComp elt [⟨tg, iter, ifs, 0⟩] scope pos) 0 (.ref it) (.ref D) (compEnvC scope (cellsFrom (s3.heap.objs.size + 1) scope.names (cloFrom X.env.cells scope.names [])) s3.heap.objs.size X.env)) (compPostX (model X.prog X.w) X.A X.xe X.env (EP X pins σ Q) (.ref D) s3.heap.objs.size) { s3 with heap := pushCells (s3.heap.push { cls := .type "dict", data := .dict #[] }) scope.names }
  have nfp : ∀ b ∈ fp, (upd H2 D (.lst [])) b = none := fun b hb => (f3 b hb).1.1
  generalize hce : compEnvC scope (cellsFrom (s3.heap.objs.size + 1) scope.names (cloFrom X.env.cells scope.names [])) s3.heap.objs.size X.env = ce at I4 pg pt pe ⊢
  have cL : ce.locals = s3.heap.objs.size := by subst hce; rfl
  have cF : ce.frame = X.env.frame := by subst hce; rfl
  generalize hH3 : upd H2 D (.lst []) = H3 at I3 I4 pg pt pe w0 nfp f3
  generalize hs4 : ({ s3 with heap := pushCells (s3.heap.push { cls := .type "dict", data := .dict #[] }) scope.names } : Shared) = s4 at I4 ⊢
  have st4 : tn 0 s4.heap := T.keep _ _ _ st3 fun b _ o e => by rw [← hs4]; exact pushCells_keeps _ _ _ _ (Heap.get?_push_of_some _ e)
  have stat : ∀ {σ' : L2.St} {H' : Hp} {s' : Shared}, Inv (X.blk s3 H3 scope ce fp) [] σ' H' s' → (∀ b ∈ fp, H' b = none) → ∀ b ∈ fp, FpOk (X.blk s3 H3 scope ce fp) [] H' b := fun {σ' H' s'} I' hn b hb =>
    ⟨hn b hb, (I'.ok.exf b hb).1, I'.ok.exfs b hb, .inl hb, fun x c e => (I'.ok.exf b hb).2 x c e, fun p hp => absurd (show p ∈ ([] : List (Addr × Obj)) ++ [] from hp) (by simp)⟩
  have pe2 := pe (fun cls d _ H' => W cls d σ H') (notedBy (model X.prog X.w) X.A ce fun e s'' => compPostX (model X.prog X.w) X.A X.xe X.env (EP X pins σ Q) (.ref D) s3.heap.objs.size (.error e) s'')
    (fun u s' x => blk_out hs1 hf tk I3 cL cF (fun b hb => (f3 b hb).1) x)
  have loop : codeAny (model X.prog X.w) X.A (.compLoop (.ListComp elt [⟨tg, iter, ifs, 0⟩] scope pos) 0 (.ref it) (.ref D) ce) (compPostX (model X.prog X.w) X.A X.xe X.env (EP X pins σ Q) (.ref D) s3.heap.objs.size) s4 := by
    refine compLoop_any (fun n s' => ∃ i H', Inv (X.blk s3 H3 scope ce fp) [] (L2.wipe σ (own.map (·.2))) H' s' ∧ tn i s'.heap ∧ (∀ b ∈ fp, H' b = none) ∧ Wl i n H') ?_ m0 ⟨0, H3, I4, st4, nfp, w0⟩
    rintro n s5 ⟨i, H5, I5, st5, n5, w5⟩
    rcases turn i n H5 w5 with ⟨stop, qq⟩ | ⟨go, Nx, hNx, step⟩
    · have td := T.done (X.blk s3 H3 scope ce fp) rfl rfl rfl hc i [] s5 _ H5 (fun _ _ => False) I5 (stat I5 n5) st5 stop
      refine thnF td fun r s6 ⟨hr, I6⟩ => ?_
      subst hr
      have I7 : Inv X pins σ H5 s6 := I3.call' (ch := fp) I6.os I6.base I6.hok I6.bare fun b hb => ⟨(f3 b hb).1.2.2.2.1, (f3 b hb).1.2.1, (f3 b hb).1.2.2.2.2.1, (f3 b hb).1.2.2.2.2.2⟩
      have nC : H5 s3.heap.objs.size = none := by
        have z : H5 ce.locals = none := I6.free
        rw [cL] at z
        exact z
      obtain ⟨m, hn, _⟩ := I6.loc
      have hn : s6.heap.Ns ce.locals m := hn
      rw [cL] at hn
      obtain ⟨k0, k1, k2, k3, k4, k5⟩ := I3.fpOk (Nat.le_refl _) nC
      exact ⟨m, hn, fun h'' sb => ⟨.ref D, H5, I7.turned (t' := s6.toks) (fun b o hb e => (sb.2 b hb).trans e) k0 k1 k3 k4 k5, rfl, qq⟩⟩
    · have ti := T.item (X.blk s3 H3 scope ce fp) rfl rfl rfl hc i [] s5 _ H5 (fun _ _ => False) I5 (stat I5 n5) st5 go
      refine thnF ti fun r s6 ⟨u, hr, h6⟩ => ?_
      subst hr
      refine thnF h6 fun _ s7 ⟨x, H7, I7, r7, y7, st7, n7⟩ => ?_
      have I7' := I7.pinned (stat I7 n7) (T.obj _ _ st7)
      refine thnF (pg.run _ s7 _ H7 x u _ I7' r7 (step x H7 y7)) fun _ s8 ⟨σ8, H8, I8, hw8, q8⟩ => ?_
      refine thnF (pt.run _ s8 σ8 H8 _ I8 q8) fun b s9 ⟨H9, I9, q9⟩ => ?_
      have fin : ∀ {s' : Shared} {H' : Hp}, Inv (X.blk s3 H3 scope ce fp) ([] ++ pinsAt fp s7.heap) σ8 H' s' → Nx H' → ∃ m, m < n ∧ ∃ i H', Inv (X.blk s3 H3 scope ce fp) [] (L2.wipe σ (own.map (·.2))) H' s' ∧ tn i s'.heap ∧ (∀ b ∈ fp, H' b = none) ∧ Wl i m H' := fun {s' H'} I' nx => by
        obtain ⟨m', hm, w'⟩ := hNx H' nx
        have pin' : ∀ b ∈ fp, ∀ o, s7.heap.get? b = some o → s'.heap.get? b = some o ∧ H' b = none := fun b hb o e =>
          let z := I'.pin (b, o) (List.mem_append_right _ (List.mem_append_right _ (mem_pinsAt hb e)))
          ⟨z.1, z.2.1⟩
        have hl : (L2.wipe σ (own.map (·.2))).length = σ8.length := by rw [← hw8, wipe_length]
        refine ⟨m', hm, i + 1, H', (I'.unpinned (pins := [])).weak hl (fun j v e => ?_), T.keep _ _ _ st7 fun b hb o e => (pin' b hb o e).1, fun b hb => ?_, w'⟩
        · rw [← hw8] at e
          exact (wipe_some e).1
        · obtain ⟨o, e, _⟩ := T.obj _ _ st7 b hb
          exact (pin' b hb o e).2
      cases b with
      | false =>
        simp only [Bool.false_eq_true, if_false] at q9 ⊢
        exact fin I9 q9
      | true =>
        simp only [if_true] at q9 ⊢
        refine thn (pe2.run _ s9 σ8 H9 _ (I9.wish _) q9) fun z s10 ⟨yv, H10, I10, r10, acc, hD10, hz10, nx⟩ => ?_
        exact app_ok (X := X.blk s3 H3 scope ce fp) I10.unwish hD10 hz10 r10 fun s11 I11 => fin I11 nx
  exact codeAny_compStart_list loop (T.self X.A 0 _ _ _ st4 loop)
end
/-! ### its computation -/
def lcLoopX (nxt : Nxt) (tg : XG) (c : XT) (e : XE) : Nat → Nat → List W → Env → Sto → Re (List W)
  | 0, _, _, _, _ => .stuck
  | n + 1, i, acc, r, h => match nxt i h with
    | none => .stuck
    | some none => .ok acc h
    | some (some w) => match tg w r with
      | none => .stuck
      | some r1 => (c r1 h).noex.bind fun t h1 => if t = true then
          (e r1 h1).bind fun x h2 => if acc.length < lim then lcLoopX nxt tg c e n (i + 1) (acc ++ [x]) r h2 else .stuck
        else lcLoopX nxt tg c e n (i + 1) acc r h1
def xLcsX (src : XI) (tg : XG) (c : XT) (e : XE) (own : List Nat) : XA := fun r h => (src r h).bind fun p h1 => lcLoopX p.2 tg c e p.1 0 [] (wipeR r own) h1
def xLcX (src : XI) (tg : XG) (c : XT) (e : XE) (own : List Nat) : XE := fun r h => (xLcsX src tg c e own r h).bind fun ws h1 => match pureL ws with
  | some ds => .ok (.d (.lst ds)) h1
  | none => .stuck
section
variable {X : Cx} {g : G} {Z : WX} {pos : Pos} {H H' : Hp} {M M' : Mu} {fl : List Nat} {h : Sto} {v u : V} {w y : W} {σ : L2.St} {Q : VK} {r : Env}
theorem lc_walkX {nxt : Nxt} {J : It} {xg : XG} {xc : XT} {xe : XE} {own : List Nat} {H1 : Hp} {M1 : Mu} {h1 : Sto} {m0 : Nat} {E : Re (List W) → Prop} {Z0 : WX} {W2 : Value → Option Addr → Hp → Prop} (rs : RS g H1 M1 σ r) (rh1 : RH g H1 M1 fl h1) (ok : ItOk g J nxt H1 M1)
    (p : E (lcLoopX nxt xg xc xe m0 0 [] (wipeR r own) h1)) (st : ¬ E .stuck)
    (fin : ∀ ws h2 D H2 M2 vs, H1 D = none → Ext H1 M1 H2 M2 → RH g H2 M2 fl h2 → Wk H2 M2 D vs → RWs g H2 M2 vs ws → E (.ok ws h2) → Q (.ref D) H2)
    (hx : ∀ e h2 H2 M2, Ext H1 M1 H2 M2 → E (.exc e h2) → ∀ c d, RH g H2 M2 fl h2 → REx g H2 M2 c d e → W2 c d H2) (D : Addr) (hD : H1 D = none) :
    ∃ W : Nat → Nat → Hp → Prop, (∃ m, W 0 m (upd H1 D (.lst []))) ∧ ∀ i m H, W i m H →
      (J.stop i H ∧ Q (.ref D) H) ∨ (J.go i H ∧ ∃ Nx : Hp → Prop, (∀ H', Nx H' → ∃ m', m' < m ∧ W (i + 1) m' H') ∧ ∀ x H', J.yld i H x H' → rdG g own xg x (L2.wipe σ own) H' fun σ2 H2 => L2.wipe σ2 own = L2.wipe σ own ∧ rdT g Z0 xc σ2 H2 fun b H3 =>
        if b = true then rdE g (fun c d _ H' => W2 c d H') xe σ2 H3 fun y H4 => ∃ acc, H4 D = some (.lst acc) ∧ acc.length < sizeLine ∧ Nx (upd H4 D (.lst (acc ++ [y]))) else Nx H3) := by
  obtain ⟨x0, rh0, k0⟩ := start_wk rh1 hD
  refine ⟨fun i m H' => ∃ h' M' acc vs, Ext H1 M1 H' M' ∧ RH g H' M' fl h' ∧ Wk H' M' D vs ∧ RWs g H' M' vs acc ∧ E (lcLoopX nxt xg xc xe m i acc (wipeR r own) h'), ⟨m0, h1, _, [], [], x0, rh0, k0, .nil, p⟩, ?_⟩
  rintro i m H' ⟨h', M', acc, vs, x', rh', k', rv', p'⟩
  obtain ⟨s1, s2⟩ := ok fl i H' M' h' x' rh'
  have rs' : RS g H' M' (L2.wipe σ own) (wipeR r own) := (rs.mono x' rh1.sub).wipe own
  cases m with
  | zero => exact (st p').elim
  | succ m =>
    simp only [lcLoopX] at p'
    cases e : nxt i h' with
    | none => rw [e] at p'; exact (st p').elim
    | some o =>
      rw [e] at p'
      cases o with
      | none => exact .inl ⟨s1 e, fin acc h' D H' M' vs hD x' rh' k' rv' p'⟩
      | some w =>
        obtain ⟨go, s3⟩ := s2 w e
        simp only at p'
        cases e2 : xg w (wipeR r own) with
        | none => rw [e2] at p'; exact (st p').elim
        | some r1 =>
          rw [e2] at p'
          simp only at p'
          refine .inr ⟨go, fun H2 => ∃ h2 M2 acc2 vs2, Ext H1 M1 H2 M2 ∧ RH g H2 M2 fl h2 ∧ Wk H2 M2 D vs2 ∧ RWs g H2 M2 vs2 acc2 ∧ E (lcLoopX nxt xg xc xe m (i + 1) acc2 (wipeR r own) h2), fun H2 z => ⟨m, Nat.lt_succ_self m, z⟩, fun y H2 yd => ?_⟩
          obtain ⟨M2, x2, rh2, rw2⟩ := s3 y H2 yd
          refine ⟨wipeR r own, h', M2, fl, w, rs'.mono x2 rh'.sub, rh2, rw2, r1, e2, fun σ3 rs3 hw => ⟨hw.trans (wipe_idem own), ?_⟩⟩
          refine ⟨r1, h', M2, fl, rs3, rh2, ?_⟩
          cases e3 : xc r1 h' with
          | exc _ _ => rw [e3] at p'; exact (st p').elim
          | stuck => rw [e3] at p'; exact (st p').elim
          | ok t h3 =>
            rw [e3] at p'
            intro b H3 M3 x3 rh3 rb
            have rb : b = t := rb
            subst rb
            cases b with
            | false => exact ⟨h3, M3, acc, vs, (x'.trans x2).trans x3, rh3, (k'.ext x2).ext x3, RWs.mono x3 rh2.sub (RWs.mono x2 rh'.sub rv'), p'⟩
            | true =>
              have p' : E ((xe r1 h3).bind fun x h2 => if acc.length < lim then lcLoopX nxt xg xc xe m (i + 1) (acc ++ [x]) (wipeR r own) h2 else .stuck) := p'
              simp only [if_true]
              refine ⟨r1, h3, M3, fl, rs3.mono x3 rh2.sub, rh3, ?_⟩
              cases e4 : xe r1 h3 with
              | exc q h4 =>
                rw [e4] at p'
                intro c d H4 M4 x4 rh4 rex
                exact hx q h4 H4 M4 (((x'.trans x2).trans x3).trans x4) p' c d rh4 rex
              | stuck => rw [e4] at p'; exact (st p').elim
              | ok z h4 =>
                rw [e4] at p'
                intro zv H4 M4 x4 rh4 rz
                have p' : E (if acc.length < lim then lcLoopX nxt xg xc xe m (i + 1) (acc ++ [z]) (wipeR r own) h4 else .stuck) := p'
                have k4 := ((k'.ext x2).ext x3).ext x4
                have rv4 := RWs.mono x4 rh3.sub (RWs.mono x3 rh2.sub (RWs.mono x2 rh'.sub rv'))
                by_cases hl : acc.length < lim
                · rw [if_pos hl] at p'
                  have ew : Exw H4 M4 (upd H4 D (.lst (vs ++ [zv]))) M4 := k4.exw
                  refine ⟨vs, k4.at_, by rw [RWs.length rv4, ← lim_line]; exact hl, h4, M4, acc ++ [z], vs ++ [zv], (((x'.trans x2).trans x3).trans x4).wk hD, rh4.wk k4, ⟨upd_same, k4.b, k4.m⟩, RWs.mw ew (RWs.app1 rv4 rz), p'⟩
                · rw [if_neg hl] at p'
                  exact (st p').elim
theorem se_lcX {elt tg iter : Expr} {ifs : List Expr} {scope : Scope} {own : List (Str × Nat)} {src : XI} {xg : XG} {xc : XT} {xe : XE} {Z0 : WX} (tk : Takes X Z) (hs1 : X.stack = X.env :: X.outer) (hf : X.env.frame = some X.env.locals) (hc : X.calm = true) (hN : X.N.Nodup) (hi : PI X tg iter (rdI g Z src)) (ok : BlkOk X.N X.env.scope scope own)
    (hg : ∀ (s : Shared) (H : Hp) (C : Addr) (cl : List (Str × Addr)) (fp : List Addr), PG (X.blk s H scope (compEnvC scope cl C X.env) fp) tg (rdG g (own.map (·.2)) xg)) (ht : ∀ (s : Shared) (H : Hp) (C : Addr) (cl : List (Str × Addr)) (fp : List Addr), PTs (X.blk s H scope (compEnvC scope cl C X.env) fp) ifs (rdT g Z0 xc))
    (he : ∀ (s : Shared) (H : Hp) (C : Addr) (cl : List (Str × Addr)) (fp : List Addr) (W2 : WX) (E2 : Value → Shared → Prop), Takes2 ((X.blk s H scope (compEnvC scope cl C X.env) fp).wish E2) W2 → PE ((X.blk s H scope (compEnvC scope cl C X.env) fp).wish E2) elt (rdE g W2 xe)) (hs : ∀ x, foldedSetIterable iter X.env x = pure x := by intro _; rfl) :
    PE X (.ListComp elt [⟨tg, iter, ifs, 0⟩] scope pos) (rdE g Z (xLcX src xg xc xe (own.map (·.2)))) :=
  PE.imp (pe_lcX (te := fun W2 => rdE g W2 xe) tk hs1 hf hc hN hi ok hg ht he hs) fun σ H Q ⟨r, h, M, fl, rs, rh, p⟩ => ⟨r, h, M, fl, rs, rh, Po.bind (Po.assoc p) fun a h1 J H1 M1 e1 rh1 ok1 p1 D hD =>
    lc_walkX (E := fun x => Po g Z σ fl (RW g) H1 M1 Q (x.bind fun ws h1 => match pureL ws with | some ds => .ok (.d (.lst ds)) h1 | none => .stuck)) (W2 := fun c d H' => Z c d σ H') (rs.mono e1 rh.sub) rh1 ok1 p1 (fun z => z) (fun ws h2 D H2 M2 vs hD x2 rh2 k2 rv p2 => by
      have p2 : Po g Z σ fl (RW g) H1 M1 Q (match pureL ws with | some ds => .ok (.d (.lst ds)) h2 | none => .stuck) := p2
      cases e : pureL ws with
      | none => rw [e] at p2; exact p2.elim
      | some ds =>
        rw [e] at p2
        obtain ⟨x3, rh3, ew⟩ := k2.fz x2 hD rh2
        rw [pureL_some e] at rv
        exact p2 _ _ _ x3 rh3 (.d (.lst ⟨k2.at_, fun z => z.2 rfl⟩ (RDs.mw ew.d (RWs.toD rv))))) (fun e h2 H2 M2 x2 p2 c d rh2 rex => p2 c d H2 M2 x2 rh2 rex) D hD⟩
end
section
variable {X : Cx} {g : G} {Z : WX} {pos p : Pos} {H : Hp} {σ : L2.St} {Q : VK} {k : Nat} {f : Addr} {fd : FuncData} {ps : List Str} {F : List W → Sto → Re W} {x : Str} {e : Expr} {es : List Expr} {ta : XA}
/-- f(..) in a comprehension, f may raise -/
theorem se_callX (Fn : FnG X.prog X.w X.K X.mg X.base k f fd ps (spF g F)) (hr : Room k X.A) (hgd : X.A.guards = some []) (hb : Binds X.K fd ps []) (tk : Takes2 X Z) (hm : X.mg x = some (.ref f)) (hk : PySem.W.keepIn X.K (.ref f) = true) (ha : PA X (e :: es) (rdA g Z ta))
    (hg : Gl X x := by rfl) (hdb : (x == ("__debug__" : Str)) = false := by decide) (he : starEach (e :: es) X.env = (false, eval e X.env) :: starEach es X.env := by rfl) (hpl : (backTo pos (starEach es X.env)).any (·.1) = false := by rfl) :
    PE X (.Call (.Name x p) (e :: es) [] pos) (rdE g Z (xApp F ta)) :=
  PE.imp (t := fun σ H Q => rdA g Z ta σ H fun vs H1 => spF g F vs H1 Q (WE Z σ)) ⟨fun pins s σ H Q I h => by
    refine wpAny_Call_Name_kw (ld_glob I hg hm ?_ hdb)
    refine PySem.W.callWith_K (h₀ := X.base) I.ok.mod.kin hk (thn (ha.run pos pins s σ H _ I h) fun us s1 ⟨vs, H1, I1, r, q⟩ => ⟨I1.kIn, ?_⟩) he hpl
    exact run_g Fn hr hgd hb (passAt2 tk σ) I1 r q⟩ fun σ H Q ⟨r, h, M, fl, rs, rh, q⟩ => ⟨r, h, M, fl, rs, rh, Po.bind q fun ws h1 vs H1 M1 e1 rh1 rw1 p1 => ⟨ws, h1, M1, fl, rw1, rh1, po_wish p1⟩⟩
end
end
end Xs

/-! XsAR: o.f += e. -/
namespace Xs
noncomputable section
open PySem PySem.Spec PyProof.Rows L2
section
variable {X : Cx} {g : G} {Z : WX} {C : Addr} {o value : Expr} {pos tpos : Pos}
theorem ss_augF {cn n : Str} {xo xv : XE} {F : W → W → Sto → Re W} {op : Operator} (hc : g.cm cn = some C) (cl : Cls X.K C) (na : NoAttr X.K C n) (op2 : Op2 X g Z (inplaceOp op) F) (ho : PE X o (rdE g Z xo)) (hv : PE X value (rdE g Z xv)) :
    PS X (.AugAssign (.Attribute o n tpos) op value pos) (rdS g Z (sAugF cn n F xo xv)) := by
  obtain ⟨rd, hop, k⟩ := op2
  refine PS.imp (ps_fldaug ho hv hop) fun D σ H ⟨r, h, M, fl, rs, rh, q⟩ => ⟨r, h, M, fl, rs, rh, Po.then rs rh.sub q fun w h1 v H1 M1 e1 rs1 rh1 rw1 p1 => ?_⟩
  simp only [fFld] at p1
  cases e : insOf cn h1 w with
  | none => rw [e] at p1; exact p1.elim
  | some fs =>
    rw [e] at p1
    obtain ⟨n1, a, dx, vs, rfl, rfl, e2, e3, hv1, rv⟩ := insOf_h rh1 rw1 hc e
    rcases RWk.lookup rv n with ⟨l1, l2⟩ | ⟨v', w', l1, l2, rw'⟩
    · simp only [l1] at p1; exact p1.elim
    · simp only [l1] at p1
      refine ⟨a, C, dx, vs, v', rfl, hv1, cl, na, l2, r, h1, M1, fl, rs1, rh1, Po.then rs1 rh1.sub p1 fun y h2 yv H2 M2 x2 rs2 rh2 ry p2 => k rh2 (rw'.mono x2 rh1.sub) ry (Po.then rs2 rh2.sub p2 fun z h3 zv H3 M3 x3 rs3 rh3 rz p3 => ?_)⟩
      obtain ⟨a', dx', fs', z1, z2, z3, z4⟩ := setF_ok hc rs3 rh3 ((rw1.mono x2 rh1.sub).mono x3 rh2.sub) rz p3
      cases z1
      exact ⟨dx', fs', z2, z3, z4⟩
end
end
end Xs

/-! XsAS: generator expressions over an invariant (first part: no context of mine yet). -/
namespace Xs
noncomputable section
open PySem PySem.Spec PyProof.Rows L2
section
variable {prog : Program} {w : World} {A : Around}
/-- the code of a generator of one clause without tests -/
abbrev gcode (elt target iter : Expr) (scope : Scope) (pos : Pos) (it : Value) (cenv : PySem.Env) : Code := .compLoop (.GeneratorExp elt [⟨target, iter, [], 0⟩] scope pos) 0 it .none cenv
/-- at a yield: P of the value and the state; it goes on from each state of J -/
def protoJ (J : Nat → Shared → Prop) (P : Nat → Value → Shared → Prop) : Protocol := fun m s₀ v s kap => ∃ k, m = k + 1 ∧ P k v s ∧ ∀ s'' : Shared, J k s'' → kap (.send .none) s''
def endJ (Je : Shared → Prop) : GenEnd := fun _ _ r s₁ => r = .ok .next ∧ Je s₁
/-- J k: asleep, at most k items are left. A turn: the end, or an item, its value by P -/
theorem seg_loopJ {elt target iter : Expr} {scope : Scope} {pos : Pos} {it : Value} {cenv : PySem.Env} (J : Nat → Shared → Prop) (P : Nat → Value → Shared → Prop) (Je : Shared → Prop) (hco : cenv.scope.isCoroutine = false)
    (turn : ∀ k s, J k s → wpAny (model prog w) (A.over (gcode elt target iter scope pos it cenv) []) (pyNext it) (fun r s1 => (r = none ∧ Je s1) ∨ ∃ v k', k = k' + 1 ∧ r = some v ∧
      wpAny (model prog w) (A.over (gcode elt target iter scope pos it cenv) []) (letOwnedTupleGo target it v) (fun _ s2 => wpAny (model prog w) (A.over (gcode elt target iter scope pos it cenv) []) (assign target cenv v) (fun _ s3 =>
        wpAny (model prog w) (A.over (gcode elt target iter scope pos it cenv) []) (eval elt cenv) (fun y s4 => P k' y s4) (fun _ _ => False) s3) (fun _ _ => False) s2) (fun _ _ => False) s1) (fun _ _ => False) s) :
    ∀ (k : Nat) (s₀ s : Shared), J k s → Seg (model prog w) A (endJ Je) (protoJ J P) (k + 1) s₀ (gcode elt target iter scope pos it cenv) ((model prog w).den (gcode elt target iter scope pos it cenv)) [] s := by
  intro k
  induction k with
  | zero =>
    intro s₀ s hJ
    show Seg _ A _ _ _ s₀ _ ((compTurn (.GeneratorExp elt [⟨target, iter, [], 0⟩] scope pos) 0 it .none cenv).onRaise (leaving cenv)) [] s
    rw [compTurn_gen, Sem.onRaise_eq_wrap]
    refine seg_bind_wrap (wpAny_standAt ?_)
    refine seg_bind_wrap (wpAny_mono (turn 0 s hJ) (fun r s1 h1 => ?_) fun _ _ e => e.elim)
    rcases h1 with ⟨rfl, he⟩ | ⟨v, k', hk, _⟩
    · exact seg_end (.ok .next) ⟨rfl, he⟩
    · omega
  | succ k ih =>
    intro s₀ s hJ
    show Seg _ A _ _ _ s₀ _ ((compTurn (.GeneratorExp elt [⟨target, iter, [], 0⟩] scope pos) 0 it .none cenv).onRaise (leaving cenv)) [] s
    rw [compTurn_gen, Sem.onRaise_eq_wrap]
    refine seg_bind_wrap (wpAny_standAt ?_)
    refine seg_bind_wrap (wpAny_mono (turn (k + 1) s hJ) (fun r s1 h1 => ?_) fun _ _ e => e.elim)
    rcases h1 with ⟨rfl, he⟩ | ⟨v, k', hk, rfl, h1⟩
    · exact seg_end (.ok .next) ⟨rfl, he⟩
    have hkk : k' = k := by omega
    subst hkk
    refine seg_bind_wrap (wpAny_mono h1 (fun _ s2 h2 => ?_) fun _ _ e => e.elim)
    refine seg_bind_wrap (wpAny_mono h2 (fun _ s3 h3 => ?_) fun _ _ e => e.elim)
    refine seg_bind_wrap (wpAny_tests_nil ?_)
    simp only [if_true]
    have hy : ∀ v, yieldOut cenv v = yieldValue v := fun v => by simp only [yieldOut, hco, Bool.false_eq_true, if_false]
    simp only [hy]
    rw [Sem.bind_eq_wrap', Sem.bind_eq_wrap', Sem.wrap_wrap, Sem.wrap_wrap]
    refine seg_wrap (wpAny_mono h3 (fun y s4 h4 => ?_) fun _ _ e => e.elim)
    refine seg_at (seg_yield rfl rfl rfl ⟨k', rfl, h4, fun s'' hJ'' => ?_⟩)
    exact seg_again rfl (ih s'' s'' hJ'')
theorem seg_startJ {elt target iter : Expr} {scope : Scope} {pos : Pos} {it : Value} {cenv : PySem.Env} (J : Nat → Shared → Prop) (P : Nat → Value → Shared → Prop) (Je : Shared → Prop)
    (self : ∀ k s, J k s → wpAny (model prog w) (A.over (.compStart (.GeneratorExp elt [⟨target, iter, [], 0⟩] scope pos) 0 it .none cenv) []) (pyIter it) (fun v s' => v = it ∧ J k s') (fun _ _ => False) s)
    (loop : ∀ (k : Nat) (s₀ s : Shared), J k s → Seg (model prog w) A (endJ Je) (protoJ J P) (k + 1) s₀ (gcode elt target iter scope pos it cenv) ((model prog w).den (gcode elt target iter scope pos it cenv)) [] s) :
    ∀ (k : Nat) (s₀ s : Shared), J k s → Seg (model prog w) A (endJ Je) (protoJ J P) (k + 1) s₀ (.compStart (.GeneratorExp elt [⟨target, iter, [], 0⟩] scope pos) 0 it .none cenv)
      ((model prog w).den (.compStart (.GeneratorExp elt [⟨target, iter, [], 0⟩] scope pos) 0 it .none cenv)) [] s := by
  intro k s₀ s hJ
  show Seg _ A _ _ _ s₀ _ ((compStart (.GeneratorExp elt [⟨target, iter, [], 0⟩] scope pos) 0 it .none cenv).onRaise (leaving cenv)) [] s
  unfold compStart
  rw [Sem.onRaise_eq_wrap]
  show Seg _ A _ _ _ s₀ _ ((ask >>= _).wrap _ _ _ _) [] s
  refine seg_bind_wrap (wpAny_askSetting ?_)
  split
  · exact seg_again rfl (loop k s₀ s hJ)
  · refine seg_bind_wrap (wpAny_rule ?_)
    show Seg _ A _ _ _ s₀ _ ((standAt iter.pos >>= _).wrap _ _ _ _) [] s
    refine seg_bind_wrap (wpAny_standAt (seg_bind_wrap (wpAny_mono (self k s hJ) (fun v s' h => ?_) fun _ _ e => e.elim)))
    obtain ⟨rfl, hJ'⟩ := h
    exact seg_again rfl (loop k s₀ s' hJ')
/-- the generator g goes on from each state of J k -/
def Asleep (prog : Program) (w : World) (A : Around) (g : Nat) (J : Nat → Shared → Prop) (P : Nat → Value → Shared → Prop) (Je : Shared → Prop) (k : Nat) (s : Shared) : Prop :=
  ∃ gs, s.gens[g]? = some gs ∧ ∀ s'', J k s'' → gs.Goes (model prog w) A.in1 (endJ Je) (protoJ J P) (k + 1) (.send .none) s''
theorem asleep_fresh {elt target iter : Expr} {scope : Scope} {pos : Pos} {it : Value} {cenv : PySem.Env} {J : Nat → Shared → Prop} {P : Nat → Value → Shared → Prop} {Je : Shared → Prop} {g k : Nat} {s : Shared}
    (hgs : s.gens[g]? = some (.fresh (.compStart (.GeneratorExp elt [⟨target, iter, [], 0⟩] scope pos) 0 it .none cenv)))
    (start : ∀ (k : Nat) (s₀ s : Shared), J k s → Seg (model prog w) A.in1 (endJ Je) (protoJ J P) (k + 1) s₀ (.compStart (.GeneratorExp elt [⟨target, iter, [], 0⟩] scope pos) 0 it .none cenv)
      ((model prog w).den (.compStart (.GeneratorExp elt [⟨target, iter, [], 0⟩] scope pos) 0 it .none cenv)) [] s) : Asleep prog w A g J P Je k s :=
  ⟨_, hgs, fun s'' hJ => ⟨rfl, start k s'' s'' hJ⟩⟩
structure StabJ (a : Addr) (g : Nat) (J : Nat → Shared → Prop) (P : Nat → Value → Shared → Prop) (Je : Shared → Prop) : Prop where
  gen : ∀ k s, J k s → s.heap.IsGen a g ∧ s.heap.NoLimit
  run : ∀ k s, J k s → J k (s.setGen g .running)
  out : ∀ k v s x, x.bare = true → P k v s → P k v (s.setGen g x)
  fin : ∀ s h', (∀ b o, s.heap.get? b = some o → h'.get? b = some o) → Je s → Je { s.setGen g .finished with heap := h' }
theorem set_here {s : Shared} {g : Nat} {x : GenState} (h : g < s.gens.size) : (s.setGen g x).gens[g]? = some x := setGen_self (Array.getElem?_eq_getElem h)
theorem next_J {a : Addr} {g k : Nat} {J : Nat → Shared → Prop} {P : Nat → Value → Shared → Prop} {Je : Shared → Prop} {s : Shared} {E : Value → Shared → Prop} (hh : A.handled = none) (hroom : A.depth < recursionLimit) (S : StabJ a g J P Je) (hJ : J k s) (G : Asleep prog w A g J P Je k s) :
    wpAny (model prog w) A (pyNext (.ref a)) (fun r s' => (r = none ∧ Je s') ∨ ∃ v k', k = k' + 1 ∧ r = some v ∧ P k' v s' ∧ Asleep prog w A g J P Je k' s') E s := by
  obtain ⟨gs, hgs, hgo⟩ := G
  obtain ⟨hg, hl⟩ := S.gen k s hJ
  have hgz : g < s.gens.size := (Array.getElem?_eq_some_iff.mp hgs).1
  refine GenW.wpAny_gsz (n := g + 1) hgz (wpAny_mono (wpAny_pyNext_genexpQ (E := fun _ _ => False) (n := k + 1) (Q := fun r s' => g + 1 ≤ s'.gens.size → (r = none ∧ Je s') ∨ ∃ v k', k = k' + 1 ∧ r = some v ∧ P k' v s' ∧ Asleep prog w A g J P Je k' s') (P := fun _ _ s₁ => Je s₁) hh hl hroom hg hgs (hgo _ (S.run k s hJ)) (fun v s₁ gs' hb hv hsz => ?_) (fun s₁ hp h' hk _ => .inl ⟨rfl, S.fin s₁ h' hk hp⟩)) (fun _ _ z => z) fun _ _ z => z.elim)
  obtain ⟨k', hk', hP, hkap⟩ := hv
  have hkk : k = k' + 1 := by omega
  subst hkk
  exact .inr ⟨v, k', rfl, rfl, S.out k' v s₁ gs' hb hP, gs', set_here (by rw [GenW.setGen_size] at hsz; exact hsz), fun s'' hJ'' => hkap s'' hJ''⟩
/-- all(..) over it: a value is a bool; behind True it sleeps in J, behind False it is done -/
theorem all_J {a : Addr} {g : Nat} {J : Nat → Shared → Prop} {P : Nat → Value → Shared → Prop} {Je Jf : Shared → Prop} {R : Result → Shared → Prop} (hh : A.handled = none) (hroom : A.depth < recursionLimit) (S : StabJ a g J P Je)
    (hP : ∀ k v s, P k v s → ∃ b : Bool, v = .bool b ∧ (b = true → J k s) ∧ (b = false → Jf s)) (hR : ∀ s, Je s → R (.ok (.ret (.bool true))) s) (hF : ∀ s, Jf s → R (.ok (.ret (.bool false))) s) : ∀ (k : Nat) (s : Shared), J k s → Asleep prog w A.in1 g J P Je k s →
      codeAny (model prog w) A (.builtin "all.loop" ⟨[.ref a], []⟩) R s := by
  intro k
  induction k with
  | zero =>
    intro s hJ G
    refine codeAny_builtin F.entry_all_loop ?_
    rw [Around.under_plainId F.plain_all_loop _]
    show wpAny _ A.in1 (pyNext (.ref a) >>= _) _ _ s
    refine wpAny_bind (wpAny_mono (next_J (A := A.in1) (E := fun _ _ => False) hh hroom S hJ G) (fun r s' h => ?_) fun _ _ e => e.elim)
    rcases h with ⟨rfl, he⟩ | ⟨v, k', hk, _⟩
    · exact wpAny_bind (wpAny_rule (wpAny_pure (hR s' he)))
    · omega
  | succ k ih =>
    intro s hJ G
    refine codeAny_builtin F.entry_all_loop ?_
    rw [Around.under_plainId F.plain_all_loop _]
    show wpAny _ A.in1 (pyNext (.ref a) >>= _) _ _ s
    refine wpAny_bind (wpAny_mono (next_J (A := A.in1) (E := fun _ _ => False) hh hroom S hJ G) (fun r s' h => ?_) fun _ _ e => e.elim)
    rcases h with ⟨rfl, he⟩ | ⟨v, k', hk, rfl, hv, G'⟩
    · exact wpAny_bind (wpAny_rule (wpAny_pure (hR s' he)))
    have hkk : k' = k := by omega
    subst hkk
    obtain ⟨b, rfl, ht, hf⟩ := hP k' v s' hv
    refine wpAny_bind (wpAny_holding (wpAny_truthy_bool ?_))
    refine wpAny_bind (wpAny_letGo ?_)
    cases b with
    | true =>
      simp only [if_true]
      exact wpAny_pure ⟨plainId_quiet F.plain_all_loop _, ih s' (ht rfl) G'⟩
    | false =>
      simp only [Bool.false_eq_true, if_false]
      exact wpAny_bind (wpAny_rule (wpAny_pure (hF s' (hf rfl))))
/-- any(..) over it: behind False it sleeps in J, behind True it is done -/
theorem any_J {a : Addr} {g : Nat} {J : Nat → Shared → Prop} {P : Nat → Value → Shared → Prop} {Je Jf : Shared → Prop} {R : Result → Shared → Prop} (hh : A.handled = none) (hroom : A.depth < recursionLimit) (S : StabJ a g J P Je)
    (hP : ∀ k v s, P k v s → ∃ b : Bool, v = .bool b ∧ (b = false → J k s) ∧ (b = true → Jf s)) (hR : ∀ s, Je s → R (.ok (.ret (.bool false))) s) (hF : ∀ s, Jf s → R (.ok (.ret (.bool true))) s) : ∀ (k : Nat) (s : Shared), J k s → Asleep prog w A.in1 g J P Je k s →
      codeAny (model prog w) A (.builtin "any.loop" ⟨[.ref a], []⟩) R s := by
  intro k
  induction k with
  | zero =>
    intro s hJ G
    refine codeAny_builtin F.entry_any_loop ?_
    rw [Around.under_plainId F.plain_any_loop _]
    show wpAny _ A.in1 (pyNext (.ref a) >>= _) _ _ s
    refine wpAny_bind (wpAny_mono (next_J (A := A.in1) (E := fun _ _ => False) hh hroom S hJ G) (fun r s' h => ?_) fun _ _ e => e.elim)
    rcases h with ⟨rfl, he⟩ | ⟨v, k', hk, _⟩
    · exact wpAny_bind (wpAny_rule (wpAny_pure (hR s' he)))
    · omega
  | succ k ih =>
    intro s hJ G
    refine codeAny_builtin F.entry_any_loop ?_
    rw [Around.under_plainId F.plain_any_loop _]
    show wpAny _ A.in1 (pyNext (.ref a) >>= _) _ _ s
    refine wpAny_bind (wpAny_mono (next_J (A := A.in1) (E := fun _ _ => False) hh hroom S hJ G) (fun r s' h => ?_) fun _ _ e => e.elim)
    rcases h with ⟨rfl, he⟩ | ⟨v, k', hk, rfl, hv, G'⟩
    · exact wpAny_bind (wpAny_rule (wpAny_pure (hR s' he)))
    have hkk : k' = k := by omega
    subst hkk
    obtain ⟨b, rfl, ht, hf⟩ := hP k' v s' hv
    refine wpAny_bind (wpAny_holding (wpAny_truthy_bool ?_))
    refine wpAny_bind (wpAny_letGo ?_)
    cases b with
    | false =>
      simp only [Bool.false_eq_true, if_false]
      exact wpAny_pure ⟨plainId_quiet F.plain_any_loop _, ih s' (ht rfl) G'⟩
    | true =>
      simp only [if_true]
      exact wpAny_bind (wpAny_rule (wpAny_pure (hF s' (hf rfl))))
theorem call_all_J {a : Addr} {g k : Nat} {J : Nat → Shared → Prop} {P : Nat → Value → Shared → Prop} {Je Jf : Shared → Prop} {Q : Value → Shared → Prop} {E : Value → Shared → Prop} {s : Shared} (hh : A.handled = none) (hroom : A.depth < recursionLimit) (S : StabJ a g J P Je)
    (hP : ∀ k v s, P k v s → ∃ b : Bool, v = .bool b ∧ (b = true → J k s) ∧ (b = false → Jf s)) (hR : ∀ s, Je s → Q (.bool true) s) (hF : ∀ s, Jf s → Q (.bool false) s) (hJ : J k s) (G : Asleep prog w A.in1 g J P Je k s) :
    wpAny (model prog w) A (call (.builtin "all") [.ref a]) Q E s := by
  refine call_function_tree F.kind_all F.plain_all F.entry_all (F.args_all1 _) ?_
  unfold Builtin.«all»
  refine wpAny_bind (m := oneArg "all" _) (wpAny_pure ?_)
  refine wpAny_bind (wpAny_pyIter_gen (S.gen k s hJ).1 ?_)
  exact wpAny_pure ⟨plainId_quiet F.plain_all_loop _, all_J hh hroom S hP hR hF k s hJ G⟩
theorem call_any_J {a : Addr} {g k : Nat} {J : Nat → Shared → Prop} {P : Nat → Value → Shared → Prop} {Je Jf : Shared → Prop} {Q : Value → Shared → Prop} {E : Value → Shared → Prop} {s : Shared} (hh : A.handled = none) (hroom : A.depth < recursionLimit) (S : StabJ a g J P Je)
    (hP : ∀ k v s, P k v s → ∃ b : Bool, v = .bool b ∧ (b = false → J k s) ∧ (b = true → Jf s)) (hR : ∀ s, Je s → Q (.bool false) s) (hF : ∀ s, Jf s → Q (.bool true) s) (hJ : J k s) (G : Asleep prog w A.in1 g J P Je k s) :
    wpAny (model prog w) A (call (.builtin "any") [.ref a]) Q E s := by
  refine call_function_tree F.kind_any F.plain_any F.entry_any (F.args_any1 _) ?_
  unfold Builtin.«any»
  refine wpAny_bind (m := oneArg "any" _) (wpAny_pure ?_)
  refine wpAny_bind (wpAny_pyIter_gen (S.gen k s hJ).1 ?_)
  exact wpAny_pure ⟨plainId_quiet F.plain_any_loop _, any_J hh hroom S hP hR hF k s hJ G⟩
end
/-! ### the context -/
theorem setG_heap (s : Shared) (g : Nat) (x : GenState) : (s.setGen g x).heap = s.heap ∧ (s.setGen g x).os = s.os := ⟨rfl, rfl⟩
theorem allBare_set {s : Shared} {g : Nat} {x : GenState} (h : AllBare s.gens) (hb : x.bare = true) : AllBare (s.setGen g x).gens := by
  intro y hy
  simp only [Shared.setGen] at hy
  rcases Array.mem_or_eq_of_mem_setIfInBounds hy with z | z
  · exact h y z
  · rw [z]; exact hb
theorem inv_setG {X : Cx} {pins : List (Addr × Obj)} {σ : L2.St} {H : Hp} {s : Shared} {g : Nat} {x : GenState} (I : Inv X pins σ H s) (hb : x.bare = true) : Inv X pins σ H (s.setGen g x) :=
  ⟨I.ok, I.os, allBare_set I.bare hb, I.base, I.loc, I.cell, I.free, I.freeC, I.pin, I.hok, I.len⟩

end
end Xs

/-! XsAT: all(..), any(..) over a generator whose element may be anything that raises nothing. -/
namespace Xs
noncomputable section
open PySem PySem.Spec PyProof.Rows L2
/-- the context of a generator's frame -/
abbrev _root_.L2.Cx.gnr (X : Cx) (s : Shared) (H : Hp) (cenv : PySem.Env) (A' : Around) (fp : List Addr) (pn : List (Addr × Obj)) : Cx :=
  { X with A := A', s_0 := s, H_0 := H, env := cenv, outer := X.stack, stack := cenv :: X.stack, ex := fp, fn := fun _ => false, pn := pn, xe := fun _ _ => False }
/-- the generator's scope: .0 and its own names, captured ones -/
structure GScp (scope : Scope) : Prop where
  co : scope.isCoroutine = false
  cell : ∀ y ∈ scope.names, y.2 ≠ .cell
  dot : scope.names.lookup (".0" : Str) = some NameKind.local
def gscp (sc : Scope) : Bool := !sc.isCoroutine && sc.names.all (fun y => decide (y.2 ≠ .cell)) && decide (sc.names.lookup (".0" : Str) = some NameKind.local)
theorem gscp_of {sc : Scope} (h : gscp sc = true) : GScp sc := by
  simp only [gscp, Bool.and_eq_true, decide_eq_true_eq, Bool.not_eq_true', List.all_eq_true] at h
  exact ⟨h.1.1, fun y hy => h.1.2 y hy, h.2⟩
section
variable {X : Cx} {pins : List (Addr × Obj)} {σ : L2.St} {H : Hp} {s : Shared}
theorem gen_start {scope : Scope} {own : List (Str × Nat)} {fp : List Addr} {A' : Around} {code it : Value} {h' : Heap} {gs : GenState} {tk : Tok} {go : Obj} (I : Inv X pins σ H s) (ok : BlkOk X.N X.env.scope scope own) (gsc : GScp scope) (hN : X.N.Nodup)
    (hfp : ∀ b ∈ fp, FpOk X pins H b ∧ b < s.heap.objs.size) (hA : A'.handled = none)
    (hfr : A'.frames = some (genEnv scope (cloFrom X.env.cells scope.names []) s.heap.objs.size code builtinsNs X.env :: X.stack)) (hn : h'.Ns s.heap.objs.size fun y => if y = ".0" then some it else none)
    (sb : Heap.SameBut s.heap.objs.size (s.heap.push { cls := .type "frame", data := .dict #[] }) h') (hgs : gs.bare = true) (hgo : ∀ v, go.data ≠ .cell v) (hgp : ∀ h : Heap, (h.push go).get? h.objs.size = some go) :
    Inv (X.gnr s H (genEnv scope (cloFrom X.env.cells scope.names []) s.heap.objs.size code builtinsNs X.env) A' fp [(h'.objs.size, go)]) [] (wipe σ (own.map (·.2))) H { s with gens := s.gens.push gs, toks := tk, heap := h'.push go } := by
  have hfree : ∀ y ∈ scope.names, y.2 = .free → ∃ c, X.env.cells.lookup y.1 = some c := fun y hy e => by
    rcases ok.free y hy e with k | k
    · exact I.ok.has _ (.inl k)
    · exact I.ok.has _ (.inr k)
  generalize hcenv : genEnv scope (cloFrom X.env.cells scope.names []) s.heap.objs.size code builtinsNs X.env = cenv at hfr ⊢
  have hL : cenv.locals = s.heap.objs.size := by rw [← hcenv]; rfl
  have hcl : cenv.cells = cloFrom X.env.cells scope.names [] := by rw [← hcenv]; rfl
  have hsc : cenv.scope = scope := by rw [← hcenv]; rfl
  have kp0 : ∀ b o, s.heap.get? b = some o → h'.get? b = some o := fun b o e => (sb.2 b (Nat.ne_of_lt (Heap.lt_size e))).trans (Heap.get?_push_of_some _ e)
  have kp : ∀ b o, s.heap.get? b = some o → (h'.push go).get? b = some o := fun b o e => Heap.get?_push_of_some _ (kp0 b o e)
  have cm : ∀ {y c}, cenv.cells.lookup y = some c → X.env.cells.lookup y = some c ∧ c < s.heap.objs.size := fun {y c} e => by
    rw [hcl] at e
    rcases cloFrom_mem (PySem.mem_of_lookup e) with hm | ⟨h1, rfl⟩
    · cases hm
    · obtain ⟨c, hc⟩ := hfree _ h1 rfl
      rw [hc]
      obtain ⟨w, z⟩ := I.cell _ _ hc
      exact ⟨rfl, z.lt⟩
  have look : ∀ {y}, scope.names.lookup y = some .free → ∃ c, cenv.cells.lookup y = some c ∧ X.env.cells.lookup y = some c := fun {y} hl => by
    have hy : (y, NameKind.free) ∈ scope.names := PySem.mem_of_lookup hl
    obtain ⟨c', e'⟩ := mem_lookup (cloFrom_has (cells := X.env.cells) (acc := []) hy)
    rw [← hcl] at e'
    exact ⟨c', e', (cm e').1⟩
  have hsz : s.heap.objs.size + 1 ≤ h'.objs.size := by
    obtain ⟨o, _, _, eo, _⟩ := hn
    exact Heap.lt_size eo
  have okX : (X.gnr s H cenv A' fp [(h'.objs.size, go)]).Ok := by
    refine ⟨I.ok.mod, by show cenv.scope.kind = _; rw [hsc]; exact ok.kind, by show cenv.globals = _; rw [← hcenv]; exact I.ok.glob, by show cenv.builtins = _; rw [← hcenv]; rfl, by show s.heap.objs.size ≤ cenv.locals; rw [hL]; exact Nat.le_refl _,
      fun y z c e1 e2 => I.ok.inj y z c (cm e1).1 (cm e2).1, fun y hy => ?_, fun y c z e => ?_, fun _ => hA, hfr, .inr ⟨rfl, ?_⟩, fun b hb => ⟨?_, fun y c e z => ?_⟩, I.bs, Nat.le_trans I.ok.bsz I.sz, fun b o e hb => ?_, fun b hb z => ?_, I.stack, I.stkFree⟩
    · have hy : scope.names.lookup y = some .cell ∨ scope.names.lookup y = some .free := by
        rw [← hsc]
        exact hy
      rcases hy with hy | hy
      · exact absurd rfl (gsc.cell _ (PySem.mem_of_lookup hy))
      · obtain ⟨c, h1, _⟩ := look hy
        exact ⟨c, h1⟩
    · exact absurd z (by simp)
    · show cenv.frame = some cenv.locals
      rw [← hcenv]
      rfl
    · show b ≠ cenv.locals
      rw [hL]; exact Nat.ne_of_lt (hfp b hb).2
    · exact (hfp b hb).1.2.2.2.2.1 y c (cm e).1 z
    · rcases (hfp b hb).1.2.2.2.1 with z | z
      · exact I.ok.noex b o e z
      · exact absurd (Nat.lt_of_lt_of_le (Heap.lt_size e) (Nat.le_trans I.ok.bsz z)) (Nat.lt_irrefl _)
    · rcases List.mem_cons.mp (I.stkSub b z) with z | z
      · exact (hfp b hb).1.2.1 z
      · exact (hfp b hb).1.2.2.1 z
  refine ⟨okX, rfl, AllBare.push I.bare hgs, Un.kept kp, ⟨fun y => if y = ".0" then some it else none, ?_, fun i y av e1 e2 e3 => ?_⟩, fun y c e => ?_, ?_, fun y c e => ?_, fun p hp => ?_, I.hok.kept kp, by rw [wipe_length]; exact I.len⟩
  · show Heap.Ns _ cenv.locals _
    rw [hL]
    exact hn.keeps fun b o e => Heap.get?_push_of_some _ e
  · obtain ⟨e2, hne⟩ := wipe_some e2
    have e3 : Vis scope y := by
      rw [← hsc]
      exact e3
    have no : ¬ (scope.names.lookup y = some .local ∨ scope.names.lookup y = some .cell) := fun hh => by
      have e' : y ∈ own.map (·.1) ∨ y ∉ X.N := by
        rcases hh with e | e
        · exact ok.own _ (PySem.mem_of_lookup e) (.inl rfl)
        · exact ok.own _ (PySem.mem_of_lookup e) (.inr rfl)
      rcases e' with e' | e'
      · obtain ⟨p, hp, hpy⟩ := List.mem_map.mp e'
        have e3 := ok.ix p hp
        have : p.1 = y := hpy
        rw [this] at e3
        exact hne (List.mem_map.mpr ⟨p, hp, nodup_ix hN e3 e1⟩)
      · exact e' (List.mem_of_getElem? e1)
    have hfr1 : scope.names.lookup y = some .free := by
      rcases e3 with k | k | k
      · exact absurd (.inl k) no
      · exact absurd (.inr k) no
      · exact k
    obtain ⟨m, hn, hl⟩ := I.loc
    have hvis : Vis X.env.scope y := (ok.free _ (PySem.mem_of_lookup hfr1) rfl).elim (fun k => .inr (.inl k)) (fun k => .inr (.inr k))
    obtain ⟨w, r, q⟩ := hl i y av e1 e2 hvis
    refine ⟨w, r, .inr ⟨.inr ?_, ?_⟩⟩
    · show cenv.scope.names.lookup y = _
      rw [hsc]
      exact hfr1
    obtain ⟨c, h1, h2⟩ := look hfr1
    rcases q with ⟨k, _⟩ | ⟨_, c', e', z⟩
    · have k : X.env.scope.names.lookup y = some .local := k
      rcases ok.free _ (PySem.mem_of_lookup hfr1) rfl with k' | k' <;> rw [show X.env.scope.names.lookup y = _ from k'] at k <;> cases k
    · rw [h2] at e'; cases e'
      exact ⟨c, h1, z.keeps kp⟩
  · obtain ⟨w, z⟩ := I.cell y c (cm e).1
    exact ⟨w, z.keeps kp⟩
  · show H cenv.locals = none
    rw [hL]; exact I.hok.fresh (Nat.le_refl _)
  · exact I.freeC y c (cm e).1
  · have hp : p ∈ [(h'.objs.size, go)] ++ ([] : List (Addr × Obj)) := hp
    simp only [List.append_nil, List.mem_singleton] at hp
    subst hp
    refine ⟨hgp h', I.hok.fresh (Nat.le_of_lt hsz), ?_, fun z => ?_, hgo⟩
    · show h'.objs.size ≠ cenv.locals
      rw [hL]; exact Nat.ne_of_gt hsz
    · have z : h'.objs.size ∈ frs X.stack := z
      rcases List.mem_cons.mp (I.stkSub _ z) with z | z
      · have := I.lt
        rw [← z] at this
        exact absurd (Nat.lt_trans this hsz) (Nat.lt_irrefl _)
      · exact I.nofs (Nat.le_of_lt hsz) z
end
/-- what is wanted: d is what goes on (all: true), !d stops -/
def tGen (d : Bool) (P : Addr) (wi : TI) (g : TG) (te : TE) (vs : List Nat) : TE := fun σ H Q => wi σ H fun J H1 => GxR.TabG H1 P ∧ ∀ H2, GxR.Tabbed P H1 H2 → ∃ W : Nat → Nat → Hp → Prop, (∃ m, W 0 m H2) ∧ ∀ i m H, W i m H →
  (J.stop i H ∧ Q (.bl d) H) ∨ (J.go i H ∧ ∃ m', m = m' + 1 ∧ ∀ x H', J.yld i H x H' → g x (wipe σ vs) H' fun σ2 H2 => wipe σ2 vs = wipe σ vs ∧ te σ2 H2 fun y H4 => ∃ b : Bool, y = .bl b ∧ (b = d → W (i + 1) m' H4) ∧ (b = !d → Q (.bl (!d)) H4))
/-- where the element runs -/
abbrev gA (A : Around) (elt target iter : Expr) (scope : Scope) (pos : Pos) (it : Value) (cenv : PySem.Env) : Around := A.in1.in1.over (gcode elt target iter scope pos it cenv) []
theorem gA_room {A : Around} {elt target iter : Expr} {scope : Scope} {pos : Pos} {it : Value} {cenv : PySem.Env} {k : Nat} (r : Room (k + 1) A) : Room k (gA A elt target iter scope pos it cenv) := by
  refine ⟨r.hd, ?_, ?_⟩
  · have := r.dp
    show A.depth + 0 + 1 + 3 * k + 5 < _
    omega
  · have := r.un
    show A.units + 1 + 1 + 0 + 3 * 1 + 16 * k + 200 < _
    omega
theorem gA_frames {A : Around} {elt target iter : Expr} {scope : Scope} {pos : Pos} {it : Value} {cenv : PySem.Env} {l : List PySem.Env} (h : A.frames = some l) : (gA A elt target iter scope pos it cenv).frames = some (cenv :: l) := by
  show pushEnvs [cenv] (pushEnvs [] A.frames) = _
  rw [h]
  rfl
theorem gA_guards {A : Around} {elt target iter : Expr} {scope : Scope} {pos : Pos} {it : Value} {cenv : PySem.Env} (h : A.guards = some []) : (gA A elt target iter scope pos it cenv).guards = some [] := by
  show pushGuards [] (pushGuards [] A.guards) = _
  rw [h]
  rfl
section
variable {X : Cx} {pins : List (Addr × Obj)} {σ : L2.St} {H : Hp} {s : Shared}
theorem gen_any {c P : Addr} {elt tg iter : Expr} {scope : Scope} {own : List (Str × Nat)} {gpos : Pos} {wi : TI} {g : TG} {te : TE} {k : Nat} {d : Bool} {Q : VK} {R : Value → Shared → Prop} (hr : Room (k + 1) X.A) (hgd : X.A.guards = some []) (TB : GxR.TabB X.base X.mg c P) (hcode : X.env.code = .ref c)
    (gsc : GScp scope) (ok : BlkOk X.N X.env.scope scope own) (hc : X.calm = true) (hN : X.N.Nodup) (hi : PI X tg iter wi)
    (hg : ∀ (s : Shared) (H : Hp) (C : Addr) (cl : List (Str × Addr)) (code : Value) (A' : Around) (fp : List Addr) (pn : List (Addr × Obj)), PG (X.gnr s H (genEnv scope cl C code builtinsNs X.env) A' fp pn) tg g)
    (he : ∀ (s : Shared) (H : Hp) (C : Addr) (cl : List (Str × Addr)) (code : Value) (A' : Around) (fp : List Addr) (pn : List (Addr × Obj)), Room k A' → A'.guards = some [] → PE (X.gnr s H (genEnv scope cl C code builtinsNs X.env) A' fp pn) elt te)
    (hs : ∀ v, genFold iter X.env v = pure v) (I : Inv X pins σ H s) (h : tGen d P wi g te (own.map (·.2)) σ H Q)
    (hR : ∀ (a : Addr) (gi : Nat) (J : Nat → Shared → Prop) (Pv : Nat → Value → Shared → Prop) (Je Jf : Shared → Prop) (k' : Nat) (s' : Shared), StabJ a gi J Pv Je → (∀ k v s, Pv k v s → ∃ b : Bool, v = .bool b ∧ (b = d → J k s) ∧ (b = !d → Jf s)) → (∀ s, Je s → EP X pins σ Q (.bool d) s) → (∀ s, Jf s → EP X pins σ Q (.bool (!d)) s) →
      J k' s' → Asleep X.prog X.w X.A.in1 gi J Pv Je k' s' → R (.ref a) s') :
    wpAny (model X.prog X.w) X.A (eval (.GeneratorExp elt [⟨tg, iter, [], 0⟩] scope gpos) X.env) R X.xe s := by
  have few : X.A.depth < recursionLimit := by
    have d := hr.dp
    omega
  have hfree : ∀ y ∈ scope.names, y.2 = .free → ∃ c, X.env.cells.lookup y.1 = some c := fun y hy e => by
    rcases ok.free y hy e with k | k
    · exact I.ok.has _ (.inl k)
    · exact I.ok.has _ (.inr k)
  refine wpAny_GeneratorExp_make gsc.co (closure_ok hfree) gsc.cell gsc.dot ok.kind few ?_ hs
  refine thn (hi.run pins s σ H _ I h) fun xv s1 hx => thn hx fun itv s2 h2 => ?_
  obtain ⟨it, fp, tn, J, H2, e, I2, T, st2, f2, ⟨ps, hP, ht⟩, q⟩ := h2
  subst e
  refine ⟨I2.nolimit, ?_⟩
  have objP := I2.hok P _ hP
  replace objP : s2.heap.get? P = some { cls := .none, data := .fields ps } := objP
  have hdC : PySem.W.CodeHd s2.heap c P := TB.code.keeps fun b u e => I2.bk b u e
  have Pfp : ∀ b ∈ fp, b ≠ P := fun b hb z => by
    have := (f2 b hb).1
    rw [z, hP] at this
    cases this
  have rest : ∀ (code : Value) (h3 : Heap) (tk : Nat) (more : Array Value), Heap.ExtBut P s2.heap h3 → s2.heap.objs.size ≤ h3.objs.size → h3.get? P = some { cls := .none, data := .fields (ps ++ more) } → TriplesOk (ps ++ more).toList →
      wpAny (model X.prog X.w) X.A (builtinsFor X.env.globals X.env.builtins) (fun bi s₄ =>
        ∀ h', h'.Ns s₄.heap.objs.size (fun y => if y = ".0" then some (.ref it) else none) → Heap.SameBut s₄.heap.objs.size (s₄.heap.push { cls := .type "frame", data := .dict #[] }) h' →
          R (.ref h'.objs.size) { s₄ with
            gens := s₄.gens.push (.fresh (.compStart (.GeneratorExp elt [⟨tg, iter, [], 0⟩] scope gpos) 0 (.ref it) .none (genEnv scope (cloFrom X.env.cells scope.names []) s₄.heap.objs.size code bi X.env))),
            toks := s₄.toks + 1 + 1 + 1,
            heap := h'.push { cls := .type "generator", data := .fields #[.int s₄.gens.size 0, .str "<genexpr>" (s₄.toks + 1), .str (X.env.qual ++ "<genexpr>") (s₄.toks + 1 + 1)] } }) X.xe { s2 with heap := h3, toks := tk } := by
    intro code h3 tk more ext sz3 objP3 ht3
    have through : ∀ b u, b ≠ P → s2.heap.get? b = some u → h3.get? b = some u := fun b u nb e => ext b u nb e
    obtain ⟨bm, ob, m1, m2, m3, m4, m5, m6, m7, m8⟩ := TB.bm
    refine wpAny_builtinsFor (m := X.mg) (by rw [I2.ok.glob]; exact (I2.mod.glob.keeps I2.bk).extBut ext TB.gP) m1 m2 (through bm ob m4 (I2.bk bm ob m5)) m6 m7 m8 ?_
    intro h' hn sb
    have I3 : Inv X pins σ (upd H2 P (.tbl (ps ++ more))) { s2 with heap := h3, gens := s2.gens, drawn := s2.drawn, toks := tk } := GxR.inv_tab I2 hP through objP3 I2.bare
    generalize hs4 : ({ s2 with heap := h3, toks := tk } : Shared) = s4 at hn sb ⊢
    have I3 : Inv X pins σ (upd H2 P (.tbl (ps ++ more))) s4 := by rw [← hs4]; exact I3
    have h4 : s4.heap = h3 := by rw [← hs4]
    have st4 : tn 0 s4.heap := by rw [h4]; exact T.keep _ _ _ st2 fun b hb o e => through b o (Pfp b hb) e
    have f3 : ∀ b ∈ fp, FpOk X pins (upd H2 P (.tbl (ps ++ more))) b ∧ b < s4.heap.objs.size := fun b hb => by
      obtain ⟨o, e, _⟩ := T.obj _ _ st2 b hb
      refine ⟨⟨?_, (f2 b hb).2⟩, by rw [h4]; exact Nat.lt_of_lt_of_le (Heap.lt_size e) sz3⟩
      rw [upd_ne (Pfp b hb)]
      exact (f2 b hb).1
    obtain ⟨Wl, ⟨m0, w0⟩, turn⟩ := q (upd H2 P (.tbl (ps ++ more))) ⟨⟨ps ++ more, upd_same, ht3⟩, fun b hb => upd_ne hb⟩
    generalize hH3 : upd H2 P (.tbl (ps ++ more)) = H3 at I3 f3 w0
    have I5 := gen_start (A' := gA X.A elt tg iter scope gpos (.ref it) (genEnv scope (cloFrom X.env.cells scope.names []) s4.heap.objs.size code builtinsNs X.env)) (code := code) (it := .ref it) (h' := h')
      (gs := .fresh (.compStart (.GeneratorExp elt [⟨tg, iter, [], 0⟩] scope gpos) 0 (.ref it) .none (genEnv scope (cloFrom X.env.cells scope.names []) s4.heap.objs.size code builtinsNs X.env))) (tk := s4.toks + 1 + 1 + 1)
      (go := { cls := .type "generator", data := .fields #[.int s4.gens.size 0, .str "<genexpr>" (s4.toks + 1), .str (X.env.qual ++ "<genexpr>") (s4.toks + 1 + 1)] })
      I3 ok gsc hN f3 hr.hd (gA_frames I3.ok.frames) hn sb rfl (fun v z => by cases z) (fun h => Heap.get?_push_size _ rfl)
    have pg := hg s4 H3 s4.heap.objs.size (cloFrom X.env.cells scope.names []) code (gA X.A elt tg iter scope gpos (.ref it) (genEnv scope (cloFrom X.env.cells scope.names []) s4.heap.objs.size code builtinsNs X.env)) fp
      [(h'.objs.size, { cls := .type "generator", data := .fields #[.int s4.gens.size 0, .str "<genexpr>" (s4.toks + 1), .str (X.env.qual ++ "<genexpr>") (s4.toks + 1 + 1)] })]
    have pe := he s4 H3 s4.heap.objs.size (cloFrom X.env.cells scope.names []) code (gA X.A elt tg iter scope gpos (.ref it) (genEnv scope (cloFrom X.env.cells scope.names []) s4.heap.objs.size code builtinsNs X.env)) fp
      [(h'.objs.size, { cls := .type "generator", data := .fields #[.int s4.gens.size 0, .str "<genexpr>" (s4.toks + 1), .str (X.env.qual ++ "<genexpr>") (s4.toks + 1 + 1)] })] (gA_room hr) (gA_guards hgd)
    generalize hce : genEnv scope (cloFrom X.env.cells scope.names []) s4.heap.objs.size code builtinsNs X.env = ce at I5 pg pe ⊢
    generalize hgo : ({ cls := .type "generator", data := .fields #[.int s4.gens.size 0, .str "<genexpr>" (s4.toks + 1), .str (X.env.qual ++ "<genexpr>") (s4.toks + 1 + 1)] } : Obj) = go at I5 pg pe ⊢
    generalize hA2 : gA X.A elt tg iter scope gpos (.ref it) ce = A2 at I5 pg pe
    have kp5 : ∀ b o, s4.heap.get? b = some o → (h'.push go).get? b = some o := fun b o e => Heap.get?_push_of_some _ ((sb.2 b (Nat.ne_of_lt (Heap.lt_size e))).trans (Heap.get?_push_of_some _ e))
    have st5 : tn 0 (h'.push go) := T.keep _ _ _ st4 fun b _ o e => kp5 b o e
    have nfp : ∀ b ∈ fp, H3 b = none := fun b hb => (f3 b hb).1.1
    have stat : ∀ {σ' : L2.St} {H' : Hp} {s' : Shared}, Inv (X.gnr s4 H3 ce A2 fp [(h'.objs.size, go)]) [] σ' H' s' → (∀ b ∈ fp, H' b = none) → ∀ b ∈ fp, FpOk (X.gnr s4 H3 ce A2 fp [(h'.objs.size, go)]) [] H' b := fun {σ' H' s'} I' hz b hb =>
      ⟨hz b hb, (I'.ok.exf b hb).1, I'.ok.exfs b hb, .inl hb, fun x c e => (I'.ok.exf b hb).2 x c e, fun p hp => by
        have hp : p ∈ [(h'.objs.size, go)] ++ ([] : List (Addr × Obj)) := hp
        simp only [List.append_nil, List.mem_singleton] at hp
        subst hp
        intro z
        have h1 := (f3 b hb).2
        rw [← z] at h1
        have h1 : h'.objs.size < s4.heap.objs.size := h1
        obtain ⟨o, _, _, eo, _⟩ := hn
        exact absurd (Nat.lt_trans (Heap.lt_size eo) h1) (Nat.lt_irrefl _)⟩
    have hgen : ∀ s' : Shared, s'.heap.get? h'.objs.size = some go → s'.heap.IsGen h'.objs.size s4.gens.size := fun s' e => by
      rw [← hgo] at e
      exact ⟨_, _, _, e, rfl, rfl, rfl⟩
    have back : ∀ {σ' : L2.St} {H' : Hp} {s' : Shared}, Inv (X.gnr s4 H3 ce A2 fp [(h'.objs.size, go)]) [] σ' H' s' → Inv X pins σ H' s' := fun {σ' H' s'} I6 =>
      I3.call' (ch := fp) I6.os I6.base I6.hok I6.bare fun b hb => ⟨(f3 b hb).1.2.2.2.1, (f3 b hb).1.2.1, (f3 b hb).1.2.2.2.2.1, (f3 b hb).1.2.2.2.2.2⟩
    have setE : ∀ (v : Value) (s' : Shared) (x : GenState) (h2 : Heap), x.bare = true → (∀ b o, s'.heap.get? b = some o → h2.get? b = some o) → EP X pins σ Q v s' → EP X pins σ Q v { s'.setGen s4.gens.size x with heap := h2 } := fun v s' x h2 hb hk ⟨w, H', I', r', q'⟩ =>
      ⟨w, H', (inv_setG I' hb).kept (t' := s'.toks) hk, r', q'⟩
    obtain ⟨Jd, hJd⟩ : ∃ Jd : Nat → Shared → Prop, Jd = fun k s' => ∃ i H', Inv (X.gnr s4 H3 ce A2 fp [(h'.objs.size, go)]) [] (wipe σ (own.map (·.2))) H' s' ∧ tn i s'.heap ∧ (∀ b ∈ fp, H' b = none) ∧ Wl i k H' := ⟨_, rfl⟩
    have runJ : ∀ k s' x, GenState.bare x = true → Jd k s' → Jd k (s'.setGen s4.gens.size x) := fun k s' x hb hJ => by
      rw [hJd] at hJ ⊢
      obtain ⟨i, H', I', a1, a2, a3⟩ := hJ
      exact ⟨i, H', inv_setG I' hb, a1, a2, a3⟩
    obtain ⟨Pv, hPv⟩ : ∃ Pv : Nat → Value → Shared → Prop, Pv = fun k v s' => ∃ b : Bool, v = .bool b ∧ (b = d → Jd k s') ∧ (b = !d → EP X pins σ Q (.bool (!d)) s') := ⟨_, rfl⟩
    have hJ0 : Jd m0 { s4 with gens := s4.gens.push (.fresh (.compStart (.GeneratorExp elt [⟨tg, iter, [], 0⟩] scope gpos) 0 (.ref it) .none ce)), toks := s4.toks + 1 + 1 + 1, heap := h'.push go } := by
      rw [hJd]
      exact ⟨0, H3, I5, st5, nfp, w0⟩
    have hturn : ∀ k s', Jd k s' → wpAny (model X.prog X.w) A2 (pyNext (.ref it)) (fun r s1 => (r = none ∧ EP X pins σ Q (.bool d) s1) ∨ ∃ v k', k = k' + 1 ∧ r = some v ∧
      wpAny (model X.prog X.w) A2 (letOwnedTupleGo tg (.ref it) v) (fun _ s2 => wpAny (model X.prog X.w) A2 (assign tg ce v) (fun _ s3 =>
        wpAny (model X.prog X.w) A2 (eval elt ce) (fun y s4 => Pv k' y s4) (fun _ _ => False) s3) (fun _ _ => False) s2) (fun _ _ => False) s1) (fun _ _ => False) s' := by
      intro n s5 hJ
      rw [hJd] at hJ
      obtain ⟨i, H5, I5, st5, n5, w5⟩ := hJ
      rcases turn i n H5 w5 with ⟨stop, qq⟩ | ⟨go2, m', rfl, step⟩
      · have td := T.done (X.gnr s4 H3 ce A2 fp [(h'.objs.size, go)]) rfl rfl rfl hc i [] s5 _ H5 (fun _ _ => False) I5 (stat I5 n5) st5 stop
        exact thnF td fun r s6 ⟨hr, I6⟩ => .inl ⟨hr, .bl d, H5, back I6, rfl, qq⟩
      · have ti := T.item (X.gnr s4 H3 ce A2 fp [(h'.objs.size, go)]) rfl rfl rfl hc i [] s5 _ H5 (fun _ _ => False) I5 (stat I5 n5) st5 go2
        refine thnF ti fun r s6 ⟨u, hr, h6⟩ => .inr ⟨u, m', rfl, hr, ?_⟩
        refine thnF h6 fun _ s7 ⟨x, H7, I7, r7, y7, st7, n7⟩ => ?_
        have I7' := I7.pinned (stat I7 n7) (T.obj _ _ st7)
        refine thnF (pg.run _ s7 _ H7 x u _ I7' r7 (step x H7 y7)) fun _ s8 ⟨σ8, H8, I8, hw8, q8⟩ => ?_
        refine thnF (pe.run _ s8 σ8 H8 _ I8 q8) fun z s9 ⟨yv, H9, I9, r9, b, eb, bt, bf⟩ => ?_
        subst eb
        have ez : z = .bool b := r9
        subst ez
        rw [hPv]
        refine ⟨b, rfl, fun e => ?_, fun e => ⟨.bl (!d), H9, back (I9.unpinned (pins := [])), rfl, bf e⟩⟩
        have pin' : ∀ b ∈ fp, ∀ o, s7.heap.get? b = some o → s9.heap.get? b = some o ∧ H9 b = none := fun b hb o e =>
          let z := I9.pin (b, o) (List.mem_append_right _ (List.mem_append_right _ (mem_pinsAt hb e)))
          ⟨z.1, z.2.1⟩
        have hl : (L2.wipe σ (own.map (·.2))).length = σ8.length := by rw [← hw8, wipe_length]
        rw [hJd]
        refine ⟨i + 1, H9, (I9.unpinned (pins := [])).weak hl (fun j v e => ?_), T.keep _ _ _ st7 fun b hb o e => (pin' b hb o e).1, fun b hb => ?_, bt e⟩
        · rw [← hw8] at e
          exact (wipe_some e).1
        · obtain ⟨o, e, _⟩ := T.obj _ _ st7 b hb
          exact (pin' b hb o e).2
    have stab : StabJ h'.objs.size s4.gens.size Jd Pv (EP X pins σ Q (.bool d)) := by
      refine ⟨fun k s' hJ => ?_, fun k s' hJ => runJ k s' _ rfl hJ, fun k v s' x hb hP => ?_, fun s' h2 hk hE => setE _ s' _ h2 rfl hk hE⟩
      · rw [hJd] at hJ
        obtain ⟨i, H', I', _⟩ := hJ
        exact ⟨hgen s' (I'.pin (h'.objs.size, go) (List.mem_append_left _ (List.mem_singleton.mpr rfl))).1, I'.nolimit⟩
      · rw [hPv] at hP ⊢
        obtain ⟨b, e, a1, a2⟩ := hP
        exact ⟨b, e, fun z => runJ k s' x hb (a1 z), fun z => setE _ s' x s'.heap hb (fun _ _ z => z) (a2 z)⟩
    refine hR _ _ Jd Pv (EP X pins σ Q (.bool d)) (EP X pins σ Q (.bool (!d))) m0 _ stab (fun k v s' hP => by rw [hPv] at hP; exact hP) (fun _ z => z) (fun _ z => z) hJ0 ?_
    have hco : ce.scope.isCoroutine = false := by rw [← hce]; exact gsc.co
    refine asleep_fresh (Array.getElem?_push_size ..) (seg_startJ Jd Pv (EP X pins σ Q (.bool d)) (fun k s' hJ => ?_) (seg_loopJ Jd Pv (EP X pins σ Q (.bool d)) hco ?_))
    · have hJ2 := hJ
      rw [hJd] at hJ2
      obtain ⟨i, H', I', a1, _⟩ := hJ2
      exact T.self _ i s' _ _ a1 ⟨rfl, hJ⟩
    · show ∀ k s', Jd k s' → wpAny (model X.prog X.w) (gA X.A elt tg iter scope gpos (.ref it) ce) _ _ _ _
      subst hA2
      exact hturn
  cases hf : codeAmong gpos ps.toList with
  | some cv =>
    refine wpAny_genexprCode_hit hcode (hdC.code objP ht) hf (rest cv s2.heap s2.toks #[] (Heap.ExtBut.refl _ _) (Nat.le_refl _) ?_ ?_)
    · rw [Array.append_empty]
      exact objP
    · rw [Array.append_empty]
      exact ht
  | none =>
    refine wpAny_genexprCodeX hcode (hdC.code objP ht) (hdC.tab objP) hf fun c' h' tk ext ge lt co _ tb _ => ?_
    obtain ⟨_, _, _, _, _, _, _, _, _, _, _, _, _, _, _, _, _, _, _, tr, _⟩ := co
    exact rest _ h' tk _ ext (Nat.le_trans ge (Nat.le_of_lt lt)) tb.2 tr
end
/-! ### its computation -/
def W.bool? : W → Option Bool
  | .d (.bl b) => some b
  | _ => none
@[simp] theorem W.bool?_bl (b : Bool) : W.bool? (.d (.bl b)) = some b := rfl
theorem W.bool?_some {w : W} {b : Bool} (h : w.bool? = some b) : w = .d (.bl b) := by
  unfold W.bool? at h
  split at h <;> simp_all
def genLoop (d : Bool) (nxt : Nxt) (tg : XG) (e : XE) : Nat → Nat → Env → Sto → Re W
  | 0, _, _, _ => .stuck
  | n + 1, i, r, h => match nxt i h with
    | none => .stuck
    | some none => .ok (.d (.bl d)) h
    | some (some w) => match tg w r with
      | none => .stuck
      | some r1 => (e r1 h).noex.bind fun y h2 => match y.bool? with
        | none => .stuck
        | some b => if b = d then genLoop d nxt tg e n (i + 1) r h2 else .ok (.d (.bl (!d))) h2
def xGen (d : Bool) (src : XI) (tg : XG) (e : XE) (own : List Nat) : XE := fun r h => (src r h).bind fun p h1 => genLoop d p.2 tg e p.1 0 (wipeR r own) h1
section
variable {X : Cx} {g : G} {Z : WX} {pos : Pos} {H H' : Hp} {M M' : Mu} {fl : List Nat} {h : Sto} {σ : L2.St} {Q : VK} {r : Env}
theorem gen_walk {d : Bool} {nxt : Nxt} {J : It} {xg : XG} {xe : XE} {own : List Nat} {H1 H2 : Hp} {M1 : Mu} {h1 : Sto} {m0 : Nat} {E : Re W → Prop} {Z0 : WX} (rs : RS g H1 M1 σ r) (rh1 : RH g H1 M1 fl h1) (ok : ItOk g J nxt H1 M1)
    (p : E (genLoop d nxt xg xe m0 0 (wipeR r own) h1)) (st : ¬ E .stuck) (x2 : Ext H1 M1 H2 M1) (rh2 : RH g H2 M1 fl h1)
    (fin : ∀ b h2 H2 M2, Ext H1 M1 H2 M2 → RH g H2 M2 fl h2 → E (.ok (.d (.bl b)) h2) → Q (.bl b) H2) :
    ∃ W : Nat → Nat → Hp → Prop, (∃ m, W 0 m H2) ∧ ∀ i m H, W i m H →
      (J.stop i H ∧ Q (.bl d) H) ∨ (J.go i H ∧ ∃ m', m = m' + 1 ∧ ∀ x H', J.yld i H x H' → rdG g own xg x (L2.wipe σ own) H' fun σ2 H2 => L2.wipe σ2 own = L2.wipe σ own ∧ rdE g Z0 xe σ2 H2 fun y H4 => ∃ b : Bool, y = .bl b ∧ (b = d → W (i + 1) m' H4) ∧ (b = !d → Q (.bl (!d)) H4)) := by
  refine ⟨fun i m H' => ∃ h' M', Ext H1 M1 H' M' ∧ RH g H' M' fl h' ∧ E (genLoop d nxt xg xe m i (wipeR r own) h'), ⟨m0, h1, M1, x2, rh2, p⟩, ?_⟩
  rintro i m H' ⟨h', M', x', rh', p'⟩
  obtain ⟨s1, s2⟩ := ok fl i H' M' h' x' rh'
  have rs' : RS g H' M' (L2.wipe σ own) (wipeR r own) := (rs.mono x' rh1.sub).wipe own
  cases m with
  | zero => exact (st p').elim
  | succ m =>
    simp only [genLoop] at p'
    cases e : nxt i h' with
    | none => rw [e] at p'; exact (st p').elim
    | some o =>
      rw [e] at p'
      cases o with
      | none => exact .inl ⟨s1 e, fin d h' H' M' x' rh' p'⟩
      | some w =>
        obtain ⟨go, s3⟩ := s2 w e
        simp only at p'
        cases e2 : xg w (wipeR r own) with
        | none => rw [e2] at p'; exact (st p').elim
        | some r1 =>
          rw [e2] at p'
          simp only at p'
          refine .inr ⟨go, m, rfl, fun y H2 yd => ?_⟩
          obtain ⟨M2, x2, rh2, rw2⟩ := s3 y H2 yd
          refine ⟨wipeR r own, h', M2, fl, w, rs'.mono x2 rh'.sub, rh2, rw2, r1, e2, fun σ3 rs3 hw => ⟨hw.trans (wipe_idem own), ?_⟩⟩
          refine ⟨r1, h', M2, fl, rs3, rh2, ?_⟩
          cases e4 : xe r1 h' with
          | exc _ _ => rw [e4] at p'; exact (st p').elim
          | stuck => rw [e4] at p'; exact (st p').elim
          | ok z h4 =>
            rw [e4] at p'
            intro zv H4 M4 x4 rh4 rz
            have p' : E (match z.bool? with
              | none => .stuck
              | some b => if b = d then genLoop d nxt xg xe m (i + 1) (wipeR r own) h4 else .ok (.d (.bl (!d))) h4) := p'
            cases eb : z.bool? with
            | none => rw [eb] at p'; exact (st p').elim
            | some b =>
              rw [eb] at p'
              rw [W.bool?_some eb] at rz
              have ez : zv = .bl b := by
                cases rz with
                | d q => cases q; rfl
              subst ez
              have x5 := (x'.trans x2).trans x4
              refine ⟨b, rfl, fun q => ⟨h4, M4, x5, rh4, ?_⟩, fun q => ?_⟩
              · simp only [if_pos q] at p'
                exact p'
              · have nd : ¬ b = d := fun z => by
                  rw [z] at q
                  cases d <;> cases q
                simp only [if_neg nd] at p'
                exact fin _ h4 H4 M4 x5 rh4 p'
theorem rd_gen {c P : Addr} {d : Bool} {src : XI} {xg : XG} {xe : XE} {own : List (Str × Nat)} {Z0 : WX} (htb : (c, P) ∈ g.tb) (σ : L2.St) (H : Hp) (Q : VK) (q : rdE g Z (xGen d src xg xe (own.map (·.2))) σ H Q) :
    tGen d P (rdI g Z src) (rdG g (own.map (·.2)) xg) (rdE g Z0 xe) (own.map (·.2)) σ H Q := by
  obtain ⟨r, h, M, fl, rs, rh, p⟩ := q
  refine ⟨r, h, M, fl, rs, rh, Po.bind p fun a h1 J H1 M1 e1 rh1 ok1 p1 => ⟨rh1.tb _ htb, fun H2 T => ?_⟩⟩
  obtain ⟨x2, rh2⟩ := tab_ext rh1 ⟨c, htb⟩ T
  exact gen_walk (E := fun x => Po g Z σ fl (RW g) H1 M1 Q x) (rs.mono e1 rh.sub) rh1 ok1 p1 (fun z => z) x2 rh2 fun b h2 H2 M2 x2 rh2 p2 => p2 _ H2 M2 x2 rh2 (.d (.bl b))
theorem se_allG {c P : Addr} {elt tg iter : Expr} {p pos gpos : Pos} {sc : Scope} {own : List (Str × Nat)} {src : XI} {xg : XG} {xe : XE} {k : Nat} (hr : Room (k + 1) X.A) (hgd : X.A.guards = some []) (hgl : Gl X "all") (hm : X.mg "all" = none) (ht : (c, P) ∈ g.tb) (TB : GxR.TabB X.base X.mg c P)
    (hcode : X.env.code = .ref c) (gsc : GScp sc) (ok : BlkOk X.N X.env.scope sc own) (hc : X.calm = true) (hN : X.N.Nodup) (hi : PI X tg iter (rdI g Z src))
    (hg : ∀ (s : Shared) (H : Hp) (C : Addr) (cl : List (Str × Addr)) (code : Value) (A' : Around) (fp : List Addr) (pn : List (Addr × Obj)), PG (X.gnr s H (genEnv sc cl C code builtinsNs X.env) A' fp pn) tg (rdG g (own.map (·.2)) xg))
    (he : ∀ (s : Shared) (H : Hp) (C : Addr) (cl : List (Str × Addr)) (code : Value) (A' : Around) (fp : List Addr) (pn : List (Addr × Obj)), Room k A' → A'.guards = some [] → PE (X.gnr s H (genEnv sc cl C code builtinsNs X.env) A' fp pn) elt (rdE g (fun _ _ _ _ => False) xe))
    (hs : ∀ v, genFold iter X.env v = pure v := by intro _; rfl)
    (hse : starEach [.GeneratorExp elt [⟨tg, iter, [], 0⟩] sc gpos] X.env = (false, eval (.GeneratorExp elt [⟨tg, iter, [], 0⟩] sc gpos) X.env) :: starEach [] X.env := by rfl) :
    PE X (.Call (.Name "all" p) [.GeneratorExp elt [⟨tg, iter, [], 0⟩] sc gpos] [] pos) (rdE g Z (xGen true src xg xe (own.map (·.2)))) := by
  refine ⟨fun pins s σ H Q I q => ?_⟩
  refine wpAny_Call_Name_kw (ld_blt I hgl hm boot_all ?_)
  refine PyProof.Rows.callWith_builtin1 ?_ hse (by rfl)
  rw [hse]
  show wpAny _ _ (spliced ((false, eval (.GeneratorExp elt [⟨tg, iter, [], 0⟩] sc gpos) X.env) :: backTo pos (starEach [] X.env))) _ _ s
  refine Calls.spliced_cons (gen_any hr hgd TB hcode gsc ok hc hN hi hg he hs I (rd_gen ht σ H Q q) fun a gi J Pv Je Jf k' s' S hP hR hF hJ G => ?_)
  exact Calls.spliced_nil (call_all_J hr.hd hr.depth S hP hR hF hJ G)
theorem se_anyG {c P : Addr} {elt tg iter : Expr} {p pos gpos : Pos} {sc : Scope} {own : List (Str × Nat)} {src : XI} {xg : XG} {xe : XE} {k : Nat} (hr : Room (k + 1) X.A) (hgd : X.A.guards = some []) (hgl : Gl X "any") (hm : X.mg "any" = none) (ht : (c, P) ∈ g.tb) (TB : GxR.TabB X.base X.mg c P)
    (hcode : X.env.code = .ref c) (gsc : GScp sc) (ok : BlkOk X.N X.env.scope sc own) (hc : X.calm = true) (hN : X.N.Nodup) (hi : PI X tg iter (rdI g Z src))
    (hg : ∀ (s : Shared) (H : Hp) (C : Addr) (cl : List (Str × Addr)) (code : Value) (A' : Around) (fp : List Addr) (pn : List (Addr × Obj)), PG (X.gnr s H (genEnv sc cl C code builtinsNs X.env) A' fp pn) tg (rdG g (own.map (·.2)) xg))
    (he : ∀ (s : Shared) (H : Hp) (C : Addr) (cl : List (Str × Addr)) (code : Value) (A' : Around) (fp : List Addr) (pn : List (Addr × Obj)), Room k A' → A'.guards = some [] → PE (X.gnr s H (genEnv sc cl C code builtinsNs X.env) A' fp pn) elt (rdE g (fun _ _ _ _ => False) xe))
    (hs : ∀ v, genFold iter X.env v = pure v := by intro _; rfl)
    (hse : starEach [.GeneratorExp elt [⟨tg, iter, [], 0⟩] sc gpos] X.env = (false, eval (.GeneratorExp elt [⟨tg, iter, [], 0⟩] sc gpos) X.env) :: starEach [] X.env := by rfl) :
    PE X (.Call (.Name "any" p) [.GeneratorExp elt [⟨tg, iter, [], 0⟩] sc gpos] [] pos) (rdE g Z (xGen false src xg xe (own.map (·.2)))) := by
  refine ⟨fun pins s σ H Q I q => ?_⟩
  refine wpAny_Call_Name_kw (ld_blt I hgl hm boot_any ?_)
  refine PyProof.Rows.callWith_builtin1 ?_ hse (by rfl)
  rw [hse]
  show wpAny _ _ (spliced ((false, eval (.GeneratorExp elt [⟨tg, iter, [], 0⟩] sc gpos) X.env) :: backTo pos (starEach [] X.env))) _ _ s
  refine Calls.spliced_cons (gen_any hr hgd TB hcode gsc ok hc hN hi hg he hs I (rd_gen ht σ H Q q) fun a gi J Pv Je Jf k' s' S hP hR hF hJ G => ?_)
  exact Calls.spliced_nil (call_any_J hr.hd hr.depth S hP hR hF hJ G)
end
end
end Xs

/-! XsAU: list.count of texts. -/
namespace Xs
noncomputable section
open PySem PySem.Spec PyProof.Rows L2
section
variable {X : Cx} {g : G} {Z : WX} {H : Hp} {M : Mu} {fl : List Nat} {h : Sto}
theorem cnt_strs (k : Str) : ∀ {vs : List Value} {ys : List Str}, StrsAre vs ys → vs.countP (isStrOf k) = ys.countP (· == k)
  | _, _, .nil => rfl
  | _, _, .cons n t h => by
    rw [List.countP_cons, List.countP_cons, cnt_strs k h]
    rfl
def rCntS (K : PySem.W.Frag) : V → List V → Hp → VK → Prop := fun x xs H Q => ∃ (p : Addr) (zs : List Str) (k : Str), x = .ref p ∧ xs = [.str k] ∧ SqL K H p (zs.map V.str) ∧ Q (.int (zs.countP (· == k) : Nat)) H
theorem mt_countS : MtR X "list.count" (rCntS X.K) := by
  intro pins s σ H x xs v us Q I rx rxs h
  obtain ⟨p, ns, k, rfl, rfl, hs, q⟩ := h
  cases rx
  obtain ⟨u, rfl, ru⟩ := rxs.one
  obtain ⟨t, rfl⟩ := ru
  obtain ⟨its, rv, ⟨⟨cls, dd, data, sl⟩, n, ho, hc, hdn, hd⟩, hlen⟩ := I.list hs
  simp only at hc hd
  subst hc hd
  have hi := strs_of_vals rv
  refine call_meets PySem.F.slot_list_count ⟨_, ho, rfl⟩ PySem.F.entry_list_count (PySem.F.args_list_count_2 _ _)
    (SeqAt.list_countAt p its.toArray n dd sl (.str k t) (isStrOf k)) ⟨ho, fun y hy => (eq_isStrOf k t hi y (by simpa using hy)).at _ _, ?_⟩
  refine ⟨.int (ns.countP (· == k) : Nat), H, I.tok _, ⟨s.toks, ?_⟩, q⟩
  show Value.int ((its.toArray.toList.countP (isStrOf k) : Nat) : Int) s.toks = Value.int ((ns.countP (· == k) : Nat) : Int) s.toks
  rw [show its.toArray.toList = its from rfl, cnt_strs k hi]
@[simp] def fCountS (w : W) (as : List W) (h : Sto) : Re W := match as with
  | [z] => match ldOf h w, z.str? with
    | some ds, some k => match strsD ds with
      | some zs => .ok (.d (.int (zs.countP (· == k) : Nat))) h
      | none => .stuck
    | _, _ => .stuck
  | _ => .stuck
theorem m_countS : Mt X g Z "list.count" fCountS := ⟨_, mt_countS, fun {σ H M fl h v w vs ws Q} rh rw1 rws p => by
  cases ws with
  | nil => exact p.elim
  | cons z ws =>
    cases ws with
    | cons _ _ => exact p.elim
    | nil =>
      obtain ⟨zv, rfl, rz⟩ := rws.one
      simp only [fCountS] at p
      cases e1 : ldOf h w with
      | none => rw [e1] at p; exact p.elim
      | some ds =>
        cases e2 : z.str? with
        | none => rw [e1, e2] at p; exact p.elim
        | some k =>
          rw [e1, e2] at p
          simp only at p
          cases e3 : strsD ds with
          | none => rw [e3] at p; exact p.elim
          | some zs =>
            rw [e3] at p
            simp only at p
            rw [W.str?_some e2] at rz
            obtain ⟨rfl, hs⟩ := rz.str_inv
            obtain ⟨a, xs, rfl, hv, hd⟩ := ldOf_h rh rw1 e1
            rw [strsD_some e3] at hd
            obtain ⟨rfl, hz⟩ := RDs.strs hd
            exact ⟨a, zs, k, rfl, rfl, SqL.of hv, po_int rh p⟩⟩
end
end
end Xs

/-! XsAV: plain lemmas about all / any. -/
namespace Xs
noncomputable section
open PySem PySem.Spec PyProof.Rows L2
theorem gen_go {d : Bool} {tg : XG} {e : XE} {α : Type} {xs : List α} {inj : α → W} {p : α → Bool} {r : Env} {h : Sto}
    (step : ∀ x ∈ xs, ∃ r1, tg (inj x) r = some r1 ∧ e r1 h = .ok (.d (.bl (p x))) h) : ∀ (m i : Nat), i + m = xs.length → genLoop d (nL (xs.map inj)) tg e (m + 1) i r h = .ok (.d (.bl (((xs.drop i).all fun x => p x == d) == d))) h := by
  intro m
  induction m with
  | zero =>
    intro i hi
    have e1 : (xs.map inj)[i]? = none := by simp; omega
    have e2 : xs.drop i = [] := by simp; omega
    simp [genLoop, nL, e1, e2]
  | succ m ih =>
    intro i hi
    have hl : i < xs.length := by omega
    have e1 : (xs.map inj)[i]? = some (inj xs[i]) := by simp [hl]
    obtain ⟨r1, e3, e4⟩ := step xs[i] (List.getElem_mem hl)
    have e2 : xs.drop i = xs[i] :: xs.drop (i + 1) := List.drop_eq_getElem_cons hl
    rw [e2, genLoop]
    simp only [nL, e1, e3, e4, Re.noex, Re.bind, W.bool?]
    rw [List.all_cons]
    by_cases hp : p xs[i] = d
    · rw [if_pos hp]
      have := ih (i + 1) (by omega)
      refine this.trans ?_
      simp [hp]
    · rw [if_neg hp]
      have : (p xs[i] == d) = false := by simpa using hp
      rw [this, Bool.false_and]
      cases d <;> rfl
theorem gen_allL {tg : XG} {e : XE} {α : Type} {xs : List α} {inj : α → W} {p : α → Bool} {r : Env} {h : Sto}
    (step : ∀ x ∈ xs, ∃ r1, tg (inj x) r = some r1 ∧ e r1 h = .ok (.d (.bl (p x))) h) : genLoop true (nL (xs.map inj)) tg e (xs.length + 1) 0 r h = .ok (.d (.bl (xs.all p))) h := by
  rw [gen_go step xs.length 0 (by omega), List.drop_zero]
  have : (xs.all fun x => p x == true) = xs.all p := by
    congr 1
    funext x
    cases p x <;> rfl
  rw [this]
  cases xs.all p <;> rfl
theorem gen_anyL {tg : XG} {e : XE} {α : Type} {xs : List α} {inj : α → W} {p : α → Bool} {r : Env} {h : Sto}
    (step : ∀ x ∈ xs, ∃ r1, tg (inj x) r = some r1 ∧ e r1 h = .ok (.d (.bl (p x))) h) : genLoop false (nL (xs.map inj)) tg e (xs.length + 1) 0 r h = .ok (.d (.bl (xs.any p))) h := by
  rw [gen_go step xs.length 0 (by omega), List.drop_zero]
  have : (xs.all fun x => p x == false) = !xs.any p := by
    rw [List.not_any_eq_all_not]
    congr 1
    funext x
    cases p x <;> rfl
  rw [this]
  cases xs.any p <;> rfl
end
end Xs

namespace Lk03
noncomputable section
open PySem PySem.Spec PyProof.Rows L2 Xs
def top (i : Nat) : Stmt := PySem.Challenge.pw_remoteviews_k03_no_expressions.main.body.getD i (.Pass ⟨0, 0, 0, 0⟩)
theorem bt_ValueError : bootBuiltins "ValueError" = some (.type "ValueError") := by decide +kernel
theorem bt_all : bootBuiltins "all" = some (.builtin "all") := by decide +kernel
theorem bt_bool : bootBuiltins "bool" = some (.type "bool") := by decide +kernel
theorem bt_int : bootBuiltins "int" = some (.type "int") := by decide +kernel
theorem bt_isinstance : bootBuiltins "isinstance" = some (.builtin "isinstance") := by decide +kernel
theorem bt_len : bootBuiltins "len" = some (.builtin "len") := by decide +kernel
theorem bt_range : bootBuiltins "range" = some (.type "range") := by decide +kernel
theorem bt_str : bootBuiltins "str" = some (.type "str") := by decide +kernel
theorem bt_super : bootBuiltins "super" = some (.type "super") := by decide +kernel
theorem bt_tuple : bootBuiltins "tuple" = some (.type "tuple") := by decide +kernel
def D_ARGUMENTS : List (Str × D) := [("not", (.int 1)), ("size", (.int 1)), ("reverse", (.int 1)), ("add", (.int 2)), ("sub", (.int 2)), ("lt", (.int 2)), ("eq", (.int 2)), ("and", (.int 2)), ("concat", (.int 2)), ("has", (.int 2)), ("get", (.int 2)), ("remove", (.int 2)), ("take", (.int 2)), ("put", (.int 3)), ("cond", (.int 3)), ("resource", (.int 1))]
def D_WORDS : List (Str × D) := [("none", (.tup [(.str "none")])), ("true", (.tup [(.str "bool"), (.bl true)])), ("false", (.tup [(.str "bool"), (.bl false)]))]
def D_RESERVED : D := (.tup [(.str "none"), (.str "true"), (.str "false"), (.str "map"), (.str "inject"), (.str "not"), (.str "size"), (.str "reverse"), (.str "add"), (.str "sub"), (.str "lt"), (.str "eq"), (.str "and"), (.str "concat"), (.str "has"), (.str "get"), (.str "remove"), (.str "take"), (.str "put"), (.str "cond"), (.str "resource")])
def D_NONE : D := (.tup [(.str "none")])
def D_ESCAPES : List (Str × Str) := [("\"", "\""), ("\\", "\\"), ("n", "\n")]
def X_BadSigns : XE := (xFs [(xC (.str "no sign at offset ")), (xUn fFmt (xVar 1))])
abbrev st_BadSigns___init__ : Stmt := inClass (top 2) 0
theorem ns_BadSigns : NdefX.NScope [("self" : Str), "offset", ("__class__" : Str)] [("self" : Str), "offset"] [("__class__" : Str)] (defScope st_BadSigns___init__) := NdefX.nscope_by (by decide +kernel)
def sub_ViewError (c : Str) : Bool := decide (c = ("BadSigns" : Str)) || decide (c = ("BadExpression" : Str))
def is_BadExpression (c : Str) : Option Bool := if c = ("BadExpression" : Str) then some true else none
def is_ValueError (c : Str) : Option Bool := if c = ("BadSigns" : Str) then some true else if c = ("BadExpression" : Str) then some true else none
abbrev st_run_behind : Stmt := top 27
def l1_run_behind : XS := (sAug 1 fAddI (xC (.int 1)))
def b_run_behind : XS := (sSeq (sWhile 1000 (xAnd (xTest (xBin fLt (xVar 1) (xApp (f1 fLen) (xCons (xVar 0) xNil)))) (xTest (xBin (fInS false) (xBin fIx (xVar 0) (xVar 1)) (xC (.str "abcdefghijklmnopqrstuvwxyzABCDEFGHIJKLMNOPQRSTUVWXYZ0123456789"))))) l1_run_behind)
    (sRet (xVar 1)))
theorem sc_run_behind : FnScope ["line", "at"] ["line", "at"] (defScope st_run_behind) := ⟨rfl, rfl, rfl, by decide +kernel, rfl, by decide +kernel, by decide +kernel⟩
def F_run_behind : List W → Sto → Re W := fnI 2 2 b_run_behind
abbrev st_is_name : Stmt := top 14
def b_is_name : XS := (sSeq (sIf (xOr (xNot (xTest (xApp (f2 fIsi) (xCons (xVar 0) (xCons (xTy "str") xNil))))) (xOr (xNot (xTest (xChain fLe fLe (xC (.int 1)) (xApp (f1 fLen) (xCons (xVar 0) xNil)) (xC (.int 12))))) (xTest (xBin (fInS true) (xBin fIx (xVar 0) (xC (.int 0))) (xC (.str "abcdefghijklmnopqrstuvwxyz")))))) (sRet (xC (.bl false))) sSkip)
    (sRet (xAllT (fun c => ((Txt.contains "abcdefghijklmnopqrstuvwxyz" ⟨#[c]⟩) || (Txt.contains "0123456789" ⟨#[c]⟩))) (xVar 0))))
theorem sc_is_name : FnScope ["thing", "sign"] ["thing"] (defScope st_is_name) := ⟨rfl, rfl, rfl, by decide +kernel, rfl, by decide +kernel, by decide +kernel⟩
def F_is_name : List W → Sto → Re W := fnI 1 2 b_is_name
abbrev st_run_sign : Stmt := top 28
def b_run_sign : XS := (sSeq (sIf (xTest (xApp F_is_name (xCons (xVar 0) xNil))) (sRet (xApp mkTup (xCons (xC (.str "name")) (xCons (xVar 0) xNil)))) sSkip)
    (sSeq (sSet 2 (xAllT (fun c => (Txt.contains "0123456789" ⟨#[c]⟩)) (xVar 0)))
    (sSeq (sIf (xOr (xNot (xTest (xVar 2))) (xOr (xTest (xBin fGt (xApp (f1 fLen) (xCons (xVar 0) xNil)) (xC (.int 9)))) (xAnd (xTest (xBin fGt (xApp (f1 fLen) (xCons (xVar 0) xNil)) (xC (.int 1)))) (xTest (xBin fEq (xBin fIx (xVar 0) (xC (.int 0))) (xC (.str "0"))))))) (sRaise "BadSigns" "offset" X_BadSigns (xVar 1)) sSkip)
    (sRet (xApp mkTup (xCons (xC (.str "number")) (xCons (xApp (f1 fIntS) (xCons (xVar 0) xNil)) xNil)))))))
theorem sc_run_sign : FnScope ["run", "at", "digits", "sign"] ["run", "at"] (defScope st_run_sign) := ⟨rfl, rfl, rfl, by decide +kernel, rfl, by decide +kernel, by decide +kernel⟩
def F_run_sign : List W → Sto → Re W := fnI 2 4 b_run_sign
abbrev st_quoted_sign : Stmt := top 29
def l1_quoted_sign : XS := (sSeq (sSet 4 (xBin fIx (xVar 0) (xVar 3)))
    (sSeq (sIf (xTest (xBin fEq (xVar 4) (xC (.str "\"")))) (sRet (xApp mkTup (xCons (xApp mkTup (xCons (xC (.str "quoted")) (xCons (xVar 2) xNil))) (xCons (xBin fAddI (xVar 3) (xC (.int 1))) xNil)))) sSkip)
    (sSeq (sIf (xTest (xBin fEq (xVar 4) (xC (.str "\\")))) (sSeq (sAug 3 fAddI (xC (.int 1)))
    (sSet 4 (xKget D_ESCAPES (xSl (xVar 0) (xPart (xVar 3)) (xPart (xBin fAddI (xVar 3) (xC (.int 1)))))))) (sIf (xTest (xBin (fInS true) (xVar 4) (xC (.str " !\"#$&'()*+,-./0123456789:;<=>?@ABCDEFGHIJKLMNOPQRSTUVWXYZ[\\]^_`abcdefghijklmnopqrstuvwxyz{|}~")))) (sSet 4 (xC .non)) sSkip))
    (sSeq (sIf (xTest (xIsN false (xVar 4))) (sRaise "BadSigns" "offset" X_BadSigns (xVar 1)) sSkip)
    (sSeq (sSet 2 (xBin fAddS (xVar 2) (xVar 4)))
    (sAug 3 fAddI (xC (.int 1))))))))
def b_quoted_sign : XS := (sSeq (sSet 2 (xC (.str "")))
    (sSeq (sSet 3 (xBin fAddI (xVar 1) (xC (.int 1))))
    (sSeq (sWhile 1000 (xTest (xBin fLt (xVar 3) (xApp (f1 fLen) (xCons (xVar 0) xNil)))) l1_quoted_sign)
    (sRaise "BadSigns" "offset" X_BadSigns (xVar 1)))))
theorem sc_quoted_sign : FnScope ["line", "at", "text", "place", "sign"] ["line", "at"] (defScope st_quoted_sign) := ⟨rfl, rfl, rfl, by decide +kernel, rfl, by decide +kernel, by decide +kernel⟩
def F_quoted_sign : List W → Sto → Re W := fnI 2 5 b_quoted_sign
abbrev st_split_line : Stmt := top 30
def l1_split_line : XS := (sIf (xTest (xBin fEq (xBin fIx (xVar 0) (xVar 2)) (xC (.str " ")))) (sAug 2 fAddI (xC (.int 1))) (sIf (xTest (xBin (fInS false) (xBin fIx (xVar 0) (xVar 2)) (xC (.str "abcdefghijklmnopqrstuvwxyzABCDEFGHIJKLMNOPQRSTUVWXYZ0123456789")))) (sSeq (sSet 3 (xApp F_run_behind (xCons (xVar 0) (xCons (xVar 2) xNil))))
    (sSeq (sDrop (xBm "list" fAppend (xVar 1) (xCons (xApp F_run_sign (xCons (xSl (xVar 0) (xPart (xVar 2)) (xPart (xVar 3))) (xCons (xVar 2) xNil))) xNil)))
    (sSet 2 (xVar 3)))) (sIf (xTest (xBin fEq (xBin fIx (xVar 0) (xVar 2)) (xC (.str "\"")))) (sSeq (sAsg (gT 2 (gsCons (gN 4) (gsCons (gN 2) gsNil))) (xApp F_quoted_sign (xCons (xVar 0) (xCons (xVar 2) xNil))))
    (sDrop (xBm "list" fAppend (xVar 1) (xCons (xVar 4) xNil)))) (sIf (xTest (xBin (fInS false) (xBin fIx (xVar 0) (xVar 2)) (xC (.str "(),=")))) (sSeq (sDrop (xBm "list" fAppend (xVar 1) (xCons (xApp mkTup (xCons (xC (.str "mark")) (xCons (xBin fIx (xVar 0) (xVar 2)) xNil))) xNil)))
    (sAug 2 fAddI (xC (.int 1)))) (sRaise "BadSigns" "offset" X_BadSigns (xVar 2))))))
def b_split_line : XS := (sSeq (sSet 1 (xApp mkNew xNil))
    (sSeq (sSet 2 (xC (.int 0)))
    (sSeq (sWhile 1000 (xTest (xBin fLt (xVar 2) (xApp (f1 fLen) (xCons (xVar 0) xNil)))) l1_split_line)
    (sRet (xVar 1)))))
theorem sc_split_line : FnScope ["line", "signs", "at", "behind", "sign"] ["line"] (defScope st_split_line) := ⟨rfl, rfl, rfl, by decide +kernel, rfl, by decide +kernel, by decide +kernel⟩
def F_split_line : List W → Sto → Re W := fnI 1 5 b_split_line
abbrev st__law_cell : Stmt := top 47
def b__law_cell : XS := (sSeq (sIf (xTest (xBin fLt (xVar 1) (xApp (f1 fLen) (xCons (xVar 0) xNil)))) (sRet (xBin fIx (xVar 0) (xVar 1))) sSkip)
    (sRet (xC (.int 0))))
theorem sc__law_cell : FnScope ["_law_script", "_law_k"] ["_law_script", "_law_k"] (defScope st__law_cell) := ⟨rfl, rfl, rfl, by decide +kernel, rfl, by decide +kernel, by decide +kernel⟩
def F__law_cell : List W → Sto → Re W := fnI 2 2 b__law_cell
abbrev st__law_digits : Stmt := top 50
def l1__law_digits : XS := (sIf (xTest (xBin fGt (xVar 5) (xC (.int 0)))) (sSeq (sDrop (xBm "list" fAppend (xVar 3) (xCons (xBin fMod (xApp (f1 fInt) (xCons (xVar 5) xNil)) (xC (.int 1000))) xNil)))
    (sSet 5 (xBin fDiv (xVar 5) (xC (.int 1000))))) sSkip)
def l2__law_digits : XS := (sSeq (sSet 7 (xBin fMod (xApp (f1 fInt) (xCons (xBin fAddI (xBin fAddI (xBin fMul (xVar 7) (xC (.int 16807))) (xBin fMul (xC (.int 7)) (xVar 6))) (xC (.int 1))) xNil)) (xC (.int 2147483647))))
    (sDrop (xBm "list" fAppend (xVar 3) (xCons (xBin fMod (xApp (f1 fInt) (xCons (xBin fDiv (xVar 7) (xC (.int 997))) xNil)) (xC (.int 1000))) xNil))))
def l3__law_digits : XS := (sSeq (sSet 5 (xApp F__law_cell (xCons (xVar 0) (xCons (xVar 4) xNil))))
    (sSeq (sIf (xTest (xBin fLt (xVar 5) (xC (.int 0)))) (sSet 5 (xBin fSub (xC (.int 1)) (xBin fMul (xC (.int 2)) (xVar 5)))) sSkip)
    (sIf (xTest (xBin fGe (xVar 5) (xBin fPow (xC (.int 10)) (xC (.int 18))))) (sFor (iRange1 (xCons (xC (.int 60)) xNil)) (gN 6) l1__law_digits) (sSeq (sSet 7 (xBin fMod (xApp (f1 fInt) (xCons (xBin fAddI (xBin fAddI (xBin fMul (xVar 5) (xC (.int 48271))) (xBin fMul (xVar 4) (xC (.int 69621)))) (xC (.int 11))) xNil)) (xC (.int 2147483647))))
    (sFor (iRange1 (xCons (xC (.int 12)) xNil)) (gN 6) l2__law_digits)))))
def b__law_digits : XS := (sSeq (sSet 3 (xApp mkNew xNil))
    (sSeq (sFor (iRange2 (xCons (xVar 1) (xCons (xVar 2) xNil))) (gN 4) l3__law_digits)
    (sRet (xVar 3))))
theorem sc__law_digits : FnScope ["_law_script", "_law_first", "_law_last", "_law_digits_here", "_law_k", "_law_cell_here", "_law_turn", "_law_seed"] ["_law_script", "_law_first", "_law_last"] (defScope st__law_digits) := ⟨rfl, rfl, rfl, by decide +kernel, rfl, by decide +kernel, by decide +kernel⟩
def F__law_digits : List W → Sto → Re W := fnI 3 8 b__law_digits
abbrev st__law_calls : Stmt := top 54
def b__law_calls : XS := (sSeq (sSet 1 (xC (.str "cond(a, add(1, 2), put(m, k, 1))")))
    (sSeq (sIf (xTest (xBin fEq (xVar 0) (xC (.int 10)))) (sRet (xBin fAddS (xBin fAddS (xBin fAddS (xBin fAddS (xC (.str "and(eq(")) (xVar 1)) (xC (.str ", "))) (xVar 1)) (xC (.str "), and(not(a), b))")))) sSkip)
    (sRet (xBin fAddS (xBin fAddS (xBin fAddS (xBin fAddS (xC (.str "and(eq(")) (xVar 1)) (xC (.str ", "))) (xVar 1)) (xC (.str "), and(not(a), not(b)))"))))))
theorem sc__law_calls : FnScope ["_law_many", "_law_text"] ["_law_many"] (defScope st__law_calls) := ⟨rfl, rfl, rfl, by decide +kernel, rfl, by decide +kernel, by decide +kernel⟩
def F__law_calls : List W → Sto → Re W := fnI 1 2 b__law_calls
abbrev st__law_wrong : Stmt := top 52
def b__law_wrong : XS := (sSeq (sSet 0 (xApp mkLst (xCons (xC (.str "")) (xCons (xC (.str "(a)")) (xCons (xC (.str ")")) (xCons (xC (.str ",")) (xCons (xC (.str "=")) (xCons (xC (.str "add(a)")) (xCons (xC (.str "add(a, b,)")) (xCons (xC (.str "add(a, b, c)")) (xCons (xC (.str "add(, b)")) (xCons (xC (.str "add a")) (xCons (xC (.str "add")) (xCons (xC (.str "not")) (xCons (xC (.str "not()")) (xCons (xC (.str "not(a")) (xCons (xC (.str "size()")) xNil)))))))))))))))))
    (sSeq (sSet 0 (xBin fAddL (xVar 0) (xApp mkLst (xCons (xC (.str "1000000")) (xCons (xC (.str "999999999")) (xCons (xC (.str "map")) (xCons (xC (.str "map(")) (xCons (xC (.str "map(a, 1)")) (xCons (xC (.str "map(\"a\")")) (xCons (xC (.str "map(\"a\", 1")) (xCons (xC (.str "map(\"a\", 1,)")) (xCons (xC (.str "map(\"a\" 1)")) (xCons (xC (.str "map(\"\", 1)")) xNil)))))))))))))
    (sSeq (sSet 0 (xBin fAddL (xVar 0) (xApp mkLst (xCons (xC (.str "map(\"a\", 1, \"a\", 2)")) (xCons (xC (.str "map(\"a\", n)")) (xCons (xC (.str "map(\"a\", map())")) (xCons (xC (.str "map(\"abcdefghijklm\", 1)")) (xCons (xC (.str "map(\"a\\n\", 1)")) (xCons (xBin fAddS (xBin fAddS (xC (.str "\"")) (xBin fMulS (xC (.str "a")) (xC (.int 41)))) (xC (.str "\""))) (xCons (xC (.str "\"a\\n\"")) xNil))))))))))
    (sSeq (sSet 0 (xBin fAddL (xVar 0) (xApp mkLst (xCons (xC (.str "inject")) (xCons (xC (.str "inject(a)")) (xCons (xC (.str "inject(none, 1)")) (xCons (xC (.str "inject(add, 1)")) (xCons (xC (.str "inject(a, )")) (xCons (xC (.str "inject(\"a\", 1)")) (xCons (xC (.str "inject(a 1)")) (xCons (xC (.str "cond(a, b)")) (xCons (xC (.str "resource()")) xNil))))))))))))
    (sSeq (sSet 0 (xBin fAddL (xVar 0) (xApp mkLst (xCons (xC (.str "inject(inject, 1)")) (xCons (xC (.str "put(m, k)")) (xCons (xC (.str "map(\"a\", 1000000)")) (xCons (xBin fAddS (xBin fAddS (xC (.str "map(")) (xBm "str" fJoin (xC (.str ", ")) (xCons (xLc (iRange1 (xCons (xC (.int 9)) xNil)) (gN 1) xYes (xBin fAddS (xBin fAddS (xC (.str "\"k")) (xApp (f1 fStr) (xCons (xVar 1) xNil))) (xC (.str "\", 1"))) [1]) xNil))) (xC (.str ")"))) xNil)))))))
    (sRet (xBin fAddL (xVar 0) (xSl (xApp mkLst (xCons (xBin fAddS (xBin fAddS (xBin fMulS (xC (.str "not(")) (xC (.int 6))) (xC (.str "a"))) (xBin fMulS (xC (.str ")")) (xC (.int 6)))) (xCons (xBin fAddS (xBin fAddS (xBin fMulS (xC (.str "inject(a, ")) (xC (.int 6))) (xC (.str "a"))) (xBin fMulS (xC (.str ")")) (xC (.int 6)))) (xCons (xC (.str "and(a)")) (xCons (xC (.str "eq(a, add)")) (xCons (xC (.str "true(a)")) xNil)))))) xNo (xPart (xC (.int 4)))))))))))
theorem sc__law_wrong : FnScope ["_law_rows", "_law_k"] [] (defScope st__law_wrong) := ⟨rfl, rfl, rfl, by decide +kernel, rfl, by decide +kernel, by decide +kernel⟩
def F__law_wrong : List W → Sto → Re W := fnI 0 2 b__law_wrong
abbrev st_Reading___init__ : Stmt := inClass (top 37) 0
def b_Reading___init__ : XS := (sSeq (sSetF "Reading" "signs" (xVar 0) (xVar 1))
    (sSeq (sSetF "Reading" "at" (xVar 0) (xVar 2))
    (sSetF "Reading" "calls" (xVar 0) (xC (.int 0)))))
theorem sc_Reading___init__ : FnScope ["self", "signs", "at"] ["self", "signs", "at"] (defScope st_Reading___init__) := ⟨rfl, rfl, rfl, by decide +kernel, rfl, by decide +kernel, by decide +kernel⟩
def F_Reading___init__ : List W → Sto → Re W := fnA 3 3 b_Reading___init__
abbrev st_Reading_sign : Stmt := inClass (top 37) 1
def b_Reading_sign : XS := (sRet (xIf (xTest (xBin fLt (xUn (fFld "Reading" "at") (xVar 0)) (xApp (f1 fLen) (xCons (xUn (fFld "Reading" "signs") (xVar 0)) xNil)))) (xBin fIx (xUn (fFld "Reading" "signs") (xVar 0)) (xUn (fFld "Reading" "at") (xVar 0))) (xApp mkTup (xCons (xC (.str "end")) (xCons (xC (.str "")) xNil)))))
theorem sc_Reading_sign : FnScope ["self"] ["self"] (defScope st_Reading_sign) := ⟨rfl, rfl, rfl, by decide +kernel, rfl, by decide +kernel, by decide +kernel⟩
def F_Reading_sign : List W → Sto → Re W := fnT 1 1 true b_Reading_sign
abbrev st_Reading_take : Stmt := inClass (top 37) 2
def b_Reading_take : XS := (sSeq (sSet 1 (xMeth "Reading" "sign" F_Reading_sign (xVar 0) xNil))
    (sSeq (sAugF "Reading" "at" fAddI (xVar 0) (xC (.int 1)))
    (sRet (xVar 1))))
theorem sc_Reading_take : FnScope ["self", "sign"] ["self"] (defScope st_Reading_take) := ⟨rfl, rfl, rfl, by decide +kernel, rfl, by decide +kernel, by decide +kernel⟩
def F_Reading_take : List W → Sto → Re W := fnT 1 2 true b_Reading_take
abbrev st_is_number : Stmt := top 17
def b_is_number : XS := (sRet (xAndV (xApp (f2 fIsi) (xCons (xVar 0) (xCons (xTy "int") xNil))) (xAndV (xNotV (xApp (f2 fIsi) (xCons (xVar 0) (xCons (xTy "bool") xNil)))) (xChain fLe fLe (xC (.int 0)) (xVar 0) (xVar 1)))))
theorem sc_is_number : FnScope ["thing", "most"] ["thing", "most"] (defScope st_is_number) := ⟨rfl, rfl, rfl, by decide +kernel, rfl, by decide +kernel, by decide +kernel⟩
def F_is_number : List W → Sto → Re W := fnI 2 2 b_is_number
abbrev st_is_text : Stmt := top 15
def b_is_text : XS := (sSeq (sIf (xOr (xNot (xTest (xApp (f2 fIsi) (xCons (xVar 0) (xCons (xTy "str") xNil))))) (xNot (xTest (xChain fLe fLe (xVar 1) (xApp (f1 fLen) (xCons (xVar 0) xNil)) (xVar 2))))) (sRet (xC (.bl false))) sSkip)
    (sRet (xAllT (fun c => (Txt.contains " !\"#$&'()*+,-./0123456789:;<=>?@ABCDEFGHIJKLMNOPQRSTUVWXYZ[\\]^_`abcdefghijklmnopqrstuvwxyz{|}~" ⟨#[c]⟩)) (xVar 0))))
theorem sc_is_text : FnScope ["thing", "least", "most", "sign"] ["thing", "least", "most"] (defScope st_is_text) := ⟨rfl, rfl, rfl, by decide +kernel, rfl, by decide +kernel, by decide +kernel⟩
def F_is_text : List W → Sto → Re W := fnI 3 4 b_is_text
abbrev st_is_scalar : Stmt := top 18
def b_is_scalar : XS := (sSeq (sIf (xTest (xBin fEq (xVar 0) (xC D_NONE))) (sRet (xC (.bl true))) sSkip)
    (sSeq (sIf (xOr (xNot (xTest (xApp (f2 fIsi) (xCons (xVar 0) (xCons (xTy "tuple") xNil))))) (xTest (xBin fNe (xApp (f1 fLen) (xCons (xVar 0) xNil)) (xC (.int 2))))) (sRet (xC (.bl false))) sSkip)
    (sSeq (sIf (xTest (xBin fEq (xBin fIx (xVar 0) (xC (.int 0))) (xC (.str "bool")))) (sRet (xApp (f2 fIsi) (xCons (xBin fIx (xVar 0) (xC (.int 1))) (xCons (xTy "bool") xNil)))) sSkip)
    (sSeq (sIf (xTest (xBin fEq (xBin fIx (xVar 0) (xC (.int 0))) (xC (.str "int")))) (sRet (xApp F_is_number (xCons (xBin fIx (xVar 0) (xC (.int 1))) (xCons (xC (.int 999999)) xNil)))) sSkip)
    (sRet (xAndV (xBin fEq (xBin fIx (xVar 0) (xC (.int 0))) (xC (.str "text"))) (xApp F_is_text (xCons (xBin fIx (xVar 0) (xC (.int 1))) (xCons (xC (.int 0)) (xCons (xC (.int 40)) xNil))))))))))
theorem sc_is_scalar : FnScope ["thing"] ["thing"] (defScope st_is_scalar) := ⟨rfl, rfl, rfl, by decide +kernel, rfl, by decide +kernel, by decide +kernel⟩
def F_is_scalar : List W → Sto → Re W := fnI 1 1 b_is_scalar
abbrev st_scalar_of : Stmt := top 38
def b_scalar_of : XS := (sSeq (sAsg (gT 2 (gsCons (gN 1) (gsCons (gN 2) gsNil))) (xVar 0))
    (sSeq (sSet 3 (xC .non))
    (sSeq (sIf (xTest (xBin fEq (xVar 1) (xC (.str "name")))) (sSet 3 (xKgetD D_WORDS (xVar 2))) (sIf (xTest (xBin fEq (xVar 1) (xC (.str "number")))) (sSet 3 (xApp mkTup (xCons (xC (.str "int")) (xCons (xVar 2) xNil)))) (sIf (xTest (xBin fEq (xVar 1) (xC (.str "quoted")))) (sSet 3 (xApp mkTup (xCons (xC (.str "text")) (xCons (xVar 2) xNil)))) sSkip)))
    (sRet (xIf (xAnd (xTest (xIsN true (xVar 3))) (xTest (xApp F_is_scalar (xCons (xVar 3) xNil)))) (xVar 3) (xC .non))))))
theorem sc_scalar_of : FnScope ["sign", "kind", "value", "found"] ["sign"] (defScope st_scalar_of) := ⟨rfl, rfl, rfl, by decide +kernel, rfl, by decide +kernel, by decide +kernel⟩
def F_scalar_of : List W → Sto → Re W := fnI 1 4 b_scalar_of
abbrev st_read_scalar : Stmt := top 39
def b_read_scalar : XS := (sSeq (sSet 1 (xApp F_scalar_of (xCons (xMeth "Reading" "take" F_Reading_take (xVar 0) xNil) xNil)))
    (sSeq (sIf (xTest (xIsN false (xVar 1))) (sRaise0 "BadExpression") sSkip)
    (sRet (xVar 1))))
theorem sc_read_scalar : FnScope ["reading", "scalar"] ["reading"] (defScope st_read_scalar) := ⟨rfl, rfl, rfl, by decide +kernel, rfl, by decide +kernel, by decide +kernel⟩
def F_read_scalar : List W → Sto → Re W := fnT 1 2 true b_read_scalar
abbrev st_Reading_call : Stmt := inClass (top 37) 5
def b_Reading_call : XS := (sSeq (sAugF "Reading" "calls" fAddI (xVar 0) (xC (.int 1)))
    (sIf (xOr (xTest (xBin fGe (xVar 1) (xC (.int 5)))) (xTest (xBin fGt (xUn (fFld "Reading" "calls") (xVar 0)) (xC (.int 10))))) (sRaise0 "BadExpression") sSkip))
theorem sc_Reading_call : FnScope ["self", "depth"] ["self", "depth"] (defScope st_Reading_call) := ⟨rfl, rfl, rfl, by decide +kernel, rfl, by decide +kernel, by decide +kernel⟩
def F_Reading_call : List W → Sto → Re W := fnT 2 2 true b_Reading_call
abbrev st_Reading_expect : Stmt := inClass (top 37) 3
def b_Reading_expect : XS := (sIf (xTest (xBin fNe (xMeth "Reading" "take" F_Reading_take (xVar 0) xNil) (xApp mkTup (xCons (xC (.str "mark")) (xCons (xVar 1) xNil))))) (sRaise0 "BadExpression") sSkip)
theorem sc_Reading_expect : FnScope ["self", "mark"] ["self", "mark"] (defScope st_Reading_expect) := ⟨rfl, rfl, rfl, by decide +kernel, rfl, by decide +kernel, by decide +kernel⟩
def F_Reading_expect : List W → Sto → Re W := fnT 2 2 true b_Reading_expect
abbrev st_Reading_passed : Stmt := inClass (top 37) 4
def b_Reading_passed : XS := (sSeq (sIf (xTest (xBin fEq (xMeth "Reading" "sign" F_Reading_sign (xVar 0) xNil) (xApp mkTup (xCons (xC (.str "mark")) (xCons (xVar 1) xNil))))) (sSeq (sAugF "Reading" "at" fAddI (xVar 0) (xC (.int 1)))
    (sRet (xC (.bl true)))) sSkip)
    (sRet (xC (.bl false))))
theorem sc_Reading_passed : FnScope ["self", "mark"] ["self", "mark"] (defScope st_Reading_passed) := ⟨rfl, rfl, rfl, by decide +kernel, rfl, by decide +kernel, by decide +kernel⟩
def F_Reading_passed : List W → Sto → Re W := fnT 2 2 true b_Reading_passed
abbrev st_is_key : Stmt := top 16
def b_is_key : XS := (sRet (xApp F_is_text (xCons (xVar 0) (xCons (xC (.int 1)) (xCons (xC (.int 12)) xNil)))))
theorem sc_is_key : FnScope ["thing"] ["thing"] (defScope st_is_key) := ⟨rfl, rfl, rfl, by decide +kernel, rfl, by decide +kernel, by decide +kernel⟩
def F_is_key : List W → Sto → Re W := fnI 1 1 b_is_key
abbrev st_is_entry : Stmt := top 19
def b_is_entry : XS := (sRet (xAndV (xApp (f2 fIsi) (xCons (xVar 0) (xCons (xTy "tuple") xNil))) (xAndV (xBin fEq (xApp (f1 fLen) (xCons (xVar 0) xNil)) (xC (.int 2))) (xAndV (xApp F_is_key (xCons (xBin fIx (xVar 0) (xC (.int 0))) xNil)) (xApp F_is_scalar (xCons (xBin fIx (xVar 0) (xC (.int 1))) xNil))))))
theorem sc_is_entry : FnScope ["thing"] ["thing"] (defScope st_is_entry) := ⟨rfl, rfl, rfl, by decide +kernel, rfl, by decide +kernel, by decide +kernel⟩
def F_is_entry : List W → Sto → Re W := fnI 1 1 b_is_entry
abbrev st_is_value : Stmt := top 20
def b_is_value : XS := (sSeq (sIf (xOr (xNot (xTest (xApp (f2 fIsi) (xCons (xVar 0) (xCons (xTy "tuple") xNil))))) (xOr (xTest (xBin fNe (xApp (f1 fLen) (xCons (xVar 0) xNil)) (xC (.int 2)))) (xTest (xBin fNe (xBin fIx (xVar 0) (xC (.int 0))) (xC (.str "map")))))) (sRet (xApp F_is_scalar (xCons (xVar 0) xNil))) sSkip)
    (sSeq (sSet 1 (xBin fIx (xVar 0) (xC (.int 1))))
    (sSeq (sIf (xOr (xNot (xTest (xApp (f2 fIsi) (xCons (xVar 1) (xCons (xTy "tuple") xNil))))) (xOr (xTest (xBin fGt (xApp (f1 fLen) (xCons (xVar 1) xNil)) (xC (.int 8)))) (xNot (xTest (xGen true (iSeq (xVar 1)) (gN 3) (xApp F_is_entry (xCons (xVar 3) xNil)) [3]))))) (sRet (xC (.bl false))) sSkip)
    (sSeq (sSet 2 (xLc (iSeq (xVar 1)) (gN 3) xYes (xBin fIx (xVar 3) (xC (.int 0))) [3]))
    (sRet (xGen true (iSeq (xVar 2)) (gN 4) (xBin fEq (xBm "list" fCountS (xVar 2) (xCons (xVar 4) xNil)) (xC (.int 1))) [4]))))))
theorem sc_is_value : FnScope ["thing", "entries", "keys", "entry", "key"] ["thing"] (defScope st_is_value) := ⟨rfl, rfl, rfl, by decide +kernel, rfl, by decide +kernel, by decide +kernel⟩
def F_is_value : List W → Sto → Re W := fnI 1 5 b_is_value
abbrev st_read_map : Stmt := top 40
def l1_read_map : XS := (sSeq (sAsg (gT 2 (gsCons (gN 2) (gsCons (gN 3) gsNil))) (xMeth "Reading" "take" F_Reading_take (xVar 0) xNil))
    (sSeq (sIf (xOr (xTest (xBin fNe (xVar 2) (xC (.str "quoted")))) (xNot (xTest (xApp F_is_key (xCons (xVar 3) xNil))))) (sRaise0 "BadExpression") sSkip)
    (sSeq (sDrop (xMeth "Reading" "expect" F_Reading_expect (xVar 0) (xCons (xC (.str ",")) xNil)))
    (sSeq (sDrop (xBm "list" fAppend (xVar 1) (xCons (xApp mkTup (xCons (xVar 3) (xCons (xApp F_read_scalar (xCons (xVar 0) xNil)) xNil))) xNil)))
    (sIf (xNot (xTest (xMeth "Reading" "passed" F_Reading_passed (xVar 0) (xCons (xC (.str ",")) xNil)))) sBrk sSkip)))))
def b_read_map : XS := (sSeq (sSet 1 (xApp mkNew xNil))
    (sSeq (sDrop (xMeth "Reading" "expect" F_Reading_expect (xVar 0) (xCons (xC (.str "(")) xNil)))
    (sSeq (sIf (xNot (xTest (xMeth "Reading" "passed" F_Reading_passed (xVar 0) (xCons (xC (.str ")")) xNil)))) (sSeq (sWhile 1000 (xTest (xC (.bl true))) l1_read_map)
    (sDrop (xMeth "Reading" "expect" F_Reading_expect (xVar 0) (xCons (xC (.str ")")) xNil)))) sSkip)
    (sSeq (sSet 4 (xApp mkTup (xCons (xC (.str "map")) (xCons (xApp (f1 fTuple) (xCons (xVar 1) xNil)) xNil))))
    (sSeq (sIf (xNot (xTest (xApp F_is_value (xCons (xVar 4) xNil)))) (sRaise0 "BadExpression") sSkip)
    (sRet (xVar 4)))))))
theorem sc_read_map : FnScope ["reading", "entries", "kind", "key", "value"] ["reading"] (defScope st_read_map) := ⟨rfl, rfl, rfl, by decide +kernel, rfl, by decide +kernel, by decide +kernel⟩
def F_read_map : List W → Sto → Re W := fnT 1 5 true b_read_map
abbrev st_read_inject : Stmt := top 42
def b_read_inject (c_read_inject c_read_arguments c_read_next : List W → Sto → Re W) : XS := (sSeq (sDrop (xMeth "Reading" "expect" F_Reading_expect (xVar 0) (xCons (xC (.str "(")) xNil)))
    (sSeq (sAsg (gT 2 (gsCons (gN 2) (gsCons (gN 3) gsNil))) (xMeth "Reading" "take" F_Reading_take (xVar 0) xNil))
    (sSeq (sIf (xOr (xTest (xBin fNe (xVar 2) (xC (.str "name")))) (xTest (xBin (fInL false) (xVar 3) (xC D_RESERVED)))) (sRaise0 "BadExpression") sSkip)
    (sSeq (sDrop (xMeth "Reading" "expect" F_Reading_expect (xVar 0) (xCons (xC (.str ",")) xNil)))
    (sSeq (sSet 4 (xApp c_read_next (xCons (xVar 0) (xCons (xBin fAddI (xVar 1) (xC (.int 1))) xNil))))
    (sSeq (sDrop (xMeth "Reading" "expect" F_Reading_expect (xVar 0) (xCons (xC (.str ")")) xNil)))
    (sRet (xApp mkTup (xCons (xC (.str "inject")) (xCons (xVar 3) (xCons (xVar 4) xNil)))))))))))
theorem sc_read_inject : FnScope ["reading", "depth", "kind", "name", "inner"] ["reading", "depth"] (defScope st_read_inject) := ⟨rfl, rfl, rfl, by decide +kernel, rfl, by decide +kernel, by decide +kernel⟩
abbrev st_read_arguments : Stmt := top 41
def l1_read_arguments (c_read_inject c_read_arguments c_read_next : List W → Sto → Re W) : XS := (sSeq (sIf (xTest (xBin fGt (xVar 4) (xC (.int 0)))) (sDrop (xMeth "Reading" "expect" F_Reading_expect (xVar 0) (xCons (xC (.str ",")) xNil))) sSkip)
    (sDrop (xBm "list" fAppend (xVar 3) (xCons (xApp c_read_next (xCons (xVar 0) (xCons (xBin fAddI (xVar 2) (xC (.int 1))) xNil))) xNil))))
def b_read_arguments (c_read_inject c_read_arguments c_read_next : List W → Sto → Re W) : XS := (sSeq (sSet 3 (xApp mkNew xNil))
    (sSeq (sDrop (xMeth "Reading" "expect" F_Reading_expect (xVar 0) (xCons (xC (.str "(")) xNil)))
    (sSeq (sFor (iRange1 (xCons (xVar 1) xNil)) (gN 4) (l1_read_arguments c_read_inject c_read_arguments c_read_next))
    (sSeq (sDrop (xMeth "Reading" "expect" F_Reading_expect (xVar 0) (xCons (xC (.str ")")) xNil)))
    (sRet (xApp (f1 fTuple) (xCons (xVar 3) xNil)))))))
theorem sc_read_arguments : FnScope ["reading", "many", "depth", "found", "at"] ["reading", "many", "depth"] (defScope st_read_arguments) := ⟨rfl, rfl, rfl, by decide +kernel, rfl, by decide +kernel, by decide +kernel⟩
abbrev st_read_next : Stmt := top 43
def b_read_next (c_read_inject c_read_arguments c_read_next : List W → Sto → Re W) : XS := (sSeq (sAsg (gT 2 (gsCons (gN 2) (gsCons (gN 3) gsNil))) (xMeth "Reading" "sign" F_Reading_sign (xVar 0) xNil))
    (sSeq (sIf (xAnd (xTest (xBin fEq (xVar 2) (xC (.str "name")))) (xTest (xKin true D_WORDS (xVar 3)))) (sSeq (sDrop (xMeth "Reading" "take" F_Reading_take (xVar 0) xNil))
    (sSeq (sIf (xTest (xBin fEq (xVar 3) (xC (.str "map")))) (sRet (xApp mkTup (xCons (xC (.str "literal")) (xCons (xApp F_read_map (xCons (xVar 0) xNil)) xNil)))) sSkip)
    (sSeq (sIf (xTest (xBin fEq (xVar 3) (xC (.str "inject")))) (sSeq (sDrop (xMeth "Reading" "call" F_Reading_call (xVar 0) (xCons (xVar 1) xNil)))
    (sRet (xApp c_read_inject (xCons (xVar 0) (xCons (xVar 1) xNil))))) sSkip)
    (sSeq (sIf (xTest (xKin false D_ARGUMENTS (xVar 3))) (sSeq (sDrop (xMeth "Reading" "call" F_Reading_call (xVar 0) (xCons (xVar 1) xNil)))
    (sRet (xApp mkTup (xCons (xC (.str "call")) (xCons (xVar 3) (xCons (xApp c_read_arguments (xCons (xVar 0) (xCons (xKixD D_ARGUMENTS (xVar 3)) (xCons (xVar 1) xNil)))) xNil)))))) sSkip)
    (sRet (xApp mkTup (xCons (xC (.str "variable")) (xCons (xVar 3) xNil)))))))) sSkip)
    (sRet (xApp mkTup (xCons (xC (.str "literal")) (xCons (xApp F_read_scalar (xCons (xVar 0) xNil)) xNil))))))
theorem sc_read_next : FnScope ["reading", "depth", "kind", "value"] ["reading", "depth"] (defScope st_read_next) := ⟨rfl, rfl, rfl, by decide +kernel, rfl, by decide +kernel, by decide +kernel⟩
def FF_read_inject : Nat → Nat → List W → Sto → Re W
  | 0, _ => fun _ _ => .stuck
  | n + 1, 0 => fnT 2 5 true (b_read_inject (FF_read_inject n 0) (FF_read_inject n 1) (FF_read_inject n 2))
  | n + 1, 1 => fnT 3 5 true (b_read_arguments (FF_read_inject n 0) (FF_read_inject n 1) (FF_read_inject n 2))
  | n + 1, _ => fnT 2 4 true (b_read_next (FF_read_inject n 0) (FF_read_inject n 1) (FF_read_inject n 2))
abbrev F_read_inject (n : Nat) : List W → Sto → Re W := FF_read_inject n 0
abbrev F_read_arguments (n : Nat) : List W → Sto → Re W := FF_read_inject n 1
abbrev F_read_next (n : Nat) : List W → Sto → Re W := FF_read_inject n 2
theorem F_read_inject_succ (n : Nat) : F_read_inject (n + 1) = fnT 2 5 true (b_read_inject (F_read_inject n) (F_read_arguments n) (F_read_next n)) := rfl
theorem F_read_arguments_succ (n : Nat) : F_read_arguments (n + 1) = fnT 3 5 true (b_read_arguments (F_read_inject n) (F_read_arguments n) (F_read_next n)) := rfl
theorem F_read_next_succ (n : Nat) : F_read_next (n + 1) = fnT 2 4 true (b_read_next (F_read_inject n) (F_read_arguments n) (F_read_next n)) := rfl
abbrev st_read_expression : Stmt := top 44
def b_read_expression : XS := (sSeq (sSet 2 (xMake "Reading" F_Reading___init__ (xCons (xVar 0) (xCons (xVar 1) xNil))))
    (sSeq (sSet 3 (xApp (F_read_next 20) (xCons (xVar 2) (xCons (xC (.int 0)) xNil))))
    (sRet (xApp mkTup (xCons (xVar 3) (xCons (xUn (fFld "Reading" "at") (xVar 2)) xNil))))))
theorem sc_read_expression : FnScope ["signs", "at", "reading", "found"] ["signs", "at"] (defScope st_read_expression) := ⟨rfl, rfl, rfl, by decide +kernel, rfl, by decide +kernel, by decide +kernel⟩
def F_read_expression : List W → Sto → Re W := fnI 2 4 b_read_expression
abbrev st__law_read : Stmt := top 55
def b__law_read : XS := (sTry sub_ViewError 1 (sRet (xBin fIx (xApp F_read_expression (xCons (xVar 0) (xCons (xC (.int 0)) xNil))) (xC (.int 1)))) (sSeq (sIf (xAnd (xTest (xIsE is_BadExpression (xVar 1))) (xTest (xIsE is_ValueError (xVar 1)))) (sRet (xUn fNeg (xC (.int 1)))) sSkip)
    (sRet (xUn fNeg (xC (.int 2))))))
theorem sc__law_read : FnScope ["_law_signs", "e"] ["_law_signs"] (defScope st__law_read) := ⟨rfl, rfl, rfl, by decide +kernel, rfl, by decide +kernel, by decide +kernel⟩
def F__law_read : List W → Sto → Re W := fnI 1 2 b__law_read
abbrev st__law_near : Stmt := top 53
def b__law_near : XS := (sSeq (sSet 0 (xApp mkLst (xCons (xC (.str "a")) (xCons (xC (.str "n1")) (xCons (xC (.str "none")) (xCons (xC (.str "true")) (xCons (xC (.str "false")) (xCons (xC (.str "0")) (xCons (xC (.str "999999")) (xCons (xC (.str "\"\"")) (xCons (xBin fAddS (xBin fAddS (xC (.str "\"")) (xBin fMulS (xC (.str "a")) (xC (.int 40)))) (xC (.str "\""))) (xCons (xC (.str "map()")) (xCons (xC (.str "map(\"a\", 1)")) (xCons (xC (.str "map(\"a\", 1, \"b\", none)")) (xCons (xC (.str "true")) xNil)))))))))))))))
    (sSeq (sSet 0 (xBin fAddL (xVar 0) (xApp mkLst (xCons (xC (.str "add(a, b)")) (xCons (xC (.str "not(a)")) (xCons (xC (.str "inject(a, 1)")) (xCons (xC (.str "cond(a, b, c)")) (xCons (xC (.str "resource(a)")) (xCons (xC (.str "take(m, 2)")) (xCons (xC (.str "mapx")) (xCons (xC (.str "adds")) (xCons (xC (.str "nones")) (xCons (xC (.str "injects")) xNil)))))))))))))
    (sSeq (sSet 0 (xBin fAddL (xVar 0) (xApp mkLst (xCons (xBin fAddS (xBin fAddS (xBin fMulS (xC (.str "not(")) (xC (.int 5))) (xC (.str "a"))) (xBin fMulS (xC (.str ")")) (xC (.int 5)))) (xCons (xBin fAddS (xBin fAddS (xC (.str "map(")) (xBm "str" fJoin (xC (.str ", ")) (xCons (xLc (iRange1 (xCons (xC (.int 8)) xNil)) (gN 1) xYes (xBin fAddS (xBin fAddS (xC (.str "\"k")) (xApp (f1 fStr) (xCons (xVar 1) xNil))) (xC (.str "\", 1"))) [1]) xNil))) (xC (.str ")"))) xNil)))))
    (sRet (xVar 0)))))
theorem sc__law_near : FnScope ["_law_rows", "_law_k"] [] (defScope st__law_near) := ⟨rfl, rfl, rfl, by decide +kernel, rfl, by decide +kernel, by decide +kernel⟩
def F__law_near : List W → Sto → Re W := fnI 0 2 b__law_near
abbrev st__law_draw : Stmt := top 51
def b__law_draw : XS := (sSeq (sSet 2 (xBin fIx (xVar 0) (xC (.int 1))))
    (sSeq (sPut (xVar 0) (xC (.int 1)) (xBin fAddI (xVar 2) (xC (.int 1))))
    (sSeq (sIf (xTest (xBin fLt (xVar 2) (xApp (f1 fLen) (xCons (xBin fIx (xVar 0) (xC (.int 0))) xNil)))) (sRet (xBin fMod (xApp (f1 fInt) (xCons (xBin fIx (xBin fIx (xVar 0) (xC (.int 0))) (xVar 2)) xNil)) (xVar 1))) sSkip)
    (sRet (xBin fMod (xApp (f1 fInt) (xCons (xBin fAddI (xBin fMul (xVar 2) (xC (.int 7))) (xC (.int 3))) xNil)) (xVar 1))))))
theorem sc__law_draw : FnScope ["_law_box", "_law_many", "_law_at"] ["_law_box", "_law_many"] (defScope st__law_draw) := ⟨rfl, rfl, rfl, by decide +kernel, rfl, by decide +kernel, by decide +kernel⟩
def F__law_draw : List W → Sto → Re W := fnT 2 3 true b__law_draw
abbrev st_law : Stmt := top 56
def l1_law : XS := (sSeq (sSet 3 (xBin fIx (xApp F__law_wrong xNil) (xBin fMod (xApp (f1 fInt) (xCons (xApp F__law_draw (xCons (xVar 1) (xCons (xC (.int 900)) xNil))) xNil)) (xApp (f1 fLen) (xCons (xApp F__law_wrong xNil) xNil)))))
    (sSeq (sIf (xTest (xBin fNe (xApp F__law_read (xCons (xApp F_split_line (xCons (xVar 3) xNil)) xNil)) (xUn fNeg (xC (.int 1))))) (sRet (xC (.bl false))) sSkip)
    (sSeq (sIf (xAnd (xTest (xBin fNe (xVar 3) (xC (.str "")))) (xAnd (xTest (xBin fNe (xApp F__law_read (xCons (xApp F_split_line (xCons (xBin fAddS (xBin fAddS (xC (.str "eq(a, ")) (xVar 3)) (xC (.str ")"))) xNil)) xNil)) (xUn fNeg (xC (.int 1))))) (xTest (xBin (fInL true) (xVar 3) (xApp mkTup (xCons (xC (.str "add(a, b, c)")) xNil)))))) (sRet (xC (.bl false))) sSkip)
    (sSeq (sSet 4 (xBin fIx (xApp F__law_near xNil) (xBin fMod (xApp (f1 fInt) (xCons (xApp F__law_draw (xCons (xVar 1) (xCons (xC (.int 900)) xNil))) xNil)) (xApp (f1 fLen) (xCons (xApp F__law_near xNil) xNil)))))
    (sIf (xTest (xBin fNe (xApp F__law_read (xCons (xApp F_split_line (xCons (xVar 4) xNil)) xNil)) (xApp (f1 fLen) (xCons (xApp F_split_line (xCons (xVar 4) xNil)) xNil)))) (sRet (xC (.bl false))) sSkip)))))
def b_law : XS := (sSeq (sSet 1 (xApp mkNew (xCons (xApp F__law_digits (xCons (xVar 0) (xCons (xC (.int 0)) (xCons (xC (.int 20)) xNil)))) (xCons (xC (.int 0)) xNil))))
    (sSeq (sFor (iRange1 (xCons (xC (.int 6)) xNil)) (gN 2) l1_law)
    (sSeq (sSet 5 (xApp F_split_line (xCons (xApp F__law_calls (xCons (xC (.int 10)) xNil)) xNil)))
    (sRet (xAndV (xBin fEq (xApp F__law_read (xCons (xVar 5) xNil)) (xApp (f1 fLen) (xCons (xVar 5) xNil))) (xBin fEq (xApp F__law_read (xCons (xApp F_split_line (xCons (xApp F__law_calls (xCons (xC (.int 11)) xNil)) xNil)) xNil)) (xUn fNeg (xC (.int 1)))))))))
theorem sc_law : FnScope ["_law_script", "_law_box", "_law_turn", "_law_wrong_here", "_law_near_here", "_law_signs"] ["_law_script"] (defScope st_law) := ⟨rfl, rfl, rfl, by decide +kernel, rfl, by decide +kernel, by decide +kernel⟩
def F_law : List W → Sto → Re W := fnI 1 6 b_law
structure Txt (K : PySem.W.Frag) (mg : Str → Option Value) where
  a_Reading : Addr
  g_Reading : mg "Reading" = some (.ref a_Reading)
  cl_Reading : Cls K a_Reading
  a_BadSigns : Addr
  g_BadSigns : mg "BadSigns" = some (.ref a_BadSigns)
  a_BadExpression : Addr
  g_BadExpression : mg "BadExpression" = some (.ref a_BadExpression)
  a_ViewError : Addr
  g_ViewError : mg "ViewError" = some (.ref a_ViewError)
  i_BadSigns : Addr
  x_BadSigns : Addr
  o_BadSigns : Addr
  fdx_BadSigns : FuncData
  ox_BadSigns : OexC K a_BadSigns
  ic_BadSigns : PySem.W.findIn K (.ref a_BadSigns) "__init__" = some (some (.ref i_BadSigns))
  tc_BadSigns : PySem.W.typeIn K (.ref i_BadSigns) = some (.type "function")
  bx_BadSigns : Binds K fdx_BadSigns [("self" : Str), "offset"] []
  fx_BadSigns : ∃ oc od osl kV doc pm an ctv, fdx_BadSigns = PySem.W.fnX "__init__" "BadSigns.__init__" (defArgs st_BadSigns___init__) (defBody st_BadSigns___init__) (defScope st_BadSigns___init__) [(("__class__" : Str), x_BadSigns)] .none kV doc pm an (.ref o_BadSigns) ctv ∧ K.lookup i_BadSigns = some ⟨oc, od, .func fdx_BadSigns, osl⟩ ∧ PySem.W.codeIn K (.ref o_BadSigns) "BadSigns.__init__" = true
  no_BadSigns : PySem.W.findIn K (.ref a_BadSigns) "offset" = some none
  xf_BadSigns : XfC K a_BadSigns
  ec_BadSigns : ExcC K a_BadSigns
  em_ViewError_BadSigns : PySem.W.exmOne K (.ref a_BadSigns) (.ref a_ViewError) = some true
  ki_ValueError_BadSigns : PySem.W.kitOne K (.ref a_BadSigns) (.type "ValueError") = some true
  em_ViewError_Reading : PySem.W.exmOne K (.ref a_Reading) (.ref a_ViewError) = some false
  q_BadExpression : PySem.W.excIn K a_BadExpression [.type "ValueError", .type "Exception", .type "BaseException", .type "object"] "ValueError.__new__" = true
  kx_BadExpression : PySem.W.keepIn K (.ref a_BadExpression) = true
  eb_BadExpression : PySem.W.subIn K (.ref a_BadExpression) (.type "BaseException") = some true
  et_BadExpression : PySem.W.typeIn K (.ref a_BadExpression) = some (.type "type")
  ec_BadExpression : ExcC K a_BadExpression
  em_ViewError_BadExpression : PySem.W.exmOne K (.ref a_BadExpression) (.ref a_ViewError) = some true
  ki_BadExpression_BadExpression : PySem.W.kitOne K (.ref a_BadExpression) (.ref a_BadExpression) = some true
  ki_ValueError_BadExpression : PySem.W.kitOne K (.ref a_BadExpression) (.type "ValueError") = some true
  a_run_behind : Addr
  fd_run_behind : FuncData
  g_run_behind : mg "run_behind" = some (.ref a_run_behind)
  k_run_behind : PySem.W.keepIn K (.ref a_run_behind) = true
  F_run_behind : Fun K "run_behind" "run_behind" st_run_behind a_run_behind fd_run_behind
  b_run_behind : Binds K fd_run_behind ["line", "at"] []
  a_is_name : Addr
  c_is_name : Addr
  p_is_name : Addr
  cd_is_name : ∀ cdv, CodeOf K a_is_name cdv → cdv = .ref c_is_name
  fd_is_name : FuncData
  g_is_name : mg "is_name" = some (.ref a_is_name)
  k_is_name : PySem.W.keepIn K (.ref a_is_name) = true
  F_is_name : Fun K "is_name" "is_name" st_is_name a_is_name fd_is_name
  b_is_name : Binds K fd_is_name ["thing"] []
  a_run_sign : Addr
  c_run_sign : Addr
  p_run_sign : Addr
  cd_run_sign : ∀ cdv, CodeOf K a_run_sign cdv → cdv = .ref c_run_sign
  fd_run_sign : FuncData
  g_run_sign : mg "run_sign" = some (.ref a_run_sign)
  k_run_sign : PySem.W.keepIn K (.ref a_run_sign) = true
  F_run_sign : Fun K "run_sign" "run_sign" st_run_sign a_run_sign fd_run_sign
  b_run_sign : Binds K fd_run_sign ["run", "at"] []
  a_quoted_sign : Addr
  fd_quoted_sign : FuncData
  g_quoted_sign : mg "quoted_sign" = some (.ref a_quoted_sign)
  k_quoted_sign : PySem.W.keepIn K (.ref a_quoted_sign) = true
  F_quoted_sign : Fun K "quoted_sign" "quoted_sign" st_quoted_sign a_quoted_sign fd_quoted_sign
  b_quoted_sign : Binds K fd_quoted_sign ["line", "at"] []
  a_split_line : Addr
  fd_split_line : FuncData
  g_split_line : mg "split_line" = some (.ref a_split_line)
  k_split_line : PySem.W.keepIn K (.ref a_split_line) = true
  F_split_line : Fun K "split_line" "split_line" st_split_line a_split_line fd_split_line
  b_split_line : Binds K fd_split_line ["line"] []
  a__law_cell : Addr
  fd__law_cell : FuncData
  g__law_cell : mg "_law_cell" = some (.ref a__law_cell)
  k__law_cell : PySem.W.keepIn K (.ref a__law_cell) = true
  F__law_cell : Fun K "_law_cell" "_law_cell" st__law_cell a__law_cell fd__law_cell
  b__law_cell : Binds K fd__law_cell ["_law_script", "_law_k"] []
  a__law_digits : Addr
  fd__law_digits : FuncData
  g__law_digits : mg "_law_digits" = some (.ref a__law_digits)
  k__law_digits : PySem.W.keepIn K (.ref a__law_digits) = true
  F__law_digits : Fun K "_law_digits" "_law_digits" st__law_digits a__law_digits fd__law_digits
  b__law_digits : Binds K fd__law_digits ["_law_script", "_law_first", "_law_last"] []
  a__law_calls : Addr
  fd__law_calls : FuncData
  g__law_calls : mg "_law_calls" = some (.ref a__law_calls)
  k__law_calls : PySem.W.keepIn K (.ref a__law_calls) = true
  F__law_calls : Fun K "_law_calls" "_law_calls" st__law_calls a__law_calls fd__law_calls
  b__law_calls : Binds K fd__law_calls ["_law_many"] []
  a__law_wrong : Addr
  fd__law_wrong : FuncData
  g__law_wrong : mg "_law_wrong" = some (.ref a__law_wrong)
  k__law_wrong : PySem.W.keepIn K (.ref a__law_wrong) = true
  F__law_wrong : Fun K "_law_wrong" "_law_wrong" st__law_wrong a__law_wrong fd__law_wrong
  b__law_wrong : Binds K fd__law_wrong [] []
  a_Reading___init__ : Addr
  fd_Reading___init__ : FuncData
  k_Reading___init__ : PySem.W.keepIn K (.ref a_Reading___init__) = true
  F_Reading___init__ : Fun K "__init__" "Reading.__init__" st_Reading___init__ a_Reading___init__ fd_Reading___init__
  b_Reading___init__ : Binds K fd_Reading___init__ ["self", "signs", "at"] []
  mk_Reading : Mk K a_Reading a_Reading___init__
  a_Reading_sign : Addr
  fd_Reading_sign : FuncData
  k_Reading_sign : PySem.W.keepIn K (.ref a_Reading_sign) = true
  F_Reading_sign : Fun K "sign" "Reading.sign" st_Reading_sign a_Reading_sign fd_Reading_sign
  b_Reading_sign : Binds K fd_Reading_sign ["self"] []
  me_Reading_sign : Meth K a_Reading "sign" a_Reading_sign
  a_Reading_take : Addr
  fd_Reading_take : FuncData
  k_Reading_take : PySem.W.keepIn K (.ref a_Reading_take) = true
  F_Reading_take : Fun K "take" "Reading.take" st_Reading_take a_Reading_take fd_Reading_take
  b_Reading_take : Binds K fd_Reading_take ["self"] []
  me_Reading_take : Meth K a_Reading "take" a_Reading_take
  a_is_number : Addr
  fd_is_number : FuncData
  g_is_number : mg "is_number" = some (.ref a_is_number)
  k_is_number : PySem.W.keepIn K (.ref a_is_number) = true
  F_is_number : Fun K "is_number" "is_number" st_is_number a_is_number fd_is_number
  b_is_number : Binds K fd_is_number ["thing", "most"] []
  a_is_text : Addr
  c_is_text : Addr
  p_is_text : Addr
  cd_is_text : ∀ cdv, CodeOf K a_is_text cdv → cdv = .ref c_is_text
  fd_is_text : FuncData
  g_is_text : mg "is_text" = some (.ref a_is_text)
  k_is_text : PySem.W.keepIn K (.ref a_is_text) = true
  F_is_text : Fun K "is_text" "is_text" st_is_text a_is_text fd_is_text
  b_is_text : Binds K fd_is_text ["thing", "least", "most"] []
  a_is_scalar : Addr
  fd_is_scalar : FuncData
  g_is_scalar : mg "is_scalar" = some (.ref a_is_scalar)
  k_is_scalar : PySem.W.keepIn K (.ref a_is_scalar) = true
  F_is_scalar : Fun K "is_scalar" "is_scalar" st_is_scalar a_is_scalar fd_is_scalar
  b_is_scalar : Binds K fd_is_scalar ["thing"] []
  a_scalar_of : Addr
  fd_scalar_of : FuncData
  g_scalar_of : mg "scalar_of" = some (.ref a_scalar_of)
  k_scalar_of : PySem.W.keepIn K (.ref a_scalar_of) = true
  F_scalar_of : Fun K "scalar_of" "scalar_of" st_scalar_of a_scalar_of fd_scalar_of
  b_scalar_of : Binds K fd_scalar_of ["sign"] []
  a_read_scalar : Addr
  fd_read_scalar : FuncData
  g_read_scalar : mg "read_scalar" = some (.ref a_read_scalar)
  k_read_scalar : PySem.W.keepIn K (.ref a_read_scalar) = true
  F_read_scalar : Fun K "read_scalar" "read_scalar" st_read_scalar a_read_scalar fd_read_scalar
  b_read_scalar : Binds K fd_read_scalar ["reading"] []
  a_Reading_call : Addr
  fd_Reading_call : FuncData
  k_Reading_call : PySem.W.keepIn K (.ref a_Reading_call) = true
  F_Reading_call : Fun K "call" "Reading.call" st_Reading_call a_Reading_call fd_Reading_call
  b_Reading_call : Binds K fd_Reading_call ["self", "depth"] []
  me_Reading_call : Meth K a_Reading "call" a_Reading_call
  a_Reading_expect : Addr
  fd_Reading_expect : FuncData
  k_Reading_expect : PySem.W.keepIn K (.ref a_Reading_expect) = true
  F_Reading_expect : Fun K "expect" "Reading.expect" st_Reading_expect a_Reading_expect fd_Reading_expect
  b_Reading_expect : Binds K fd_Reading_expect ["self", "mark"] []
  me_Reading_expect : Meth K a_Reading "expect" a_Reading_expect
  a_Reading_passed : Addr
  fd_Reading_passed : FuncData
  k_Reading_passed : PySem.W.keepIn K (.ref a_Reading_passed) = true
  F_Reading_passed : Fun K "passed" "Reading.passed" st_Reading_passed a_Reading_passed fd_Reading_passed
  b_Reading_passed : Binds K fd_Reading_passed ["self", "mark"] []
  me_Reading_passed : Meth K a_Reading "passed" a_Reading_passed
  a_is_key : Addr
  fd_is_key : FuncData
  g_is_key : mg "is_key" = some (.ref a_is_key)
  k_is_key : PySem.W.keepIn K (.ref a_is_key) = true
  F_is_key : Fun K "is_key" "is_key" st_is_key a_is_key fd_is_key
  b_is_key : Binds K fd_is_key ["thing"] []
  a_is_entry : Addr
  fd_is_entry : FuncData
  g_is_entry : mg "is_entry" = some (.ref a_is_entry)
  k_is_entry : PySem.W.keepIn K (.ref a_is_entry) = true
  F_is_entry : Fun K "is_entry" "is_entry" st_is_entry a_is_entry fd_is_entry
  b_is_entry : Binds K fd_is_entry ["thing"] []
  a_is_value : Addr
  c_is_value : Addr
  p_is_value : Addr
  cd_is_value : ∀ cdv, CodeOf K a_is_value cdv → cdv = .ref c_is_value
  fd_is_value : FuncData
  g_is_value : mg "is_value" = some (.ref a_is_value)
  k_is_value : PySem.W.keepIn K (.ref a_is_value) = true
  F_is_value : Fun K "is_value" "is_value" st_is_value a_is_value fd_is_value
  b_is_value : Binds K fd_is_value ["thing"] []
  a_read_map : Addr
  fd_read_map : FuncData
  g_read_map : mg "read_map" = some (.ref a_read_map)
  k_read_map : PySem.W.keepIn K (.ref a_read_map) = true
  F_read_map : Fun K "read_map" "read_map" st_read_map a_read_map fd_read_map
  b_read_map : Binds K fd_read_map ["reading"] []
  a_read_inject : Addr
  fd_read_inject : FuncData
  g_read_inject : mg "read_inject" = some (.ref a_read_inject)
  k_read_inject : PySem.W.keepIn K (.ref a_read_inject) = true
  F_read_inject : Fun K "read_inject" "read_inject" st_read_inject a_read_inject fd_read_inject
  b_read_inject : Binds K fd_read_inject ["reading", "depth"] []
  a_read_arguments : Addr
  fd_read_arguments : FuncData
  g_read_arguments : mg "read_arguments" = some (.ref a_read_arguments)
  k_read_arguments : PySem.W.keepIn K (.ref a_read_arguments) = true
  F_read_arguments : Fun K "read_arguments" "read_arguments" st_read_arguments a_read_arguments fd_read_arguments
  b_read_arguments : Binds K fd_read_arguments ["reading", "many", "depth"] []
  a_read_next : Addr
  fd_read_next : FuncData
  g_read_next : mg "read_next" = some (.ref a_read_next)
  k_read_next : PySem.W.keepIn K (.ref a_read_next) = true
  F_read_next : Fun K "read_next" "read_next" st_read_next a_read_next fd_read_next
  b_read_next : Binds K fd_read_next ["reading", "depth"] []
  a_read_expression : Addr
  fd_read_expression : FuncData
  g_read_expression : mg "read_expression" = some (.ref a_read_expression)
  k_read_expression : PySem.W.keepIn K (.ref a_read_expression) = true
  F_read_expression : Fun K "read_expression" "read_expression" st_read_expression a_read_expression fd_read_expression
  b_read_expression : Binds K fd_read_expression ["signs", "at"] []
  a__law_read : Addr
  fd__law_read : FuncData
  g__law_read : mg "_law_read" = some (.ref a__law_read)
  k__law_read : PySem.W.keepIn K (.ref a__law_read) = true
  F__law_read : Fun K "_law_read" "_law_read" st__law_read a__law_read fd__law_read
  b__law_read : Binds K fd__law_read ["_law_signs"] []
  a__law_near : Addr
  fd__law_near : FuncData
  g__law_near : mg "_law_near" = some (.ref a__law_near)
  k__law_near : PySem.W.keepIn K (.ref a__law_near) = true
  F__law_near : Fun K "_law_near" "_law_near" st__law_near a__law_near fd__law_near
  b__law_near : Binds K fd__law_near [] []
  a__law_draw : Addr
  fd__law_draw : FuncData
  g__law_draw : mg "_law_draw" = some (.ref a__law_draw)
  k__law_draw : PySem.W.keepIn K (.ref a__law_draw) = true
  F__law_draw : Fun K "_law_draw" "_law_draw" st__law_draw a__law_draw fd__law_draw
  b__law_draw : Binds K fd__law_draw ["_law_box", "_law_many"] []
  a_law : Addr
  fd_law : FuncData
  g_law : mg "law" = some (.ref a_law)
  k_law : PySem.W.keepIn K (.ref a_law) = true
  F_law : Fun K "law" "law" st_law a_law fd_law
  b_law : Binds K fd_law ["_law_script"] []
  na_Reading_at : NoAttr K a_Reading "at"
  na_Reading_calls : NoAttr K a_Reading "calls"
  na_Reading_signs : NoAttr K a_Reading "signs"
  v_CALLS_MOST : Value
  g_CALLS_MOST : mg "CALLS_MOST" = some v_CALLS_MOST
  r_CALLS_MOST : RelV (.int 10) v_CALLS_MOST
  v_CHARACTERS : Value
  g_CHARACTERS : mg "CHARACTERS" = some v_CHARACTERS
  r_CHARACTERS : RelV (.str " !\"#$&'()*+,-./0123456789:;<=>?@ABCDEFGHIJKLMNOPQRSTUVWXYZ[\\]^_`abcdefghijklmnopqrstuvwxyz{|}~") v_CHARACTERS
  v_DEPTH_MOST : Value
  g_DEPTH_MOST : mg "DEPTH_MOST" = some v_DEPTH_MOST
  r_DEPTH_MOST : RelV (.int 5) v_DEPTH_MOST
  v_DIGITS : Value
  g_DIGITS : mg "DIGITS" = some v_DIGITS
  r_DIGITS : RelV (.str "0123456789") v_DIGITS
  v_INTEGER_MOST : Value
  g_INTEGER_MOST : mg "INTEGER_MOST" = some v_INTEGER_MOST
  r_INTEGER_MOST : RelV (.int 999999) v_INTEGER_MOST
  v_KEY_MOST : Value
  g_KEY_MOST : mg "KEY_MOST" = some v_KEY_MOST
  r_KEY_MOST : RelV (.int 12) v_KEY_MOST
  v_LETTERS : Value
  g_LETTERS : mg "LETTERS" = some v_LETTERS
  r_LETTERS : RelV (.str "abcdefghijklmnopqrstuvwxyz") v_LETTERS
  v_MAP_MOST : Value
  g_MAP_MOST : mg "MAP_MOST" = some v_MAP_MOST
  r_MAP_MOST : RelV (.int 8) v_MAP_MOST
  v_MARKS : Value
  g_MARKS : mg "MARKS" = some v_MARKS
  r_MARKS : RelV (.str "(),=") v_MARKS
  v_NAME_MOST : Value
  g_NAME_MOST : mg "NAME_MOST" = some v_NAME_MOST
  r_NAME_MOST : RelV (.int 12) v_NAME_MOST
  v_NUMBER_DIGITS : Value
  g_NUMBER_DIGITS : mg "NUMBER_DIGITS" = some v_NUMBER_DIGITS
  r_NUMBER_DIGITS : RelV (.int 9) v_NUMBER_DIGITS
  v_RUN : Value
  g_RUN : mg "RUN" = some v_RUN
  r_RUN : RelV (.str "abcdefghijklmnopqrstuvwxyzABCDEFGHIJKLMNOPQRSTUVWXYZ0123456789") v_RUN
  v_TEXT_MOST : Value
  g_TEXT_MOST : mg "TEXT_MOST" = some v_TEXT_MOST
  r_TEXT_MOST : RelV (.int 40) v_TEXT_MOST
  d_ESCAPES : Addr
  g_ESCAPES : mg "ESCAPES" = some (.ref d_ESCAPES)
  v_NONE : Value
  g_NONE : mg "NONE" = some v_NONE
  v_RESERVED : Value
  g_RESERVED : mg "RESERVED" = some v_RESERVED
  d_WORDS : Addr
  g_WORDS : mg "WORDS" = some (.ref d_WORDS)
  d_ARGUMENTS : Addr
  g_ARGUMENTS : mg "ARGUMENTS" = some (.ref d_ARGUMENTS)
  n_ValueError : mg "ValueError" = none
  n_all : mg "all" = none
  n_bool : mg "bool" = none
  n_int : mg "int" = none
  n_isinstance : mg "isinstance" = none
  n_len : mg "len" = none
  n_range : mg "range" = none
  n_str : mg "str" = none
  n_super : mg "super" = none
  n_tuple : mg "tuple" = none
abbrev gOf {K : PySem.W.Frag} {mg : Str → Option Value} (T : Txt K mg) : G := ⟨K, fun s => if s = ("Reading" : Str) then some T.a_Reading else if s = ("BadSigns" : Str) then some T.a_BadSigns else if s = ("BadExpression" : Str) then some T.a_BadExpression else none, fun _ => none, none, [(T.c_is_name, T.p_is_name), (T.c_run_sign, T.p_run_sign), (T.c_is_text, T.p_is_text), (T.c_is_value, T.p_is_value)]⟩
structure Tbs {K : PySem.W.Frag} {mg : Str → Option Value} (T : Txt K mg) (P : Program) (w : World) (base : Heap) : Prop where
  triv : True
  sp_BadSigns : SupC K P T.a_BadSigns T.i_BadSigns T.x_BadSigns T.o_BadSigns
  kc_NONE : kd K 40 T.v_NONE = some D_NONE
  kc_RESERVED : kd K 40 T.v_RESERVED = some D_RESERVED
  kD_WORDS : KDs K w T.d_WORDS 12 D_WORDS
  kD_ARGUMENTS : KDs K w T.d_ARGUMENTS 12 D_ARGUMENTS
  kt_ESCAPES : KTot K w T.d_ESCAPES D_ESCAPES
  t_is_name : GxR.TabB base mg T.c_is_name T.p_is_name
  t_run_sign : GxR.TabB base mg T.c_run_sign T.p_run_sign
  t_is_text : GxR.TabB base mg T.c_is_text T.p_is_text
  t_is_value : GxR.TabB base mg T.c_is_value T.p_is_value
section
variable {P : Program} {w : World} {K : PySem.W.Frag} {mg : Str → Option Value} {base : Heap}
theorem okX_BadSigns (T : Txt K mg) (B : Tbs T P w base) : FnOk P w K mg base (L2.CX P w) 1 T.i_BadSigns T.fdx_BadSigns [("self" : Str), "offset"] (spX (gOf T) T.a_BadSigns "offset" X_BadSigns) := by
  obtain ⟨oc, od, osl, kV, doc, pm, an, ctv, efd, lk, hcd⟩ := T.fx_BadSigns
  rw [efd] at lk ⊢
  exact fn_sup (k := 0) (Fn := ⟨"__init__", "BadSigns.__init__", defArgs st_BadSigns___init__, defBody st_BadSigns___init__, defScope st_BadSigns___init__, [(("__class__" : Str), T.x_BadSigns)], T.o_BadSigns⟩) lk hcd rfl ns_BadSigns rfl T.n_super rfl rfl B.sp_BadSigns T.ox_BadSigns T.no_BadSigns rfl (by decide) (by decide) (fun _ => rfl) (fun _ => rfl) (fun A outer s H E => (se_fs (.cons se_str (.cons (se_fmt (se_var (i := 1))) .nil)))) (fun _ => rfl)
theorem hex_ViewError (T : Txt K mg) : ∀ c C, (gOf T).cm c = some C → PySem.W.exmOne K (.ref C) (.ref T.a_ViewError) = some (sub_ViewError c) := by
  intro c C h
  have h : (if c = ("Reading" : Str) then some T.a_Reading else if c = ("BadSigns" : Str) then some T.a_BadSigns else if c = ("BadExpression" : Str) then some T.a_BadExpression else none) = some C := h
  split at h
  · rename_i q; cases h; subst q; exact T.em_ViewError_Reading
  · split at h
    · rename_i q; cases h; subst q; exact T.em_ViewError_BadSigns
    · split at h
      · rename_i q; cases h; subst q; exact T.em_ViewError_BadExpression
      · cases h
theorem his_BadExpression (T : Txt K mg) : ∀ n C b, (gOf T).cm n = some C → is_BadExpression n = some b → ExcC K C ∧ PySem.W.kitOne K (.ref C) (.ref T.a_BadExpression) = some b := by
  intro c C b h e
  have h : (if c = ("Reading" : Str) then some T.a_Reading else if c = ("BadSigns" : Str) then some T.a_BadSigns else if c = ("BadExpression" : Str) then some T.a_BadExpression else none) = some C := h
  split at h
  · rename_i q; cases h; subst q; cases e
  · split at h
    · rename_i q; cases h; subst q; cases e
    · split at h
      · rename_i q; cases h; subst q; cases e; exact ⟨T.ec_BadExpression, T.ki_BadExpression_BadExpression⟩
      · cases h
theorem his_ValueError (T : Txt K mg) : ∀ n C b, (gOf T).cm n = some C → is_ValueError n = some b → ExcC K C ∧ PySem.W.kitOne K (.ref C) (.type "ValueError") = some b := by
  intro c C b h e
  have h : (if c = ("Reading" : Str) then some T.a_Reading else if c = ("BadSigns" : Str) then some T.a_BadSigns else if c = ("BadExpression" : Str) then some T.a_BadExpression else none) = some C := h
  split at h
  · rename_i q; cases h; subst q; cases e
  · split at h
    · rename_i q; cases h; subst q; cases e; exact ⟨T.ec_BadSigns, T.ki_ValueError_BadSigns⟩
    · split at h
      · rename_i q; cases h; subst q; cases e; exact ⟨T.ec_BadExpression, T.ki_ValueError_BadExpression⟩
      · cases h
theorem ok_run_behind (T : Txt K mg) (B : Tbs T P w base) : FnG P w K mg base 1 T.a_run_behind T.fd_run_behind ["line", "at"] (spF (gOf T) F_run_behind) :=
  fngI T.F_run_behind sc_run_behind fun cdv A outer s H E hr hgd =>
    (sss_cons (ss_while (n := 1000) ownsE (st_w (sw_and (st_cmp o_lt (se_var (i := 1)) (se_callB c_len (sa_cons (se_var (i := 0)) sa_nil) T.n_len bt_len)) (sw_and1 (st_cmp o_inS (se_ix (hr.u (by decide)) (se_var (i := 0)) (se_var (i := 1))) (se_globS T.g_RUN T.r_RUN))))) (sss_one (ss_aug (i := 1) sc_run_behind.nd i_add se_int)))
      (sss_one (ss_ret (se_var (i := 1)))))
theorem ok_is_name (T : Txt K mg) (B : Tbs T P w base) : FnG P w K mg base 1 T.a_is_name T.fd_is_name ["thing"] (spF (gOf T) F_is_name) :=
  fngIC T.F_is_name sc_is_name fun cdv A outer s H E hr hgd hcd =>
    (sss_cons (ss_if (st_w (sw_or (st_not (st_val (se_callB c_isi (sa_cons (se_var (i := 0)) (sa_cons (se_ty T.n_str bt_str) sa_nil)) T.n_isinstance bt_isinstance))) (sw_or (st_not (st_chain o_le o_le se_int (se_callB c_len (sa_cons (se_var (i := 0)) sa_nil) T.n_len bt_len) (se_globI T.g_NAME_MOST T.r_NAME_MOST))) (sw_or1 (st_cmp o_niS (se_ix (hr.u (by decide)) (se_var (i := 0)) se_int) (se_globS T.g_LETTERS T.r_LETTERS)))))) (sss_one (ss_ret se_bl)) sss_nil)
      (sss_one (ss_ret (se_allT (c := T.c_is_name) (P := T.p_is_name) hr rfl T.n_all (by simp [gOf]) B.t_is_name (T.cd_is_name _ hcd) (gs_of (by decide +kernel)) (se_var (i := 0)) (elt_or (elt_in T.g_LETTERS T.r_LETTERS) (elt_in T.g_DIGITS T.r_DIGITS)) (fun _ => rfl)))))
theorem ok_run_sign (T : Txt K mg) (B : Tbs T P w base) : FnG P w K mg base 3 T.a_run_sign T.fd_run_sign ["run", "at"] (spF (gOf T) F_run_sign) :=
  fngIC T.F_run_sign sc_run_sign fun cdv A outer s H E hr hgd hcd =>
    (sss_cons (ss_if (st_val (se_call (ok_is_name T B) (hr.mono (by decide)) hgd T.b_is_name takesE T.g_is_name T.k_is_name (sa_cons (se_var (i := 0)) sa_nil))) (sss_one (ss_ret (se_tup (sa_cons se_str (sa_cons (se_var (i := 0)) sa_nil))))) sss_nil)
      (sss_cons (ss_set (i := 2) sc_run_sign.nd (se_allT (c := T.c_run_sign) (P := T.p_run_sign) hr rfl T.n_all (by simp [gOf]) B.t_run_sign (T.cd_run_sign _ hcd) (gs_of (by decide +kernel)) (se_var (i := 0)) (elt_in T.g_DIGITS T.r_DIGITS) (fun _ => rfl)))
      (sss_cons (ss_if (st_w (sw_or (st_not (st_val (se_var (i := 2)))) (sw_or (st_cmp o_gt (se_callB c_len (sa_cons (se_var (i := 0)) sa_nil) T.n_len bt_len) (se_globI T.g_NUMBER_DIGITS T.r_NUMBER_DIGITS)) (sw_or1 (st_w (sw_and (st_cmp o_gt (se_callB c_len (sa_cons (se_var (i := 0)) sa_nil) T.n_len bt_len) se_int) (sw_and1 (st_cmp (o_eq (hr.u (by decide))) (se_ix (hr.u (by decide)) (se_var (i := 0)) se_int) se_str)))))))) (sss_one (ss_raise (c := "BadSigns") takesE rfl rfl T.ox_BadSigns T.ic_BadSigns T.tc_BadSigns (okX_BadSigns T B) (hr.mono (by decide)) T.bx_BadSigns rfl T.g_BadSigns (se_var (i := 1)))) sss_nil)
      (sss_one (ss_ret (se_tup (sa_cons se_str (sa_cons (se_callTy c_intS (sa_cons (se_var (i := 0)) sa_nil) T.n_int bt_int) sa_nil))))))))
theorem ok_quoted_sign (T : Txt K mg) (B : Tbs T P w base) : FnG P w K mg base 3 T.a_quoted_sign T.fd_quoted_sign ["line", "at"] (spF (gOf T) F_quoted_sign) :=
  fngI T.F_quoted_sign sc_quoted_sign fun cdv A outer s H E hr hgd =>
    (sss_cons (ss_set (i := 2) sc_quoted_sign.nd se_str)
      (sss_cons (ss_set (i := 3) sc_quoted_sign.nd (se_bin o_add (se_var (i := 1)) se_int))
      (sss_cons (ss_while (n := 1000) ownsE (st_cmp o_lt (se_var (i := 3)) (se_callB c_len (sa_cons (se_var (i := 0)) sa_nil) T.n_len bt_len)) (sss_cons (ss_set (i := 4) sc_quoted_sign.nd (se_ix (hr.u (by decide)) (se_var (i := 0)) (se_var (i := 3))))
      (sss_cons (ss_if (st_cmp (o_eq (hr.u (by decide))) (se_var (i := 4)) se_str) (sss_one (ss_ret (se_tup (sa_cons (se_tup (sa_cons se_str (sa_cons (se_var (i := 2)) sa_nil))) (sa_cons (se_bin o_add (se_var (i := 3)) se_int) sa_nil))))) sss_nil)
      (sss_cons (ss_if (st_cmp (o_eq (hr.u (by decide))) (se_var (i := 4)) se_str) (sss_cons (ss_aug (i := 3) sc_quoted_sign.nd i_add se_int)
      (sss_one (ss_set (i := 4) sc_quoted_sign.nd (se_kget T.g_ESCAPES (B.kt_ESCAPES) (se_sl (se_var (i := 0)) (so_some (se_var (i := 3))) (so_some (se_bin o_add (se_var (i := 3)) se_int))) ⟨rfl, rfl, rfl, rfl⟩)))) (sss_one (ss_if (st_cmp o_niS (se_var (i := 4)) (se_globS T.g_CHARACTERS T.r_CHARACTERS)) (sss_one (ss_set (i := 4) sc_quoted_sign.nd se_non)) sss_nil)))
      (sss_cons (ss_if (st_isN (se_var (i := 4))) (sss_one (ss_raise (c := "BadSigns") takesE rfl rfl T.ox_BadSigns T.ic_BadSigns T.tc_BadSigns (okX_BadSigns T B) (hr.mono (by decide)) T.bx_BadSigns rfl T.g_BadSigns (se_var (i := 1)))) sss_nil)
      (sss_cons (ss_set (i := 2) sc_quoted_sign.nd (se_bin o_addS (se_var (i := 2)) (se_var (i := 4))))
      (sss_one (ss_aug (i := 3) sc_quoted_sign.nd i_add se_int))))))))
      (sss_one (ss_raise (c := "BadSigns") takesE rfl rfl T.ox_BadSigns T.ic_BadSigns T.tc_BadSigns (okX_BadSigns T B) (hr.mono (by decide)) T.bx_BadSigns rfl T.g_BadSigns (se_var (i := 1)))))))
theorem ok_split_line (T : Txt K mg) (B : Tbs T P w base) : FnG P w K mg base 4 T.a_split_line T.fd_split_line ["line"] (spF (gOf T) F_split_line) :=
  fngI T.F_split_line sc_split_line fun cdv A outer s H E hr hgd =>
    (sss_cons (ss_set (i := 1) sc_split_line.nd (se_new sa_nil))
      (sss_cons (ss_set (i := 2) sc_split_line.nd se_int)
      (sss_cons (ss_while (n := 1000) ownsE (st_cmp o_lt (se_var (i := 2)) (se_callB c_len (sa_cons (se_var (i := 0)) sa_nil) T.n_len bt_len)) (sss_one (ss_if (st_cmp (o_eq (hr.u (by decide))) (se_ix (hr.u (by decide)) (se_var (i := 0)) (se_var (i := 2))) se_str) (sss_one (ss_aug (i := 2) sc_split_line.nd i_add se_int)) (sss_one (ss_if (st_cmp o_inS (se_ix (hr.u (by decide)) (se_var (i := 0)) (se_var (i := 2))) (se_globS T.g_RUN T.r_RUN)) (sss_cons (ss_set (i := 3) sc_split_line.nd (se_call (ok_run_behind T B) (hr.mono (by decide)) hgd T.b_run_behind takesE T.g_run_behind T.k_run_behind (sa_cons (se_var (i := 0)) (sa_cons (se_var (i := 2)) sa_nil))))
      (sss_cons (ss_expr (se_bm PySem.F.plainAttrs_list PySem.F.slot_list_append PySem.F.type_list_append m_append (se_var (i := 1)) (sa_cons (se_call (ok_run_sign T B) (hr.mono (by decide)) hgd T.b_run_sign takesE T.g_run_sign T.k_run_sign (sa_cons (se_sl (se_var (i := 0)) (so_some (se_var (i := 2))) (so_some (se_var (i := 3)))) (sa_cons (se_var (i := 2)) sa_nil))) sa_nil)))
      (sss_one (ss_set (i := 2) sc_split_line.nd (se_var (i := 3)))))) (sss_one (ss_if (st_cmp (o_eq (hr.u (by decide))) (se_ix (hr.u (by decide)) (se_var (i := 0)) (se_var (i := 2))) se_str) (sss_cons (ss_asg (se_call (ok_quoted_sign T B) (hr.mono (by decide)) hgd T.b_quoted_sign takesE T.g_quoted_sign T.k_quoted_sign (sa_cons (se_var (i := 0)) (sa_cons (se_var (i := 2)) sa_nil))) (sg_tup rfl (sgs_cons (sg_name (i := 4) (own := [4, 2]) sc_split_line.nd) (sgs_cons (sg_name (i := 2) (own := [4, 2]) sc_split_line.nd) (sgs_nil (own := [4, 2]))))))
      (sss_one (ss_expr (se_bm PySem.F.plainAttrs_list PySem.F.slot_list_append PySem.F.type_list_append m_append (se_var (i := 1)) (sa_cons (se_var (i := 4)) sa_nil))))) (sss_one (ss_if (st_cmp o_inS (se_ix (hr.u (by decide)) (se_var (i := 0)) (se_var (i := 2))) (se_globS T.g_MARKS T.r_MARKS)) (sss_cons (ss_expr (se_bm PySem.F.plainAttrs_list PySem.F.slot_list_append PySem.F.type_list_append m_append (se_var (i := 1)) (sa_cons (se_tup (sa_cons se_str (sa_cons (se_ix (hr.u (by decide)) (se_var (i := 0)) (se_var (i := 2))) sa_nil))) sa_nil)))
      (sss_one (ss_aug (i := 2) sc_split_line.nd i_add se_int))) (sss_one (ss_raise (c := "BadSigns") takesE rfl rfl T.ox_BadSigns T.ic_BadSigns T.tc_BadSigns (okX_BadSigns T B) (hr.mono (by decide)) T.bx_BadSigns rfl T.g_BadSigns (se_var (i := 2)))))))))))))
      (sss_one (ss_ret (se_var (i := 1)))))))
theorem ok__law_cell (T : Txt K mg) (B : Tbs T P w base) : FnG P w K mg base 1 T.a__law_cell T.fd__law_cell ["_law_script", "_law_k"] (spF (gOf T) F__law_cell) :=
  fngI T.F__law_cell sc__law_cell fun cdv A outer s H E hr hgd =>
    (sss_cons (ss_if (st_cmp o_lt (se_var (i := 1)) (se_callB c_len (sa_cons (se_var (i := 0)) sa_nil) T.n_len bt_len)) (sss_one (ss_ret (se_ix (hr.u (by decide)) (se_var (i := 0)) (se_var (i := 1))))) sss_nil)
      (sss_one (ss_ret se_int)))
theorem ok__law_digits (T : Txt K mg) (B : Tbs T P w base) : FnG P w K mg base 2 T.a__law_digits T.fd__law_digits ["_law_script", "_law_first", "_law_last"] (spF (gOf T) F__law_digits) :=
  fngI T.F__law_digits sc__law_digits fun cdv A outer s H E hr hgd =>
    (sss_cons (ss_set (i := 3) sc__law_digits.nd (se_new sa_nil))
      (sss_cons (ss_for ownsE rfl (si_range2 T.n_range (sa_cons (se_var (i := 1)) (sa_cons (se_var (i := 2)) sa_nil))) (sg_name (i := 4) (own := [4]) sc__law_digits.nd) (sss_cons (ss_set (i := 5) sc__law_digits.nd (se_call (ok__law_cell T B) (hr.mono (by decide)) hgd T.b__law_cell takesE T.g__law_cell T.k__law_cell (sa_cons (se_var (i := 0)) (sa_cons (se_var (i := 4)) sa_nil))))
      (sss_cons (ss_if (st_cmp o_lt (se_var (i := 5)) se_int) (sss_one (ss_set (i := 5) sc__law_digits.nd (se_bin o_sub se_int (se_bin o_mul se_int (se_var (i := 5)))))) sss_nil)
      (sss_one (ss_if (st_cmp o_ge (se_var (i := 5)) (se_bin o_pow se_int se_int)) (sss_one (ss_for ownsE rfl (si_range1 T.n_range (sa_cons se_int sa_nil)) (sg_name (i := 6) (own := [6]) sc__law_digits.nd) (sss_one (ss_if (st_cmp o_gt (se_var (i := 5)) se_int) (sss_cons (ss_expr (se_bm PySem.F.plainAttrs_list PySem.F.slot_list_append PySem.F.type_list_append m_append (se_var (i := 3)) (sa_cons (se_bin o_mod (se_callTy c_int (sa_cons (se_var (i := 5)) sa_nil) T.n_int bt_int) se_int) sa_nil)))
      (sss_one (ss_set (i := 5) sc__law_digits.nd (se_bin o_div (se_var (i := 5)) se_int)))) sss_nil)))) (sss_cons (ss_set (i := 7) sc__law_digits.nd (se_bin o_mod (se_callTy c_int (sa_cons (se_bin o_add (se_bin o_add (se_bin o_mul (se_var (i := 5)) se_int) (se_bin o_mul (se_var (i := 4)) se_int)) se_int) sa_nil) T.n_int bt_int) se_int))
      (sss_one (ss_for ownsE rfl (si_range1 T.n_range (sa_cons se_int sa_nil)) (sg_name (i := 6) (own := [6]) sc__law_digits.nd) (sss_cons (ss_set (i := 7) sc__law_digits.nd (se_bin o_mod (se_callTy c_int (sa_cons (se_bin o_add (se_bin o_add (se_bin o_mul (se_var (i := 7)) se_int) (se_bin o_mul se_int (se_var (i := 6)))) se_int) sa_nil) T.n_int bt_int) se_int))
      (sss_one (ss_expr (se_bm PySem.F.plainAttrs_list PySem.F.slot_list_append PySem.F.type_list_append m_append (se_var (i := 3)) (sa_cons (se_bin o_mod (se_callTy c_int (sa_cons (se_bin o_div (se_var (i := 7)) se_int) sa_nil) T.n_int bt_int) se_int) sa_nil)))))))))))))
      (sss_one (ss_ret (se_var (i := 3))))))
theorem ok__law_calls (T : Txt K mg) (B : Tbs T P w base) : FnG P w K mg base 1 T.a__law_calls T.fd__law_calls ["_law_many"] (spF (gOf T) F__law_calls) :=
  fngI T.F__law_calls sc__law_calls fun cdv A outer s H E hr hgd =>
    (sss_cons (ss_set (i := 1) sc__law_calls.nd se_str)
      (sss_cons (ss_if (st_cmp (o_eq (hr.u (by decide))) (se_var (i := 0)) se_int) (sss_one (ss_ret (se_bin o_addS (se_bin o_addS (se_bin o_addS (se_bin o_addS se_str (se_var (i := 1))) se_str) (se_var (i := 1))) se_str))) sss_nil)
      (sss_one (ss_ret (se_bin o_addS (se_bin o_addS (se_bin o_addS (se_bin o_addS se_str (se_var (i := 1))) se_str) (se_var (i := 1))) se_str)))))
theorem ok__law_wrong (T : Txt K mg) (B : Tbs T P w base) : FnG P w K mg base 1 T.a__law_wrong T.fd__law_wrong [] (spF (gOf T) F__law_wrong) :=
  fngI T.F__law_wrong sc__law_wrong fun cdv A outer s H E hr hgd =>
    (sss_cons (ss_set (i := 0) sc__law_wrong.nd (se_lst (sa_cons se_str (sa_cons se_str (sa_cons se_str (sa_cons se_str (sa_cons se_str (sa_cons se_str (sa_cons se_str (sa_cons se_str (sa_cons se_str (sa_cons se_str (sa_cons se_str (sa_cons se_str (sa_cons se_str (sa_cons se_str (sa_cons se_str sa_nil)))))))))))))))))
      (sss_cons (ss_set (i := 0) sc__law_wrong.nd (se_bin o_addL (se_var (i := 0)) (se_lst (sa_cons se_str (sa_cons se_str (sa_cons se_str (sa_cons se_str (sa_cons se_str (sa_cons se_str (sa_cons se_str (sa_cons se_str (sa_cons se_str (sa_cons se_str sa_nil)))))))))))))
      (sss_cons (ss_set (i := 0) sc__law_wrong.nd (se_bin o_addL (se_var (i := 0)) (se_lst (sa_cons se_str (sa_cons se_str (sa_cons se_str (sa_cons se_str (sa_cons se_str (sa_cons (se_bin o_addS (se_bin o_addS se_str (se_bin o_mulS se_str se_int)) se_str) (sa_cons se_str sa_nil))))))))))
      (sss_cons (ss_set (i := 0) sc__law_wrong.nd (se_bin o_addL (se_var (i := 0)) (se_lst (sa_cons se_str (sa_cons se_str (sa_cons se_str (sa_cons se_str (sa_cons se_str (sa_cons se_str (sa_cons se_str (sa_cons se_str (sa_cons se_str sa_nil))))))))))))
      (sss_cons (ss_set (i := 0) sc__law_wrong.nd (se_bin o_addL (se_var (i := 0)) (se_lst (sa_cons se_str (sa_cons se_str (sa_cons se_str (sa_cons (se_bin o_addS (se_bin o_addS se_str (se_bm PySem.F.plainAttrs_str PySem.F.slot_str_join PySem.F.type_str_join m_join se_str (sa_cons (se_lc (own := [(("_law_k" : Str), 1)]) (Z0 := fun _ _ _ _ => False) rfl sc__law_wrong.nd (si_range1 T.n_range (sa_cons se_int sa_nil)) (blkOk_by (by show blkC ["_law_rows", "_law_k"] (defScope st__law_wrong) _ [(("_law_k" : Str), 1)] = true; decide +kernel)) (fun _ _ _ _ _ => (sg_name (i := 1) (own := [1]) sc__law_wrong.nd)) (fun _ _ _ _ _ => sts_nil) (fun _ _ _ _ _ => (se_bin o_addS (se_bin o_addS se_str (se_callTy c_str (sa_cons (se_var (i := 1)) sa_nil) T.n_str bt_str)) se_str))) sa_nil))) se_str) sa_nil)))))))
      (sss_one (ss_ret (se_bin o_addL (se_var (i := 0)) (se_sl (se_lst (sa_cons (se_bin o_addS (se_bin o_addS (se_bin o_mulS se_str se_int) se_str) (se_bin o_mulS se_str se_int)) (sa_cons (se_bin o_addS (se_bin o_addS (se_bin o_mulS se_str se_int) se_str) (se_bin o_mulS se_str se_int)) (sa_cons se_str (sa_cons se_str (sa_cons se_str sa_nil)))))) so_none (so_some se_int))))))))))
theorem ok_Reading___init__ (T : Txt K mg) (B : Tbs T P w base) : FnG P w K mg base 1 T.a_Reading___init__ T.fd_Reading___init__ ["self", "signs", "at"] (spF (gOf T) F_Reading___init__) :=
  fngA T.F_Reading___init__ sc_Reading___init__ fun cdv A outer s H E hr hgd =>
    (sss_cons (ss_setF (cn := "Reading") rfl T.cl_Reading T.na_Reading_signs (se_var (i := 0)) (se_var (i := 1)))
      (sss_cons (ss_setF (cn := "Reading") rfl T.cl_Reading T.na_Reading_at (se_var (i := 0)) (se_var (i := 2)))
      (sss_one (ss_setF (cn := "Reading") rfl T.cl_Reading T.na_Reading_calls (se_var (i := 0)) se_int))))
theorem ok_Reading_sign (T : Txt K mg) (B : Tbs T P w base) : FnG P w K mg base 1 T.a_Reading_sign T.fd_Reading_sign ["self"] (spF (gOf T) F_Reading_sign) :=
  fngT T.F_Reading_sign sc_Reading_sign fun cdv A outer s H E hr hgd =>
    (sss_one (ss_ret (se_if (st_cmp o_lt (se_fld (cn := "Reading") rfl T.cl_Reading T.na_Reading_at (se_var (i := 0))) (se_callB c_len (sa_cons (se_fld (cn := "Reading") rfl T.cl_Reading T.na_Reading_signs (se_var (i := 0))) sa_nil) T.n_len bt_len)) (se_ix (hr.u (by decide)) (se_fld (cn := "Reading") rfl T.cl_Reading T.na_Reading_signs (se_var (i := 0))) (se_fld (cn := "Reading") rfl T.cl_Reading T.na_Reading_at (se_var (i := 0)))) (se_tup (sa_cons se_str (sa_cons se_str sa_nil))))))
theorem ok_Reading_take (T : Txt K mg) (B : Tbs T P w base) : FnG P w K mg base 2 T.a_Reading_take T.fd_Reading_take ["self"] (spF (gOf T) F_Reading_take) :=
  fngT T.F_Reading_take sc_Reading_take fun cdv A outer s H E hr hgd =>
    (sss_cons (ss_set (i := 1) sc_Reading_take.nd (se_meth0 (cn := "Reading") rfl (se_var (i := 0)) T.cl_Reading T.me_Reading_sign (ok_Reading_sign T B) (hr.mono (by decide)) hgd T.b_Reading_sign takesE))
      (sss_cons (ss_augF (cn := "Reading") rfl T.cl_Reading T.na_Reading_at i_add (se_var (i := 0)) se_int)
      (sss_one (ss_ret (se_var (i := 1))))))
theorem ok_is_number (T : Txt K mg) (B : Tbs T P w base) : FnG P w K mg base 1 T.a_is_number T.fd_is_number ["thing", "most"] (spF (gOf T) F_is_number) :=
  fngI T.F_is_number sc_is_number fun cdv A outer s H E hr hgd =>
    (sss_one (ss_ret (se_and (se_callB c_isi (sa_cons (se_var (i := 0)) (sa_cons (se_ty T.n_int bt_int) sa_nil)) T.n_isinstance bt_isinstance) (se_and (se_not (se_callB c_isi (sa_cons (se_var (i := 0)) (sa_cons (se_ty T.n_bool bt_bool) sa_nil)) T.n_isinstance bt_isinstance)) (se_one (se_chain o_le o_le se_int (se_var (i := 0)) (se_var (i := 1))))))))
theorem ok_is_text (T : Txt K mg) (B : Tbs T P w base) : FnG P w K mg base 1 T.a_is_text T.fd_is_text ["thing", "least", "most"] (spF (gOf T) F_is_text) :=
  fngIC T.F_is_text sc_is_text fun cdv A outer s H E hr hgd hcd =>
    (sss_cons (ss_if (st_w (sw_or (st_not (st_val (se_callB c_isi (sa_cons (se_var (i := 0)) (sa_cons (se_ty T.n_str bt_str) sa_nil)) T.n_isinstance bt_isinstance))) (sw_or1 (st_not (st_chain o_le o_le (se_var (i := 1)) (se_callB c_len (sa_cons (se_var (i := 0)) sa_nil) T.n_len bt_len) (se_var (i := 2))))))) (sss_one (ss_ret se_bl)) sss_nil)
      (sss_one (ss_ret (se_allT (c := T.c_is_text) (P := T.p_is_text) hr rfl T.n_all (by simp [gOf]) B.t_is_text (T.cd_is_text _ hcd) (gs_of (by decide +kernel)) (se_var (i := 0)) (elt_in T.g_CHARACTERS T.r_CHARACTERS) (fun _ => rfl)))))
theorem ok_is_scalar (T : Txt K mg) (B : Tbs T P w base) : FnG P w K mg base 2 T.a_is_scalar T.fd_is_scalar ["thing"] (spF (gOf T) F_is_scalar) :=
  fngI T.F_is_scalar sc_is_scalar fun cdv A outer s H E hr hgd =>
    (sss_cons (ss_if (st_cmp (o_eq (hr.u (by decide))) (se_var (i := 0)) (se_globD T.g_NONE (B.kc_NONE))) (sss_one (ss_ret se_bl)) sss_nil)
      (sss_cons (ss_if (st_w (sw_or (st_not (st_val (se_callB c_isi (sa_cons (se_var (i := 0)) (sa_cons (se_ty T.n_tuple bt_tuple) sa_nil)) T.n_isinstance bt_isinstance))) (sw_or1 (st_cmp (o_ne (hr.u (by decide))) (se_callB c_len (sa_cons (se_var (i := 0)) sa_nil) T.n_len bt_len) se_int)))) (sss_one (ss_ret se_bl)) sss_nil)
      (sss_cons (ss_if (st_cmp (o_eq (hr.u (by decide))) (se_ix (hr.u (by decide)) (se_var (i := 0)) se_int) se_str) (sss_one (ss_ret (se_callB c_isi (sa_cons (se_ix (hr.u (by decide)) (se_var (i := 0)) se_int) (sa_cons (se_ty T.n_bool bt_bool) sa_nil)) T.n_isinstance bt_isinstance))) sss_nil)
      (sss_cons (ss_if (st_cmp (o_eq (hr.u (by decide))) (se_ix (hr.u (by decide)) (se_var (i := 0)) se_int) se_str) (sss_one (ss_ret (se_call (ok_is_number T B) (hr.mono (by decide)) hgd T.b_is_number takesE T.g_is_number T.k_is_number (sa_cons (se_ix (hr.u (by decide)) (se_var (i := 0)) se_int) (sa_cons (se_globI T.g_INTEGER_MOST T.r_INTEGER_MOST) sa_nil))))) sss_nil)
      (sss_one (ss_ret (se_and (se_cmp (o_eq (hr.u (by decide))) (se_ix (hr.u (by decide)) (se_var (i := 0)) se_int) se_str) (se_one (se_call (ok_is_text T B) (hr.mono (by decide)) hgd T.b_is_text takesE T.g_is_text T.k_is_text (sa_cons (se_ix (hr.u (by decide)) (se_var (i := 0)) se_int) (sa_cons se_int (sa_cons (se_globI T.g_TEXT_MOST T.r_TEXT_MOST) sa_nil))))))))))))
theorem ok_scalar_of (T : Txt K mg) (B : Tbs T P w base) : FnG P w K mg base 3 T.a_scalar_of T.fd_scalar_of ["sign"] (spF (gOf T) F_scalar_of) :=
  fngI T.F_scalar_of sc_scalar_of fun cdv A outer s H E hr hgd =>
    (sss_cons (ss_asg (se_var (i := 0)) (sg_tup rfl (sgs_cons (sg_name (i := 1) (own := [1, 2]) sc_scalar_of.nd) (sgs_cons (sg_name (i := 2) (own := [1, 2]) sc_scalar_of.nd) (sgs_nil (own := [1, 2]))))))
      (sss_cons (ss_set (i := 3) sc_scalar_of.nd se_non)
      (sss_cons (ss_if (st_cmp (o_eq (hr.u (by decide))) (se_var (i := 1)) se_str) (sss_one (ss_set (i := 3) sc_scalar_of.nd (se_kgetD T.g_WORDS (B.kD_WORDS) (se_var (i := 2)) ⟨rfl, rfl, rfl, rfl⟩))) (sss_one (ss_if (st_cmp (o_eq (hr.u (by decide))) (se_var (i := 1)) se_str) (sss_one (ss_set (i := 3) sc_scalar_of.nd (se_tup (sa_cons se_str (sa_cons (se_var (i := 2)) sa_nil))))) (sss_one (ss_if (st_cmp (o_eq (hr.u (by decide))) (se_var (i := 1)) se_str) (sss_one (ss_set (i := 3) sc_scalar_of.nd (se_tup (sa_cons se_str (sa_cons (se_var (i := 2)) sa_nil))))) sss_nil)))))
      (sss_one (ss_ret (se_if (st_w (sw_and (st_notN (se_var (i := 3))) (sw_and1 (st_val (se_call (ok_is_scalar T B) (hr.mono (by decide)) hgd T.b_is_scalar takesE T.g_is_scalar T.k_is_scalar (sa_cons (se_var (i := 3)) sa_nil)))))) (se_var (i := 3)) se_non))))))
theorem ok_read_scalar (T : Txt K mg) (B : Tbs T P w base) : FnG P w K mg base 4 T.a_read_scalar T.fd_read_scalar ["reading"] (spF (gOf T) F_read_scalar) :=
  fngT T.F_read_scalar sc_read_scalar fun cdv A outer s H E hr hgd =>
    (sss_cons (ss_set (i := 1) sc_read_scalar.nd (se_call (ok_scalar_of T B) (hr.mono (by decide)) hgd T.b_scalar_of takesE T.g_scalar_of T.k_scalar_of (sa_cons (se_meth0 (cn := "Reading") rfl (se_var (i := 0)) T.cl_Reading T.me_Reading_take (ok_Reading_take T B) (hr.mono (by decide)) hgd T.b_Reading_take takesE) sa_nil)))
      (sss_cons (ss_if (st_isN (se_var (i := 1))) (sss_one (ss_raise0 (c := "BadExpression") takesE rfl rfl PySem.F.excBase_ValueError T.q_BadExpression T.g_BadExpression T.kx_BadExpression (raises_own T.eb_BadExpression T.et_BadExpression) rfl)) sss_nil)
      (sss_one (ss_ret (se_var (i := 1))))))
theorem ok_Reading_call (T : Txt K mg) (B : Tbs T P w base) : FnG P w K mg base 3 T.a_Reading_call T.fd_Reading_call ["self", "depth"] (spF (gOf T) F_Reading_call) :=
  fngT T.F_Reading_call sc_Reading_call fun cdv A outer s H E hr hgd =>
    (sss_cons (ss_augF (cn := "Reading") rfl T.cl_Reading T.na_Reading_calls i_add (se_var (i := 0)) se_int)
      (sss_one (ss_if (st_w (sw_or (st_cmp o_ge (se_var (i := 1)) (se_globI T.g_DEPTH_MOST T.r_DEPTH_MOST)) (sw_or1 (st_cmp o_gt (se_fld (cn := "Reading") rfl T.cl_Reading T.na_Reading_calls (se_var (i := 0))) (se_globI T.g_CALLS_MOST T.r_CALLS_MOST))))) (sss_one (ss_raise0 (c := "BadExpression") takesE rfl rfl PySem.F.excBase_ValueError T.q_BadExpression T.g_BadExpression T.kx_BadExpression (raises_own T.eb_BadExpression T.et_BadExpression) rfl)) sss_nil)))
theorem ok_Reading_expect (T : Txt K mg) (B : Tbs T P w base) : FnG P w K mg base 3 T.a_Reading_expect T.fd_Reading_expect ["self", "mark"] (spF (gOf T) F_Reading_expect) :=
  fngT T.F_Reading_expect sc_Reading_expect fun cdv A outer s H E hr hgd =>
    (sss_one (ss_if (st_cmp (o_ne (hr.u (by decide))) (se_meth0 (cn := "Reading") rfl (se_var (i := 0)) T.cl_Reading T.me_Reading_take (ok_Reading_take T B) (hr.mono (by decide)) hgd T.b_Reading_take takesE) (se_tup (sa_cons se_str (sa_cons (se_var (i := 1)) sa_nil)))) (sss_one (ss_raise0 (c := "BadExpression") takesE rfl rfl PySem.F.excBase_ValueError T.q_BadExpression T.g_BadExpression T.kx_BadExpression (raises_own T.eb_BadExpression T.et_BadExpression) rfl)) sss_nil))
theorem ok_Reading_passed (T : Txt K mg) (B : Tbs T P w base) : FnG P w K mg base 2 T.a_Reading_passed T.fd_Reading_passed ["self", "mark"] (spF (gOf T) F_Reading_passed) :=
  fngT T.F_Reading_passed sc_Reading_passed fun cdv A outer s H E hr hgd =>
    (sss_cons (ss_if (st_cmp (o_eq (hr.u (by decide))) (se_meth0 (cn := "Reading") rfl (se_var (i := 0)) T.cl_Reading T.me_Reading_sign (ok_Reading_sign T B) (hr.mono (by decide)) hgd T.b_Reading_sign takesE) (se_tup (sa_cons se_str (sa_cons (se_var (i := 1)) sa_nil)))) (sss_cons (ss_augF (cn := "Reading") rfl T.cl_Reading T.na_Reading_at i_add (se_var (i := 0)) se_int)
      (sss_one (ss_ret se_bl))) sss_nil)
      (sss_one (ss_ret se_bl)))
theorem ok_is_key (T : Txt K mg) (B : Tbs T P w base) : FnG P w K mg base 2 T.a_is_key T.fd_is_key ["thing"] (spF (gOf T) F_is_key) :=
  fngI T.F_is_key sc_is_key fun cdv A outer s H E hr hgd =>
    (sss_one (ss_ret (se_call (ok_is_text T B) (hr.mono (by decide)) hgd T.b_is_text takesE T.g_is_text T.k_is_text (sa_cons (se_var (i := 0)) (sa_cons se_int (sa_cons (se_globI T.g_KEY_MOST T.r_KEY_MOST) sa_nil))))))
theorem ok_is_entry (T : Txt K mg) (B : Tbs T P w base) : FnG P w K mg base 3 T.a_is_entry T.fd_is_entry ["thing"] (spF (gOf T) F_is_entry) :=
  fngI T.F_is_entry sc_is_entry fun cdv A outer s H E hr hgd =>
    (sss_one (ss_ret (se_and (se_callB c_isi (sa_cons (se_var (i := 0)) (sa_cons (se_ty T.n_tuple bt_tuple) sa_nil)) T.n_isinstance bt_isinstance) (se_and (se_cmp (o_eq (hr.u (by decide))) (se_callB c_len (sa_cons (se_var (i := 0)) sa_nil) T.n_len bt_len) se_int) (se_and (se_call (ok_is_key T B) (hr.mono (by decide)) hgd T.b_is_key takesE T.g_is_key T.k_is_key (sa_cons (se_ix (hr.u (by decide)) (se_var (i := 0)) se_int) sa_nil)) (se_one (se_call (ok_is_scalar T B) (hr.mono (by decide)) hgd T.b_is_scalar takesE T.g_is_scalar T.k_is_scalar (sa_cons (se_ix (hr.u (by decide)) (se_var (i := 0)) se_int) sa_nil))))))))
theorem ok_is_value (T : Txt K mg) (B : Tbs T P w base) : FnG P w K mg base 5 T.a_is_value T.fd_is_value ["thing"] (spF (gOf T) F_is_value) :=
  fngIC T.F_is_value sc_is_value fun cdv A outer s H E hr hgd hcd =>
    (sss_cons (ss_if (st_w (sw_or (st_not (st_val (se_callB c_isi (sa_cons (se_var (i := 0)) (sa_cons (se_ty T.n_tuple bt_tuple) sa_nil)) T.n_isinstance bt_isinstance))) (sw_or (st_cmp (o_ne (hr.u (by decide))) (se_callB c_len (sa_cons (se_var (i := 0)) sa_nil) T.n_len bt_len) se_int) (sw_or1 (st_cmp (o_ne (hr.u (by decide))) (se_ix (hr.u (by decide)) (se_var (i := 0)) se_int) se_str))))) (sss_one (ss_ret (se_call (ok_is_scalar T B) (hr.mono (by decide)) hgd T.b_is_scalar takesE T.g_is_scalar T.k_is_scalar (sa_cons (se_var (i := 0)) sa_nil)))) sss_nil)
      (sss_cons (ss_set (i := 1) sc_is_value.nd (se_ix (hr.u (by decide)) (se_var (i := 0)) se_int))
      (sss_cons (ss_if (st_w (sw_or (st_not (st_val (se_callB c_isi (sa_cons (se_var (i := 1)) (sa_cons (se_ty T.n_tuple bt_tuple) sa_nil)) T.n_isinstance bt_isinstance))) (sw_or (st_cmp o_gt (se_callB c_len (sa_cons (se_var (i := 1)) sa_nil) T.n_len bt_len) (se_globI T.g_MAP_MOST T.r_MAP_MOST)) (sw_or1 (st_not (st_val (se_allG (c := T.c_is_value) (P := T.p_is_value) (k := 3) (own := [(("entry" : Str), 3)]) (hr.mono (by decide)) hgd rfl T.n_all (by simp [gOf]) B.t_is_value (T.cd_is_value _ hcd) (gscp_of (by decide +kernel)) (blkOk_by (by show blkC ["thing", "entries", "keys", "entry", "key"] (defScope st_is_value) _ [(("entry" : Str), 3)] = true; decide +kernel)) rfl sc_is_value.nd (si_seq (se_var (i := 1))) (fun _ _ _ _ _ _ _ _ => (sg_name (i := 3) (own := [3]) sc_is_value.nd)) (fun _ _ _ _ _ _ _ _ hr hgd => (se_call (ok_is_entry T B) (hr.mono (by decide)) hgd T.b_is_entry takesN T.g_is_entry T.k_is_entry (sa_cons (se_var (i := 3)) sa_nil)))))))))) (sss_one (ss_ret se_bl)) sss_nil)
      (sss_cons (ss_set (i := 2) sc_is_value.nd (se_lc (own := [(("entry" : Str), 3)]) (Z0 := fun _ _ _ _ => False) rfl sc_is_value.nd (si_seq (se_var (i := 1))) (blkOk_by (by show blkC ["thing", "entries", "keys", "entry", "key"] (defScope st_is_value) _ [(("entry" : Str), 3)] = true; decide +kernel)) (fun _ _ _ _ _ => (sg_name (i := 3) (own := [3]) sc_is_value.nd)) (fun _ _ _ _ _ => sts_nil) (fun _ _ _ _ _ => (se_ix (hr.u (by decide)) (se_var (i := 3)) se_int))))
      (sss_one (ss_ret (se_allG (c := T.c_is_value) (P := T.p_is_value) (k := 0) (own := [(("key" : Str), 4)]) (hr.mono (by decide)) hgd rfl T.n_all (by simp [gOf]) B.t_is_value (T.cd_is_value _ hcd) (gscp_of (by decide +kernel)) (blkOk_by (by show blkC ["thing", "entries", "keys", "entry", "key"] (defScope st_is_value) _ [(("key" : Str), 4)] = true; decide +kernel)) rfl sc_is_value.nd (si_seq (se_var (i := 2))) (fun _ _ _ _ _ _ _ _ => (sg_name (i := 4) (own := [4]) sc_is_value.nd)) (fun _ _ _ _ _ _ _ _ hr hgd => (se_cmp (o_eq (hr.u (by decide))) (se_bm PySem.F.plainAttrs_list PySem.F.slot_list_count PySem.F.type_list_count m_countS (se_var (i := 2)) (sa_cons (se_var (i := 4)) sa_nil)) se_int)))))))))
theorem ok_read_map (T : Txt K mg) (B : Tbs T P w base) : FnG P w K mg base 6 T.a_read_map T.fd_read_map ["reading"] (spF (gOf T) F_read_map) :=
  fngT T.F_read_map sc_read_map fun cdv A outer s H E hr hgd =>
    (sss_cons (ss_set (i := 1) sc_read_map.nd (se_new sa_nil))
      (sss_cons (ss_expr (se_meth (cn := "Reading") rfl (se_var (i := 0)) T.cl_Reading T.me_Reading_expect (ok_Reading_expect T B) (hr.mono (by decide)) hgd T.b_Reading_expect takesE (sa_cons se_str sa_nil)))
      (sss_cons (ss_if (st_not (st_val (se_meth (cn := "Reading") rfl (se_var (i := 0)) T.cl_Reading T.me_Reading_passed (ok_Reading_passed T B) (hr.mono (by decide)) hgd T.b_Reading_passed takesE (sa_cons se_str sa_nil)))) (sss_cons (ss_while (n := 1000) ownsE (st_val se_bl) (sss_cons (ss_asg (se_meth0 (cn := "Reading") rfl (se_var (i := 0)) T.cl_Reading T.me_Reading_take (ok_Reading_take T B) (hr.mono (by decide)) hgd T.b_Reading_take takesE) (sg_tup rfl (sgs_cons (sg_name (i := 2) (own := [2, 3]) sc_read_map.nd) (sgs_cons (sg_name (i := 3) (own := [2, 3]) sc_read_map.nd) (sgs_nil (own := [2, 3]))))))
      (sss_cons (ss_if (st_w (sw_or (st_cmp (o_ne (hr.u (by decide))) (se_var (i := 2)) se_str) (sw_or1 (st_not (st_val (se_call (ok_is_key T B) (hr.mono (by decide)) hgd T.b_is_key takesE T.g_is_key T.k_is_key (sa_cons (se_var (i := 3)) sa_nil))))))) (sss_one (ss_raise0 (c := "BadExpression") takesE rfl rfl PySem.F.excBase_ValueError T.q_BadExpression T.g_BadExpression T.kx_BadExpression (raises_own T.eb_BadExpression T.et_BadExpression) rfl)) sss_nil)
      (sss_cons (ss_expr (se_meth (cn := "Reading") rfl (se_var (i := 0)) T.cl_Reading T.me_Reading_expect (ok_Reading_expect T B) (hr.mono (by decide)) hgd T.b_Reading_expect takesE (sa_cons se_str sa_nil)))
      (sss_cons (ss_expr (se_bm PySem.F.plainAttrs_list PySem.F.slot_list_append PySem.F.type_list_append m_append (se_var (i := 1)) (sa_cons (se_tup (sa_cons (se_var (i := 3)) (sa_cons (se_call (ok_read_scalar T B) (hr.mono (by decide)) hgd T.b_read_scalar takesE T.g_read_scalar T.k_read_scalar (sa_cons (se_var (i := 0)) sa_nil)) sa_nil))) sa_nil)))
      (sss_one (ss_if (st_not (st_val (se_meth (cn := "Reading") rfl (se_var (i := 0)) T.cl_Reading T.me_Reading_passed (ok_Reading_passed T B) (hr.mono (by decide)) hgd T.b_Reading_passed takesE (sa_cons se_str sa_nil)))) (sss_one ss_break) sss_nil)))))))
      (sss_one (ss_expr (se_meth (cn := "Reading") rfl (se_var (i := 0)) T.cl_Reading T.me_Reading_expect (ok_Reading_expect T B) (hr.mono (by decide)) hgd T.b_Reading_expect takesE (sa_cons se_str sa_nil))))) sss_nil)
      (sss_cons (ss_set (i := 4) sc_read_map.nd (se_tup (sa_cons se_str (sa_cons (se_callTy c_tuple (sa_cons (se_var (i := 1)) sa_nil) T.n_tuple bt_tuple) sa_nil))))
      (sss_cons (ss_if (st_not (st_val (se_call (ok_is_value T B) (hr.mono (by decide)) hgd T.b_is_value takesE T.g_is_value T.k_is_value (sa_cons (se_var (i := 4)) sa_nil)))) (sss_one (ss_raise0 (c := "BadExpression") takesE rfl rfl PySem.F.excBase_ValueError T.q_BadExpression T.g_BadExpression T.kx_BadExpression (raises_own T.eb_BadExpression T.et_BadExpression) rfl)) sss_nil)
      (sss_one (ss_ret (se_var (i := 4)))))))))
theorem okG_read_inject (T : Txt K mg) (B : Tbs T P w base) : ∀ n : Nat, FnG P w K mg base (6 + n) T.a_read_inject T.fd_read_inject ["reading", "depth"] (spF (gOf T) (F_read_inject n)) ∧ FnG P w K mg base (6 + n) T.a_read_arguments T.fd_read_arguments ["reading", "many", "depth"] (spF (gOf T) (F_read_arguments n)) ∧ FnG P w K mg base (6 + n) T.a_read_next T.fd_read_next ["reading", "depth"] (spF (gOf T) (F_read_next n))
  | 0 => ⟨fng_stuck, fng_stuck, fng_stuck⟩
  | n + 1 => by
    have ih := okG_read_inject T B n
    refine ⟨?_, ?_, ?_⟩
    · exact fngT (k := 6 + n) T.F_read_inject sc_read_inject fun cdv A outer s H E hr hgd =>
        (sss_cons (ss_expr (se_meth (cn := "Reading") rfl (se_var (i := 0)) T.cl_Reading T.me_Reading_expect (ok_Reading_expect T B) (hr.mono (by omega)) hgd T.b_Reading_expect takesE (sa_cons se_str sa_nil)))
      (sss_cons (ss_asg (se_meth0 (cn := "Reading") rfl (se_var (i := 0)) T.cl_Reading T.me_Reading_take (ok_Reading_take T B) (hr.mono (by omega)) hgd T.b_Reading_take takesE) (sg_tup rfl (sgs_cons (sg_name (i := 2) (own := [2, 3]) sc_read_inject.nd) (sgs_cons (sg_name (i := 3) (own := [2, 3]) sc_read_inject.nd) (sgs_nil (own := [2, 3]))))))
      (sss_cons (ss_if (st_w (sw_or (st_cmp (o_ne (hr.u (by decide))) (se_var (i := 2)) se_str) (sw_or1 (st_cmp o_inL (se_var (i := 3)) (se_globD T.g_RESERVED (B.kc_RESERVED)))))) (sss_one (ss_raise0 (c := "BadExpression") takesE rfl rfl PySem.F.excBase_ValueError T.q_BadExpression T.g_BadExpression T.kx_BadExpression (raises_own T.eb_BadExpression T.et_BadExpression) rfl)) sss_nil)
      (sss_cons (ss_expr (se_meth (cn := "Reading") rfl (se_var (i := 0)) T.cl_Reading T.me_Reading_expect (ok_Reading_expect T B) (hr.mono (by omega)) hgd T.b_Reading_expect takesE (sa_cons se_str sa_nil)))
      (sss_cons (ss_set (i := 4) sc_read_inject.nd (se_call ih.2.2 (hr.mono (Nat.le_refl _)) hgd T.b_read_next takesE T.g_read_next T.k_read_next (sa_cons (se_var (i := 0)) (sa_cons (se_bin o_add (se_var (i := 1)) se_int) sa_nil))))
      (sss_cons (ss_expr (se_meth (cn := "Reading") rfl (se_var (i := 0)) T.cl_Reading T.me_Reading_expect (ok_Reading_expect T B) (hr.mono (by omega)) hgd T.b_Reading_expect takesE (sa_cons se_str sa_nil)))
      (sss_one (ss_ret (se_tup (sa_cons se_str (sa_cons (se_var (i := 3)) (sa_cons (se_var (i := 4)) sa_nil))))))))))))
    · exact fngT (k := 6 + n) T.F_read_arguments sc_read_arguments fun cdv A outer s H E hr hgd =>
        (sss_cons (ss_set (i := 3) sc_read_arguments.nd (se_new sa_nil))
      (sss_cons (ss_expr (se_meth (cn := "Reading") rfl (se_var (i := 0)) T.cl_Reading T.me_Reading_expect (ok_Reading_expect T B) (hr.mono (by omega)) hgd T.b_Reading_expect takesE (sa_cons se_str sa_nil)))
      (sss_cons (ss_for ownsE rfl (si_range1 T.n_range (sa_cons (se_var (i := 1)) sa_nil)) (sg_name (i := 4) (own := [4]) sc_read_arguments.nd) (sss_cons (ss_if (st_cmp o_gt (se_var (i := 4)) se_int) (sss_one (ss_expr (se_meth (cn := "Reading") rfl (se_var (i := 0)) T.cl_Reading T.me_Reading_expect (ok_Reading_expect T B) (hr.mono (by omega)) hgd T.b_Reading_expect takesE (sa_cons se_str sa_nil)))) sss_nil)
      (sss_one (ss_expr (se_bm PySem.F.plainAttrs_list PySem.F.slot_list_append PySem.F.type_list_append m_append (se_var (i := 3)) (sa_cons (se_call ih.2.2 (hr.mono (Nat.le_refl _)) hgd T.b_read_next takesE T.g_read_next T.k_read_next (sa_cons (se_var (i := 0)) (sa_cons (se_bin o_add (se_var (i := 2)) se_int) sa_nil))) sa_nil))))))
      (sss_cons (ss_expr (se_meth (cn := "Reading") rfl (se_var (i := 0)) T.cl_Reading T.me_Reading_expect (ok_Reading_expect T B) (hr.mono (by omega)) hgd T.b_Reading_expect takesE (sa_cons se_str sa_nil)))
      (sss_one (ss_ret (se_callTy c_tuple (sa_cons (se_var (i := 3)) sa_nil) T.n_tuple bt_tuple)))))))
    · exact fngT (k := 6 + n) T.F_read_next sc_read_next fun cdv A outer s H E hr hgd =>
        (sss_cons (ss_asg (se_meth0 (cn := "Reading") rfl (se_var (i := 0)) T.cl_Reading T.me_Reading_sign (ok_Reading_sign T B) (hr.mono (by omega)) hgd T.b_Reading_sign takesE) (sg_tup rfl (sgs_cons (sg_name (i := 2) (own := [2, 3]) sc_read_next.nd) (sgs_cons (sg_name (i := 3) (own := [2, 3]) sc_read_next.nd) (sgs_nil (own := [2, 3]))))))
      (sss_cons (ss_if (st_w (sw_and (st_cmp (o_eq (hr.u (by decide))) (se_var (i := 2)) se_str) (sw_and1 (st_knin T.g_WORDS (B.kD_WORDS) (se_var (i := 3)))))) (sss_cons (ss_expr (se_meth0 (cn := "Reading") rfl (se_var (i := 0)) T.cl_Reading T.me_Reading_take (ok_Reading_take T B) (hr.mono (by omega)) hgd T.b_Reading_take takesE))
      (sss_cons (ss_if (st_cmp (o_eq (hr.u (by decide))) (se_var (i := 3)) se_str) (sss_one (ss_ret (se_tup (sa_cons se_str (sa_cons (se_call (ok_read_map T B) (hr.mono (by omega)) hgd T.b_read_map takesE T.g_read_map T.k_read_map (sa_cons (se_var (i := 0)) sa_nil)) sa_nil))))) sss_nil)
      (sss_cons (ss_if (st_cmp (o_eq (hr.u (by decide))) (se_var (i := 3)) se_str) (sss_cons (ss_expr (se_meth (cn := "Reading") rfl (se_var (i := 0)) T.cl_Reading T.me_Reading_call (ok_Reading_call T B) (hr.mono (by omega)) hgd T.b_Reading_call takesE (sa_cons (se_var (i := 1)) sa_nil)))
      (sss_one (ss_ret (se_call ih.1 (hr.mono (Nat.le_refl _)) hgd T.b_read_inject takesE T.g_read_inject T.k_read_inject (sa_cons (se_var (i := 0)) (sa_cons (se_var (i := 1)) sa_nil)))))) sss_nil)
      (sss_cons (ss_if (st_kin T.g_ARGUMENTS (B.kD_ARGUMENTS) (se_var (i := 3))) (sss_cons (ss_expr (se_meth (cn := "Reading") rfl (se_var (i := 0)) T.cl_Reading T.me_Reading_call (ok_Reading_call T B) (hr.mono (by omega)) hgd T.b_Reading_call takesE (sa_cons (se_var (i := 1)) sa_nil)))
      (sss_one (ss_ret (se_tup (sa_cons se_str (sa_cons (se_var (i := 3)) (sa_cons (se_call ih.2.1 (hr.mono (Nat.le_refl _)) hgd T.b_read_arguments takesE T.g_read_arguments T.k_read_arguments (sa_cons (se_var (i := 0)) (sa_cons (se_kixD T.g_ARGUMENTS (B.kD_ARGUMENTS) (se_var (i := 3))) (sa_cons (se_var (i := 1)) sa_nil)))) sa_nil))))))) sss_nil)
      (sss_one (ss_ret (se_tup (sa_cons se_str (sa_cons (se_var (i := 3)) sa_nil))))))))) sss_nil)
      (sss_one (ss_ret (se_tup (sa_cons se_str (sa_cons (se_call (ok_read_scalar T B) (hr.mono (by omega)) hgd T.b_read_scalar takesE T.g_read_scalar T.k_read_scalar (sa_cons (se_var (i := 0)) sa_nil)) sa_nil)))))))
theorem ok_read_inject (T : Txt K mg) (B : Tbs T P w base) (n : Nat) : FnG P w K mg base (6 + n) T.a_read_inject T.fd_read_inject ["reading", "depth"] (spF (gOf T) (F_read_inject n)) := (okG_read_inject T B n).1
theorem ok_read_arguments (T : Txt K mg) (B : Tbs T P w base) (n : Nat) : FnG P w K mg base (6 + n) T.a_read_arguments T.fd_read_arguments ["reading", "many", "depth"] (spF (gOf T) (F_read_arguments n)) := (okG_read_inject T B n).2.1
theorem ok_read_next (T : Txt K mg) (B : Tbs T P w base) (n : Nat) : FnG P w K mg base (6 + n) T.a_read_next T.fd_read_next ["reading", "depth"] (spF (gOf T) (F_read_next n)) := (okG_read_inject T B n).2.2
theorem ok_read_expression (T : Txt K mg) (B : Tbs T P w base) : FnG P w K mg base 27 T.a_read_expression T.fd_read_expression ["signs", "at"] (spF (gOf T) F_read_expression) :=
  fngI T.F_read_expression sc_read_expression fun cdv A outer s H E hr hgd =>
    (sss_cons (ss_set (i := 2) sc_read_expression.nd (se_make (cn := "Reading") rfl T.mk_Reading (ok_Reading___init__ T B) (hr.mono (by decide)) hgd T.b_Reading___init__ takesE T.g_Reading (sa_cons (se_var (i := 0)) (sa_cons (se_var (i := 1)) sa_nil))))
      (sss_cons (ss_set (i := 3) sc_read_expression.nd (se_call (ok_read_next T B 20) (hr.mono (by decide)) hgd T.b_read_next takesE T.g_read_next T.k_read_next (sa_cons (se_var (i := 2)) (sa_cons se_int sa_nil))))
      (sss_one (ss_ret (se_tup (sa_cons (se_var (i := 3)) (sa_cons (se_fld (cn := "Reading") rfl T.cl_Reading T.na_Reading_at (se_var (i := 2))) sa_nil)))))))
theorem ok__law_read (T : Txt K mg) (B : Tbs T P w base) : FnG P w K mg base 28 T.a__law_read T.fd__law_read ["_law_signs"] (spF (gOf T) F__law_read) :=
  fngI T.F__law_read sc__law_read fun cdv A outer s H E hr hgd =>
    (sss_one (ss_try (sub := sub_ViewError) (i := 1) rfl rfl rfl sc__law_read.nd rfl rfl ⟨rfl, by decide, .inl T.g_ViewError⟩ takesE (hex_ViewError T) (fun W pn xe tk po => (sss_one (ss_ret (se_ix (hr.u (by decide)) (se_call (ok_read_expression T B) (hr.mono (by decide)) hgd T.b_read_expression tk T.g_read_expression T.k_read_expression (sa_cons (se_var (i := 0)) (sa_cons se_int sa_nil))) se_int)))) (fun a oe cls d pn hz hf => (sss_cons (ss_if (st_w (sw_and (st_val (se_isE (c := .ref T.a_BadExpression) hz hf (fun _ h => h) (his_BadExpression T) rfl T.n_isinstance (se_var (i := 1)) (pe_glob (v := .ref T.a_BadExpression) rfl T.g_BadExpression rfl))) (sw_and1 (st_val (se_isE (c := .ty "ValueError") hz hf (fun _ h => h) (his_ValueError T) rfl T.n_isinstance (se_var (i := 1)) (pe_bltn (v := .ty "ValueError") rfl T.n_ValueError (by kernel_rfl : bootBuiltins "ValueError" = some (.type "ValueError")) rfl)))))) (sss_one (ss_ret (se_neg se_int))) sss_nil)
      (sss_one (ss_ret (se_neg se_int)))))))
theorem ok__law_near (T : Txt K mg) (B : Tbs T P w base) : FnG P w K mg base 1 T.a__law_near T.fd__law_near [] (spF (gOf T) F__law_near) :=
  fngI T.F__law_near sc__law_near fun cdv A outer s H E hr hgd =>
    (sss_cons (ss_set (i := 0) sc__law_near.nd (se_lst (sa_cons se_str (sa_cons se_str (sa_cons se_str (sa_cons se_str (sa_cons se_str (sa_cons se_str (sa_cons se_str (sa_cons se_str (sa_cons (se_bin o_addS (se_bin o_addS se_str (se_bin o_mulS se_str se_int)) se_str) (sa_cons se_str (sa_cons se_str (sa_cons se_str (sa_cons se_str sa_nil)))))))))))))))
      (sss_cons (ss_set (i := 0) sc__law_near.nd (se_bin o_addL (se_var (i := 0)) (se_lst (sa_cons se_str (sa_cons se_str (sa_cons se_str (sa_cons se_str (sa_cons se_str (sa_cons se_str (sa_cons se_str (sa_cons se_str (sa_cons se_str (sa_cons se_str sa_nil)))))))))))))
      (sss_cons (ss_set (i := 0) sc__law_near.nd (se_bin o_addL (se_var (i := 0)) (se_lst (sa_cons (se_bin o_addS (se_bin o_addS (se_bin o_mulS se_str se_int) se_str) (se_bin o_mulS se_str se_int)) (sa_cons (se_bin o_addS (se_bin o_addS se_str (se_bm PySem.F.plainAttrs_str PySem.F.slot_str_join PySem.F.type_str_join m_join se_str (sa_cons (se_lc (own := [(("_law_k" : Str), 1)]) (Z0 := fun _ _ _ _ => False) rfl sc__law_near.nd (si_range1 T.n_range (sa_cons se_int sa_nil)) (blkOk_by (by show blkC ["_law_rows", "_law_k"] (defScope st__law_near) _ [(("_law_k" : Str), 1)] = true; decide +kernel)) (fun _ _ _ _ _ => (sg_name (i := 1) (own := [1]) sc__law_near.nd)) (fun _ _ _ _ _ => sts_nil) (fun _ _ _ _ _ => (se_bin o_addS (se_bin o_addS se_str (se_callTy c_str (sa_cons (se_var (i := 1)) sa_nil) T.n_str bt_str)) se_str))) sa_nil))) se_str) sa_nil)))))
      (sss_one (ss_ret (se_var (i := 0)))))))
theorem ok__law_draw (T : Txt K mg) (B : Tbs T P w base) : FnG P w K mg base 1 T.a__law_draw T.fd__law_draw ["_law_box", "_law_many"] (spF (gOf T) F__law_draw) :=
  fngT T.F__law_draw sc__law_draw fun cdv A outer s H E hr hgd =>
    (sss_cons (ss_set (i := 2) sc__law_draw.nd (se_ix (hr.u (by decide)) (se_var (i := 0)) se_int))
      (sss_cons (ss_put (hr.u (by decide)) (se_var (i := 0)) se_int (se_bin o_add (se_var (i := 2)) se_int))
      (sss_cons (ss_if (st_cmp o_lt (se_var (i := 2)) (se_callB c_len (sa_cons (se_ix (hr.u (by decide)) (se_var (i := 0)) se_int) sa_nil) T.n_len bt_len)) (sss_one (ss_ret (se_bin o_mod (se_callTy c_int (sa_cons (se_ix (hr.u (by decide)) (se_ix (hr.u (by decide)) (se_var (i := 0)) se_int) (se_var (i := 2))) sa_nil) T.n_int bt_int) (se_var (i := 1))))) sss_nil)
      (sss_one (ss_ret (se_bin o_mod (se_callTy c_int (sa_cons (se_bin o_add (se_bin o_mul (se_var (i := 2)) se_int) se_int) sa_nil) T.n_int bt_int) (se_var (i := 1))))))))
theorem ok_law (T : Txt K mg) (B : Tbs T P w base) : FnG P w K mg base 29 T.a_law T.fd_law ["_law_script"] (spF (gOf T) F_law) :=
  fngI T.F_law sc_law fun cdv A outer s H E hr hgd =>
    (sss_cons (ss_set (i := 1) sc_law.nd (se_new (sa_cons (se_call (ok__law_digits T B) (hr.mono (by decide)) hgd T.b__law_digits takesE T.g__law_digits T.k__law_digits (sa_cons (se_var (i := 0)) (sa_cons se_int (sa_cons se_int sa_nil)))) (sa_cons se_int sa_nil))))
      (sss_cons (ss_for ownsE rfl (si_range1 T.n_range (sa_cons se_int sa_nil)) (sg_name (i := 2) (own := [2]) sc_law.nd) (sss_cons (ss_set (i := 3) sc_law.nd (se_ix (hr.u (by decide)) (se_call0 (ok__law_wrong T B) (hr.mono (by decide)) hgd T.b__law_wrong takesE T.g__law_wrong T.k__law_wrong) (se_bin o_mod (se_callTy c_int (sa_cons (se_call (ok__law_draw T B) (hr.mono (by decide)) hgd T.b__law_draw takesE T.g__law_draw T.k__law_draw (sa_cons (se_var (i := 1)) (sa_cons se_int sa_nil))) sa_nil) T.n_int bt_int) (se_callB c_len (sa_cons (se_call0 (ok__law_wrong T B) (hr.mono (by decide)) hgd T.b__law_wrong takesE T.g__law_wrong T.k__law_wrong) sa_nil) T.n_len bt_len))))
      (sss_cons (ss_if (st_cmp (o_ne (hr.u (by decide))) (se_call (ok__law_read T B) (hr.mono (by decide)) hgd T.b__law_read takesE T.g__law_read T.k__law_read (sa_cons (se_call (ok_split_line T B) (hr.mono (by decide)) hgd T.b_split_line takesE T.g_split_line T.k_split_line (sa_cons (se_var (i := 3)) sa_nil)) sa_nil)) (se_neg se_int)) (sss_one (ss_ret se_bl)) sss_nil)
      (sss_cons (ss_if (st_w (sw_and (st_cmp (o_ne (hr.u (by decide))) (se_var (i := 3)) se_str) (sw_and (st_cmp (o_ne (hr.u (by decide))) (se_call (ok__law_read T B) (hr.mono (by decide)) hgd T.b__law_read takesE T.g__law_read T.k__law_read (sa_cons (se_call (ok_split_line T B) (hr.mono (by decide)) hgd T.b_split_line takesE T.g_split_line T.k_split_line (sa_cons (se_bin o_addS (se_bin o_addS se_str (se_var (i := 3))) se_str) sa_nil)) sa_nil)) (se_neg se_int)) (sw_and1 (st_cmp o_niL (se_var (i := 3)) (se_tup (sa_cons se_str sa_nil))))))) (sss_one (ss_ret se_bl)) sss_nil)
      (sss_cons (ss_set (i := 4) sc_law.nd (se_ix (hr.u (by decide)) (se_call0 (ok__law_near T B) (hr.mono (by decide)) hgd T.b__law_near takesE T.g__law_near T.k__law_near) (se_bin o_mod (se_callTy c_int (sa_cons (se_call (ok__law_draw T B) (hr.mono (by decide)) hgd T.b__law_draw takesE T.g__law_draw T.k__law_draw (sa_cons (se_var (i := 1)) (sa_cons se_int sa_nil))) sa_nil) T.n_int bt_int) (se_callB c_len (sa_cons (se_call0 (ok__law_near T B) (hr.mono (by decide)) hgd T.b__law_near takesE T.g__law_near T.k__law_near) sa_nil) T.n_len bt_len))))
      (sss_one (ss_if (st_cmp (o_ne (hr.u (by decide))) (se_call (ok__law_read T B) (hr.mono (by decide)) hgd T.b__law_read takesE T.g__law_read T.k__law_read (sa_cons (se_call (ok_split_line T B) (hr.mono (by decide)) hgd T.b_split_line takesE T.g_split_line T.k_split_line (sa_cons (se_var (i := 4)) sa_nil)) sa_nil)) (se_callB c_len (sa_cons (se_call (ok_split_line T B) (hr.mono (by decide)) hgd T.b_split_line takesE T.g_split_line T.k_split_line (sa_cons (se_var (i := 4)) sa_nil)) sa_nil) T.n_len bt_len)) (sss_one (ss_ret se_bl)) sss_nil)))))))
      (sss_cons (ss_set (i := 5) sc_law.nd (se_call (ok_split_line T B) (hr.mono (by decide)) hgd T.b_split_line takesE T.g_split_line T.k_split_line (sa_cons (se_call (ok__law_calls T B) (hr.mono (by decide)) hgd T.b__law_calls takesE T.g__law_calls T.k__law_calls (sa_cons se_int sa_nil)) sa_nil)))
      (sss_one (ss_ret (se_and (se_cmp (o_eq (hr.u (by decide))) (se_call (ok__law_read T B) (hr.mono (by decide)) hgd T.b__law_read takesE T.g__law_read T.k__law_read (sa_cons (se_var (i := 5)) sa_nil)) (se_callB c_len (sa_cons (se_var (i := 5)) sa_nil) T.n_len bt_len)) (se_one (se_cmp (o_eq (hr.u (by decide))) (se_call (ok__law_read T B) (hr.mono (by decide)) hgd T.b__law_read takesE T.g__law_read T.k__law_read (sa_cons (se_call (ok_split_line T B) (hr.mono (by decide)) hgd T.b_split_line takesE T.g_split_line T.k_split_line (sa_cons (se_call (ok__law_calls T B) (hr.mono (by decide)) hgd T.b__law_calls takesE T.g__law_calls T.k__law_calls (sa_cons se_int sa_nil)) sa_nil)) sa_nil)) (se_neg se_int)))))))))
end
theorem all_mk {P : Program} {w : World} {K : PySem.W.Frag} {h : Heap} {mg : Str → Option Value} {fa : Addr} (X : K.In h) (G : h.Ns mainGlobals mg) (hfa : mg "law" = some (.ref fa))
    {c_Reading : Addr}
    (A_Reading : PySem.W.nsIn K mainGlobals "Reading" = some (some (.ref c_Reading)))
    (pg_Reading : PySem.W.plainGet K c_Reading Str.empty = true)
    (hd_Reading : PySem.W.hasDictIn K c_Reading = true)
    (po_Reading : PySem.W.plainOver K c_Reading = true)
    (sa_Reading : PySem.W.findIn K (.ref c_Reading) "__setattr__" = some (some (.builtin "object.__setattr__")))
    (mk_Reading : PySem.W.makesIn K c_Reading = true)
    (kc_Reading : PySem.W.keepIn K (.ref c_Reading) = true)
    {c_BadSigns : Addr}
    (A_BadSigns : PySem.W.nsIn K mainGlobals "BadSigns" = some (some (.ref c_BadSigns)))
    {c_BadExpression : Addr}
    (A_BadExpression : PySem.W.nsIn K mainGlobals "BadExpression" = some (some (.ref c_BadExpression)))
    {c_ViewError : Addr}
    (A_ViewError : PySem.W.nsIn K mainGlobals "ViewError" = some (some (.ref c_ViewError)))
    (em_ViewError_Reading : PySem.W.exmOne K (.ref c_Reading) (.ref c_ViewError) = some false)
    {xi_BadSigns xc_BadSigns xo_BadSigns xN_BadSigns : Addr} {xnm_BadSigns xq_BadSigns xfile_BadSigns : Str} {xbs_BadSigns xbm_BadSigns xsub_BadSigns : List Value} {xsn_BadSigns : List Str} {xab_BadSigns : Bool} {xcol_BadSigns : Option Bool} {xdd_BadSigns xod_BadSigns xan_BadSigns xcld_BadSigns xcdd_BadSigns : Option Addr} {xk0_BadSigns xk1_BadSigns xk2_BadSigns xk3_BadSigns xk5_BadSigns : Option Value}
    {xoc_BadSigns xkV_BadSigns xdoc_BadSigns xpm_BadSigns xctv_BadSigns xcl_BadSigns xccl_BadSigns : Value} {xosl_BadSigns xcsl_BadSigns xccs_BadSigns : Array (Option Value)} {xvs_BadSigns : Array Value} {xtf_BadSigns : Tok} {xcd_BadSigns : ClassData}
    (xL_BadSigns : K.lookup c_BadSigns = some (excClassObj xnm_BadSigns xq_BadSigns c_BadSigns xN_BadSigns xbs_BadSigns xbm_BadSigns true xsn_BadSigns xsub_BadSigns xab_BadSigns xcol_BadSigns xdd_BadSigns xk0_BadSigns xk1_BadSigns xk2_BadSigns xk3_BadSigns xk5_BadSigns "ValueError.__new__"))
    (xR_BadSigns : PySem.HandSPX.refsVE xbm_BadSigns = true)
    (xS_BadSigns : PySem.W.findIn K (.ref c_BadSigns) "__setattr__" = some (some (.builtin "object.__setattr__")))
    (xB_BadSigns : PySem.W.subIn K (.ref c_BadSigns) (.type "BaseException") = some true)
    (xT_BadSigns : PySem.W.typeIn K (.ref c_BadSigns) = some (.type "type"))
    (xK_BadSigns : PySem.W.keepIn K (.ref c_BadSigns) = true)
    (xI_BadSigns : PySem.W.findIn K (.ref c_BadSigns) "__init__" = some (some (.ref xi_BadSigns)))
    (xU_BadSigns : PySem.W.typeIn K (.ref xi_BadSigns) = some (.type "function"))
    (xF_BadSigns : K.lookup xi_BadSigns = some ⟨xoc_BadSigns, xod_BadSigns, .func (PySem.W.fnX "__init__" "BadSigns.__init__" (defArgs st_BadSigns___init__) (defBody st_BadSigns___init__) (defScope st_BadSigns___init__) [(("__class__" : Str), xc_BadSigns)] .none xkV_BadSigns xdoc_BadSigns xpm_BadSigns xan_BadSigns (.ref xo_BadSigns) xctv_BadSigns), xosl_BadSigns⟩)
    (xC_BadSigns : PySem.W.codeIn K (.ref xo_BadSigns) "BadSigns.__init__" = true)
    (xE_BadSigns : K.lookup xc_BadSigns = some ⟨xcl_BadSigns, xcld_BadSigns, .cell (some (.ref c_BadSigns)), xcsl_BadSigns⟩)
    (xD_BadSigns : K.lookup xo_BadSigns = some ⟨xccl_BadSigns, xcdd_BadSigns, .fields xvs_BadSigns, xccs_BadSigns⟩)
    (xV_BadSigns : xvs_BadSigns[2]? = some (.str xfile_BadSigns xtf_BadSigns))
    (xG_BadSigns : ((P.main.file : Str) == xfile_BadSigns) = true)
    (xH_BadSigns : (P.main.scope.names.lookup ("super" : Str)).isSome = false)
    (xJ_BadSigns : PySem.W.clsIn K c_BadSigns = some xcd_BadSigns)
    (xM_BadSigns : PySem.W.mroIn K c_BadSigns (.ref c_BadSigns) = some true)
    (xP_BadSigns : PySem.W.ks_superIn K c_BadSigns c_BadSigns "__init__" = some (some (.builtin "ValueError.__init__")))
    (xQ_BadSigns : PySem.W.subIn K (.ref c_BadSigns) (.type "ValueError") = some true)
    (xO_BadSigns : PySem.W.nsIn K cStatics "thirdparty.any" = some none)
    (xN1_BadSigns : PySem.W.findIn K (.ref c_BadSigns) "offset" = some none)
    (xg_BadSigns : PySem.W.findIn K (.ref c_BadSigns) "__getattribute__" = some (some (.builtin "BaseException.__getattribute__")))
    (xk_BadSigns : PySem.W.findIn K (.ref c_BadSigns) "__getattr__" = some none)
    (xd_BadSigns : PySem.W.hasDictIn K c_BadSigns = true)
    (xa_BadSigns : PySem.W.findIn K (.ref c_BadSigns) "__class__" = some (some (.builtin "object.__class__")))
    (xn_BadSigns : PySem.W.specialIn K (.builtin "object.__class__") "__get__" = some (some (.builtin "getset_descriptor.__get__")))
    (xt_BadSigns : PySem.W.takesIn K (.builtin "object.__class__") = some true)
    (xm_BadSigns : PySem.W.mroIn K c_BadSigns (.type "object") = some true)
    (em_ViewError_BadSigns : PySem.W.exmOne K (.ref c_BadSigns) (.ref c_ViewError) = some true)
    (ki_ValueError_BadSigns : PySem.W.kitOne K (.ref c_BadSigns) (.type "ValueError") = some true)
    (xq_BadExpression : PySem.W.excIn K c_BadExpression [.type "ValueError", .type "Exception", .type "BaseException", .type "object"] "ValueError.__new__" = true)
    (xB_BadExpression : PySem.W.subIn K (.ref c_BadExpression) (.type "BaseException") = some true)
    (xT_BadExpression : PySem.W.typeIn K (.ref c_BadExpression) = some (.type "type"))
    (xK_BadExpression : PySem.W.keepIn K (.ref c_BadExpression) = true)
    (xg_BadExpression : PySem.W.findIn K (.ref c_BadExpression) "__getattribute__" = some (some (.builtin "BaseException.__getattribute__")))
    (xk_BadExpression : PySem.W.findIn K (.ref c_BadExpression) "__getattr__" = some none)
    (xd_BadExpression : PySem.W.hasDictIn K c_BadExpression = true)
    (xa_BadExpression : PySem.W.findIn K (.ref c_BadExpression) "__class__" = some (some (.builtin "object.__class__")))
    (xn_BadExpression : PySem.W.specialIn K (.builtin "object.__class__") "__get__" = some (some (.builtin "getset_descriptor.__get__")))
    (xt_BadExpression : PySem.W.takesIn K (.builtin "object.__class__") = some true)
    (xm_BadExpression : PySem.W.mroIn K c_BadExpression (.type "object") = some true)
    (em_ViewError_BadExpression : PySem.W.exmOne K (.ref c_BadExpression) (.ref c_ViewError) = some true)
    (ki_BadExpression_BadExpression : PySem.W.kitOne K (.ref c_BadExpression) (.ref c_BadExpression) = some true)
    (ki_ValueError_BadExpression : PySem.W.kitOne K (.ref c_BadExpression) (.type "ValueError") = some true)
    {t_CALLS_MOST : Tok}
    (V_CALLS_MOST : PySem.W.nsIn K mainGlobals "CALLS_MOST" = some (some (.int 10 t_CALLS_MOST)))
    {t_CHARACTERS : Tok}
    (V_CHARACTERS : PySem.W.nsIn K mainGlobals "CHARACTERS" = some (some (.str " !\"#$&'()*+,-./0123456789:;<=>?@ABCDEFGHIJKLMNOPQRSTUVWXYZ[\\]^_`abcdefghijklmnopqrstuvwxyz{|}~" t_CHARACTERS)))
    {t_DEPTH_MOST : Tok}
    (V_DEPTH_MOST : PySem.W.nsIn K mainGlobals "DEPTH_MOST" = some (some (.int 5 t_DEPTH_MOST)))
    {t_DIGITS : Tok}
    (V_DIGITS : PySem.W.nsIn K mainGlobals "DIGITS" = some (some (.str "0123456789" t_DIGITS)))
    {t_INTEGER_MOST : Tok}
    (V_INTEGER_MOST : PySem.W.nsIn K mainGlobals "INTEGER_MOST" = some (some (.int 999999 t_INTEGER_MOST)))
    {t_KEY_MOST : Tok}
    (V_KEY_MOST : PySem.W.nsIn K mainGlobals "KEY_MOST" = some (some (.int 12 t_KEY_MOST)))
    {t_LETTERS : Tok}
    (V_LETTERS : PySem.W.nsIn K mainGlobals "LETTERS" = some (some (.str "abcdefghijklmnopqrstuvwxyz" t_LETTERS)))
    {t_MAP_MOST : Tok}
    (V_MAP_MOST : PySem.W.nsIn K mainGlobals "MAP_MOST" = some (some (.int 8 t_MAP_MOST)))
    {t_MARKS : Tok}
    (V_MARKS : PySem.W.nsIn K mainGlobals "MARKS" = some (some (.str "(),=" t_MARKS)))
    {t_NAME_MOST : Tok}
    (V_NAME_MOST : PySem.W.nsIn K mainGlobals "NAME_MOST" = some (some (.int 12 t_NAME_MOST)))
    {t_NUMBER_DIGITS : Tok}
    (V_NUMBER_DIGITS : PySem.W.nsIn K mainGlobals "NUMBER_DIGITS" = some (some (.int 9 t_NUMBER_DIGITS)))
    {t_RUN : Tok}
    (V_RUN : PySem.W.nsIn K mainGlobals "RUN" = some (some (.str "abcdefghijklmnopqrstuvwxyzABCDEFGHIJKLMNOPQRSTUVWXYZ0123456789" t_RUN)))
    {t_TEXT_MOST : Tok}
    (V_TEXT_MOST : PySem.W.nsIn K mainGlobals "TEXT_MOST" = some (some (.int 40 t_TEXT_MOST)))
    {d_ESCAPES : Addr} {es_ESCAPES : Array DictEntry} {en_ESCAPES : Nat}
    (D_ESCAPES : PySem.W.nsIn K mainGlobals "ESCAPES" = some (some (.ref d_ESCAPES)))
    (DL_ESCAPES : K.lookup d_ESCAPES = some ⟨.type "dict", none, .dict es_ESCAPES en_ESCAPES, #[]⟩)
    (DK_ESCAPES : PySem.W.KeysLit w.params es_ESCAPES.toList)
    {dt_ESCAPES_0 : Tok}
    (DV_ESCAPES_0 : PySem.W.nsIn K d_ESCAPES "\"" = some (some (.str "\"" dt_ESCAPES_0)))
    {dt_ESCAPES_1 : Tok}
    (DV_ESCAPES_1 : PySem.W.nsIn K d_ESCAPES "\\" = some (some (.str "\\" dt_ESCAPES_1)))
    {dt_ESCAPES_2 : Tok}
    (DV_ESCAPES_2 : PySem.W.nsIn K d_ESCAPES "n" = some (some (.str "\n" dt_ESCAPES_2)))
    (DS_ESCAPES : (d_ESCAPES == sysModules) = false)
    (DY_ESCAPES : Xs.Keyed es_ESCAPES.toList Lk03.D_ESCAPES)
    {d_NONE : Addr}
    (D_NONE : PySem.W.nsIn K mainGlobals "NONE" = some (some (.ref d_NONE)))
    (DC_NONE : kd K 40 (.ref d_NONE) = some Lk03.D_NONE)
    {d_RESERVED : Addr}
    (D_RESERVED : PySem.W.nsIn K mainGlobals "RESERVED" = some (some (.ref d_RESERVED)))
    (DC_RESERVED : kd K 40 (.ref d_RESERVED) = some Lk03.D_RESERVED)
    {d_WORDS : Addr} {es_WORDS : Array DictEntry} {en_WORDS : Nat}
    (D_WORDS : PySem.W.nsIn K mainGlobals "WORDS" = some (some (.ref d_WORDS)))
    (DL_WORDS : K.lookup d_WORDS = some ⟨.type "dict", none, .dict es_WORDS en_WORDS, #[]⟩)
    (DK_WORDS : PySem.W.KeysLit w.params es_WORDS.toList)
    (DS_WORDS : (d_WORDS == sysModules) = false)
    (DE_WORDS : kdE K 12 es_WORDS.toList = some Lk03.D_WORDS)
    {d_ARGUMENTS : Addr} {es_ARGUMENTS : Array DictEntry} {en_ARGUMENTS : Nat}
    (D_ARGUMENTS : PySem.W.nsIn K mainGlobals "ARGUMENTS" = some (some (.ref d_ARGUMENTS)))
    (DL_ARGUMENTS : K.lookup d_ARGUMENTS = some ⟨.type "dict", none, .dict es_ARGUMENTS en_ARGUMENTS, #[]⟩)
    (DK_ARGUMENTS : PySem.W.KeysLit w.params es_ARGUMENTS.toList)
    (DS_ARGUMENTS : (d_ARGUMENTS == sysModules) = false)
    (DE_ARGUMENTS : kdE K 12 es_ARGUMENTS.toList = some Lk03.D_ARGUMENTS)
    (na_Reading_at : PySem.W.findIn K (.ref c_Reading) "at" = some none)
    (na_Reading_calls : PySem.W.findIn K (.ref c_Reading) "calls" = some none)
    (na_Reading_signs : PySem.W.findIn K (.ref c_Reading) "signs" = some none)
    {a0 : Addr} {od0 an0 : Option Addr} {sl0 : Array (Option Value)} {oc0 kV0 dc0 pm0 ct0 : Value} {cd0 : Value}
    (A0 : PySem.W.nsIn K mainGlobals "run_behind" = some (some (.ref a0)))
    (l0 : K.lookup a0 = some ⟨oc0, od0, .func (PySem.W.fnOf "run_behind" "run_behind" (defArgs st_run_behind) (defBody st_run_behind) (defScope st_run_behind) .none kV0 dc0 pm0 an0 cd0 ct0), sl0⟩)
    (c0 : PySem.W.codeIn K cd0 "run_behind" = true)
    (k0 : PySem.W.keepIn K (.ref a0) = true)
    {a1 : Addr} {od1 an1 : Option Addr} {sl1 : Array (Option Value)} {oc1 kV1 dc1 pm1 ct1 : Value}
    (A1 : PySem.W.nsIn K mainGlobals "is_name" = some (some (.ref a1)))
    {cc1 pp1 : Addr}
    (l1 : K.lookup a1 = some ⟨oc1, od1, .func (PySem.W.fnOf "is_name" "is_name" (defArgs st_is_name) (defBody st_is_name) (defScope st_is_name) .none kV1 dc1 pm1 an1 (.ref cc1) ct1), sl1⟩)
    (c1 : PySem.W.codeIn K (.ref cc1) "is_name" = true)
    (tt1 : tabAtC K cc1 = some pp1)
    (th1 : PySem.W.codeHdIn K cc1 pp1 = true)
    (tn1 : K.lookup pp1 = none)
    (ty1 : h.get? pp1 = some (PySem.W.tabObj #[]))
    (k1 : PySem.W.keepIn K (.ref a1) = true)
    {a2 : Addr} {od2 an2 : Option Addr} {sl2 : Array (Option Value)} {oc2 kV2 dc2 pm2 ct2 : Value}
    (A2 : PySem.W.nsIn K mainGlobals "run_sign" = some (some (.ref a2)))
    {cc2 pp2 : Addr}
    (l2 : K.lookup a2 = some ⟨oc2, od2, .func (PySem.W.fnOf "run_sign" "run_sign" (defArgs st_run_sign) (defBody st_run_sign) (defScope st_run_sign) .none kV2 dc2 pm2 an2 (.ref cc2) ct2), sl2⟩)
    (c2 : PySem.W.codeIn K (.ref cc2) "run_sign" = true)
    (tt2 : tabAtC K cc2 = some pp2)
    (th2 : PySem.W.codeHdIn K cc2 pp2 = true)
    (tn2 : K.lookup pp2 = none)
    (ty2 : h.get? pp2 = some (PySem.W.tabObj #[]))
    (k2 : PySem.W.keepIn K (.ref a2) = true)
    {a3 : Addr} {od3 an3 : Option Addr} {sl3 : Array (Option Value)} {oc3 kV3 dc3 pm3 ct3 : Value} {cd3 : Value}
    (A3 : PySem.W.nsIn K mainGlobals "quoted_sign" = some (some (.ref a3)))
    (l3 : K.lookup a3 = some ⟨oc3, od3, .func (PySem.W.fnOf "quoted_sign" "quoted_sign" (defArgs st_quoted_sign) (defBody st_quoted_sign) (defScope st_quoted_sign) .none kV3 dc3 pm3 an3 cd3 ct3), sl3⟩)
    (c3 : PySem.W.codeIn K cd3 "quoted_sign" = true)
    (k3 : PySem.W.keepIn K (.ref a3) = true)
    {a4 : Addr} {od4 an4 : Option Addr} {sl4 : Array (Option Value)} {oc4 kV4 dc4 pm4 ct4 : Value} {cd4 : Value}
    (A4 : PySem.W.nsIn K mainGlobals "split_line" = some (some (.ref a4)))
    (l4 : K.lookup a4 = some ⟨oc4, od4, .func (PySem.W.fnOf "split_line" "split_line" (defArgs st_split_line) (defBody st_split_line) (defScope st_split_line) .none kV4 dc4 pm4 an4 cd4 ct4), sl4⟩)
    (c4 : PySem.W.codeIn K cd4 "split_line" = true)
    (k4 : PySem.W.keepIn K (.ref a4) = true)
    {a5 : Addr} {od5 an5 : Option Addr} {sl5 : Array (Option Value)} {oc5 kV5 dc5 pm5 ct5 : Value} {cd5 : Value}
    (A5 : PySem.W.nsIn K mainGlobals "_law_cell" = some (some (.ref a5)))
    (l5 : K.lookup a5 = some ⟨oc5, od5, .func (PySem.W.fnOf "_law_cell" "_law_cell" (defArgs st__law_cell) (defBody st__law_cell) (defScope st__law_cell) .none kV5 dc5 pm5 an5 cd5 ct5), sl5⟩)
    (c5 : PySem.W.codeIn K cd5 "_law_cell" = true)
    (k5 : PySem.W.keepIn K (.ref a5) = true)
    {a6 : Addr} {od6 an6 : Option Addr} {sl6 : Array (Option Value)} {oc6 kV6 dc6 pm6 ct6 : Value} {cd6 : Value}
    (A6 : PySem.W.nsIn K mainGlobals "_law_digits" = some (some (.ref a6)))
    (l6 : K.lookup a6 = some ⟨oc6, od6, .func (PySem.W.fnOf "_law_digits" "_law_digits" (defArgs st__law_digits) (defBody st__law_digits) (defScope st__law_digits) .none kV6 dc6 pm6 an6 cd6 ct6), sl6⟩)
    (c6 : PySem.W.codeIn K cd6 "_law_digits" = true)
    (k6 : PySem.W.keepIn K (.ref a6) = true)
    {a7 : Addr} {od7 an7 : Option Addr} {sl7 : Array (Option Value)} {oc7 kV7 dc7 pm7 ct7 : Value} {cd7 : Value}
    (A7 : PySem.W.nsIn K mainGlobals "_law_calls" = some (some (.ref a7)))
    (l7 : K.lookup a7 = some ⟨oc7, od7, .func (PySem.W.fnOf "_law_calls" "_law_calls" (defArgs st__law_calls) (defBody st__law_calls) (defScope st__law_calls) .none kV7 dc7 pm7 an7 cd7 ct7), sl7⟩)
    (c7 : PySem.W.codeIn K cd7 "_law_calls" = true)
    (k7 : PySem.W.keepIn K (.ref a7) = true)
    {a8 : Addr} {od8 an8 : Option Addr} {sl8 : Array (Option Value)} {oc8 kV8 dc8 pm8 ct8 : Value} {cd8 : Value}
    (A8 : PySem.W.nsIn K mainGlobals "_law_wrong" = some (some (.ref a8)))
    (l8 : K.lookup a8 = some ⟨oc8, od8, .func (PySem.W.fnOf "_law_wrong" "_law_wrong" (defArgs st__law_wrong) (defBody st__law_wrong) (defScope st__law_wrong) .none kV8 dc8 pm8 an8 cd8 ct8), sl8⟩)
    (c8 : PySem.W.codeIn K cd8 "_law_wrong" = true)
    (k8 : PySem.W.keepIn K (.ref a8) = true)
    {a9 : Addr} {od9 an9 : Option Addr} {sl9 : Array (Option Value)} {oc9 kV9 dc9 pm9 ct9 : Value} {cd9 : Value}
    (A9 : PySem.W.findIn K (.ref c_Reading) "__init__" = some (some (.ref a9)))
    (i9 : PySem.W.isFn K (.ref a9) = true)
    (l9 : K.lookup a9 = some ⟨oc9, od9, .func (PySem.W.fnOf "__init__" "Reading.__init__" (defArgs st_Reading___init__) (defBody st_Reading___init__) (defScope st_Reading___init__) .none kV9 dc9 pm9 an9 cd9 ct9), sl9⟩)
    (c9 : PySem.W.codeIn K cd9 "Reading.__init__" = true)
    (k9 : PySem.W.keepIn K (.ref a9) = true)
    {a10 : Addr} {od10 an10 : Option Addr} {sl10 : Array (Option Value)} {oc10 kV10 dc10 pm10 ct10 : Value} {cd10 : Value}
    (A10 : PySem.W.findIn K (.ref c_Reading) "sign" = some (some (.ref a10)))
    (i10 : PySem.W.isFn K (.ref a10) = true)
    (l10 : K.lookup a10 = some ⟨oc10, od10, .func (PySem.W.fnOf "sign" "Reading.sign" (defArgs st_Reading_sign) (defBody st_Reading_sign) (defScope st_Reading_sign) .none kV10 dc10 pm10 an10 cd10 ct10), sl10⟩)
    (c10 : PySem.W.codeIn K cd10 "Reading.sign" = true)
    (k10 : PySem.W.keepIn K (.ref a10) = true)
    {a11 : Addr} {od11 an11 : Option Addr} {sl11 : Array (Option Value)} {oc11 kV11 dc11 pm11 ct11 : Value} {cd11 : Value}
    (A11 : PySem.W.findIn K (.ref c_Reading) "take" = some (some (.ref a11)))
    (i11 : PySem.W.isFn K (.ref a11) = true)
    (l11 : K.lookup a11 = some ⟨oc11, od11, .func (PySem.W.fnOf "take" "Reading.take" (defArgs st_Reading_take) (defBody st_Reading_take) (defScope st_Reading_take) .none kV11 dc11 pm11 an11 cd11 ct11), sl11⟩)
    (c11 : PySem.W.codeIn K cd11 "Reading.take" = true)
    (k11 : PySem.W.keepIn K (.ref a11) = true)
    {a12 : Addr} {od12 an12 : Option Addr} {sl12 : Array (Option Value)} {oc12 kV12 dc12 pm12 ct12 : Value} {cd12 : Value}
    (A12 : PySem.W.nsIn K mainGlobals "is_number" = some (some (.ref a12)))
    (l12 : K.lookup a12 = some ⟨oc12, od12, .func (PySem.W.fnOf "is_number" "is_number" (defArgs st_is_number) (defBody st_is_number) (defScope st_is_number) .none kV12 dc12 pm12 an12 cd12 ct12), sl12⟩)
    (c12 : PySem.W.codeIn K cd12 "is_number" = true)
    (k12 : PySem.W.keepIn K (.ref a12) = true)
    {a13 : Addr} {od13 an13 : Option Addr} {sl13 : Array (Option Value)} {oc13 kV13 dc13 pm13 ct13 : Value}
    (A13 : PySem.W.nsIn K mainGlobals "is_text" = some (some (.ref a13)))
    {cc13 pp13 : Addr}
    (l13 : K.lookup a13 = some ⟨oc13, od13, .func (PySem.W.fnOf "is_text" "is_text" (defArgs st_is_text) (defBody st_is_text) (defScope st_is_text) .none kV13 dc13 pm13 an13 (.ref cc13) ct13), sl13⟩)
    (c13 : PySem.W.codeIn K (.ref cc13) "is_text" = true)
    (tt13 : tabAtC K cc13 = some pp13)
    (th13 : PySem.W.codeHdIn K cc13 pp13 = true)
    (tn13 : K.lookup pp13 = none)
    (ty13 : h.get? pp13 = some (PySem.W.tabObj #[]))
    (k13 : PySem.W.keepIn K (.ref a13) = true)
    {a14 : Addr} {od14 an14 : Option Addr} {sl14 : Array (Option Value)} {oc14 kV14 dc14 pm14 ct14 : Value} {cd14 : Value}
    (A14 : PySem.W.nsIn K mainGlobals "is_scalar" = some (some (.ref a14)))
    (l14 : K.lookup a14 = some ⟨oc14, od14, .func (PySem.W.fnOf "is_scalar" "is_scalar" (defArgs st_is_scalar) (defBody st_is_scalar) (defScope st_is_scalar) .none kV14 dc14 pm14 an14 cd14 ct14), sl14⟩)
    (c14 : PySem.W.codeIn K cd14 "is_scalar" = true)
    (k14 : PySem.W.keepIn K (.ref a14) = true)
    {a15 : Addr} {od15 an15 : Option Addr} {sl15 : Array (Option Value)} {oc15 kV15 dc15 pm15 ct15 : Value} {cd15 : Value}
    (A15 : PySem.W.nsIn K mainGlobals "scalar_of" = some (some (.ref a15)))
    (l15 : K.lookup a15 = some ⟨oc15, od15, .func (PySem.W.fnOf "scalar_of" "scalar_of" (defArgs st_scalar_of) (defBody st_scalar_of) (defScope st_scalar_of) .none kV15 dc15 pm15 an15 cd15 ct15), sl15⟩)
    (c15 : PySem.W.codeIn K cd15 "scalar_of" = true)
    (k15 : PySem.W.keepIn K (.ref a15) = true)
    {a16 : Addr} {od16 an16 : Option Addr} {sl16 : Array (Option Value)} {oc16 kV16 dc16 pm16 ct16 : Value} {cd16 : Value}
    (A16 : PySem.W.nsIn K mainGlobals "read_scalar" = some (some (.ref a16)))
    (l16 : K.lookup a16 = some ⟨oc16, od16, .func (PySem.W.fnOf "read_scalar" "read_scalar" (defArgs st_read_scalar) (defBody st_read_scalar) (defScope st_read_scalar) .none kV16 dc16 pm16 an16 cd16 ct16), sl16⟩)
    (c16 : PySem.W.codeIn K cd16 "read_scalar" = true)
    (k16 : PySem.W.keepIn K (.ref a16) = true)
    {a17 : Addr} {od17 an17 : Option Addr} {sl17 : Array (Option Value)} {oc17 kV17 dc17 pm17 ct17 : Value} {cd17 : Value}
    (A17 : PySem.W.findIn K (.ref c_Reading) "call" = some (some (.ref a17)))
    (i17 : PySem.W.isFn K (.ref a17) = true)
    (l17 : K.lookup a17 = some ⟨oc17, od17, .func (PySem.W.fnOf "call" "Reading.call" (defArgs st_Reading_call) (defBody st_Reading_call) (defScope st_Reading_call) .none kV17 dc17 pm17 an17 cd17 ct17), sl17⟩)
    (c17 : PySem.W.codeIn K cd17 "Reading.call" = true)
    (k17 : PySem.W.keepIn K (.ref a17) = true)
    {a18 : Addr} {od18 an18 : Option Addr} {sl18 : Array (Option Value)} {oc18 kV18 dc18 pm18 ct18 : Value} {cd18 : Value}
    (A18 : PySem.W.findIn K (.ref c_Reading) "expect" = some (some (.ref a18)))
    (i18 : PySem.W.isFn K (.ref a18) = true)
    (l18 : K.lookup a18 = some ⟨oc18, od18, .func (PySem.W.fnOf "expect" "Reading.expect" (defArgs st_Reading_expect) (defBody st_Reading_expect) (defScope st_Reading_expect) .none kV18 dc18 pm18 an18 cd18 ct18), sl18⟩)
    (c18 : PySem.W.codeIn K cd18 "Reading.expect" = true)
    (k18 : PySem.W.keepIn K (.ref a18) = true)
    {a19 : Addr} {od19 an19 : Option Addr} {sl19 : Array (Option Value)} {oc19 kV19 dc19 pm19 ct19 : Value} {cd19 : Value}
    (A19 : PySem.W.findIn K (.ref c_Reading) "passed" = some (some (.ref a19)))
    (i19 : PySem.W.isFn K (.ref a19) = true)
    (l19 : K.lookup a19 = some ⟨oc19, od19, .func (PySem.W.fnOf "passed" "Reading.passed" (defArgs st_Reading_passed) (defBody st_Reading_passed) (defScope st_Reading_passed) .none kV19 dc19 pm19 an19 cd19 ct19), sl19⟩)
    (c19 : PySem.W.codeIn K cd19 "Reading.passed" = true)
    (k19 : PySem.W.keepIn K (.ref a19) = true)
    {a20 : Addr} {od20 an20 : Option Addr} {sl20 : Array (Option Value)} {oc20 kV20 dc20 pm20 ct20 : Value} {cd20 : Value}
    (A20 : PySem.W.nsIn K mainGlobals "is_key" = some (some (.ref a20)))
    (l20 : K.lookup a20 = some ⟨oc20, od20, .func (PySem.W.fnOf "is_key" "is_key" (defArgs st_is_key) (defBody st_is_key) (defScope st_is_key) .none kV20 dc20 pm20 an20 cd20 ct20), sl20⟩)
    (c20 : PySem.W.codeIn K cd20 "is_key" = true)
    (k20 : PySem.W.keepIn K (.ref a20) = true)
    {a21 : Addr} {od21 an21 : Option Addr} {sl21 : Array (Option Value)} {oc21 kV21 dc21 pm21 ct21 : Value} {cd21 : Value}
    (A21 : PySem.W.nsIn K mainGlobals "is_entry" = some (some (.ref a21)))
    (l21 : K.lookup a21 = some ⟨oc21, od21, .func (PySem.W.fnOf "is_entry" "is_entry" (defArgs st_is_entry) (defBody st_is_entry) (defScope st_is_entry) .none kV21 dc21 pm21 an21 cd21 ct21), sl21⟩)
    (c21 : PySem.W.codeIn K cd21 "is_entry" = true)
    (k21 : PySem.W.keepIn K (.ref a21) = true)
    {a22 : Addr} {od22 an22 : Option Addr} {sl22 : Array (Option Value)} {oc22 kV22 dc22 pm22 ct22 : Value}
    (A22 : PySem.W.nsIn K mainGlobals "is_value" = some (some (.ref a22)))
    {cc22 pp22 : Addr}
    (l22 : K.lookup a22 = some ⟨oc22, od22, .func (PySem.W.fnOf "is_value" "is_value" (defArgs st_is_value) (defBody st_is_value) (defScope st_is_value) .none kV22 dc22 pm22 an22 (.ref cc22) ct22), sl22⟩)
    (c22 : PySem.W.codeIn K (.ref cc22) "is_value" = true)
    (tt22 : tabAtC K cc22 = some pp22)
    (th22 : PySem.W.codeHdIn K cc22 pp22 = true)
    (tn22 : K.lookup pp22 = none)
    (ty22 : h.get? pp22 = some (PySem.W.tabObj #[]))
    (k22 : PySem.W.keepIn K (.ref a22) = true)
    {a23 : Addr} {od23 an23 : Option Addr} {sl23 : Array (Option Value)} {oc23 kV23 dc23 pm23 ct23 : Value} {cd23 : Value}
    (A23 : PySem.W.nsIn K mainGlobals "read_map" = some (some (.ref a23)))
    (l23 : K.lookup a23 = some ⟨oc23, od23, .func (PySem.W.fnOf "read_map" "read_map" (defArgs st_read_map) (defBody st_read_map) (defScope st_read_map) .none kV23 dc23 pm23 an23 cd23 ct23), sl23⟩)
    (c23 : PySem.W.codeIn K cd23 "read_map" = true)
    (k23 : PySem.W.keepIn K (.ref a23) = true)
    {a24 : Addr} {od24 an24 : Option Addr} {sl24 : Array (Option Value)} {oc24 kV24 dc24 pm24 ct24 : Value} {cd24 : Value}
    (A24 : PySem.W.nsIn K mainGlobals "read_inject" = some (some (.ref a24)))
    (l24 : K.lookup a24 = some ⟨oc24, od24, .func (PySem.W.fnOf "read_inject" "read_inject" (defArgs st_read_inject) (defBody st_read_inject) (defScope st_read_inject) .none kV24 dc24 pm24 an24 cd24 ct24), sl24⟩)
    (c24 : PySem.W.codeIn K cd24 "read_inject" = true)
    (k24 : PySem.W.keepIn K (.ref a24) = true)
    {a25 : Addr} {od25 an25 : Option Addr} {sl25 : Array (Option Value)} {oc25 kV25 dc25 pm25 ct25 : Value} {cd25 : Value}
    (A25 : PySem.W.nsIn K mainGlobals "read_arguments" = some (some (.ref a25)))
    (l25 : K.lookup a25 = some ⟨oc25, od25, .func (PySem.W.fnOf "read_arguments" "read_arguments" (defArgs st_read_arguments) (defBody st_read_arguments) (defScope st_read_arguments) .none kV25 dc25 pm25 an25 cd25 ct25), sl25⟩)
    (c25 : PySem.W.codeIn K cd25 "read_arguments" = true)
    (k25 : PySem.W.keepIn K (.ref a25) = true)
    {a26 : Addr} {od26 an26 : Option Addr} {sl26 : Array (Option Value)} {oc26 kV26 dc26 pm26 ct26 : Value} {cd26 : Value}
    (A26 : PySem.W.nsIn K mainGlobals "read_next" = some (some (.ref a26)))
    (l26 : K.lookup a26 = some ⟨oc26, od26, .func (PySem.W.fnOf "read_next" "read_next" (defArgs st_read_next) (defBody st_read_next) (defScope st_read_next) .none kV26 dc26 pm26 an26 cd26 ct26), sl26⟩)
    (c26 : PySem.W.codeIn K cd26 "read_next" = true)
    (k26 : PySem.W.keepIn K (.ref a26) = true)
    {a27 : Addr} {od27 an27 : Option Addr} {sl27 : Array (Option Value)} {oc27 kV27 dc27 pm27 ct27 : Value} {cd27 : Value}
    (A27 : PySem.W.nsIn K mainGlobals "read_expression" = some (some (.ref a27)))
    (l27 : K.lookup a27 = some ⟨oc27, od27, .func (PySem.W.fnOf "read_expression" "read_expression" (defArgs st_read_expression) (defBody st_read_expression) (defScope st_read_expression) .none kV27 dc27 pm27 an27 cd27 ct27), sl27⟩)
    (c27 : PySem.W.codeIn K cd27 "read_expression" = true)
    (k27 : PySem.W.keepIn K (.ref a27) = true)
    {a28 : Addr} {od28 an28 : Option Addr} {sl28 : Array (Option Value)} {oc28 kV28 dc28 pm28 ct28 : Value} {cd28 : Value}
    (A28 : PySem.W.nsIn K mainGlobals "_law_read" = some (some (.ref a28)))
    (l28 : K.lookup a28 = some ⟨oc28, od28, .func (PySem.W.fnOf "_law_read" "_law_read" (defArgs st__law_read) (defBody st__law_read) (defScope st__law_read) .none kV28 dc28 pm28 an28 cd28 ct28), sl28⟩)
    (c28 : PySem.W.codeIn K cd28 "_law_read" = true)
    (k28 : PySem.W.keepIn K (.ref a28) = true)
    {a29 : Addr} {od29 an29 : Option Addr} {sl29 : Array (Option Value)} {oc29 kV29 dc29 pm29 ct29 : Value} {cd29 : Value}
    (A29 : PySem.W.nsIn K mainGlobals "_law_near" = some (some (.ref a29)))
    (l29 : K.lookup a29 = some ⟨oc29, od29, .func (PySem.W.fnOf "_law_near" "_law_near" (defArgs st__law_near) (defBody st__law_near) (defScope st__law_near) .none kV29 dc29 pm29 an29 cd29 ct29), sl29⟩)
    (c29 : PySem.W.codeIn K cd29 "_law_near" = true)
    (k29 : PySem.W.keepIn K (.ref a29) = true)
    {a30 : Addr} {od30 an30 : Option Addr} {sl30 : Array (Option Value)} {oc30 kV30 dc30 pm30 ct30 : Value} {cd30 : Value}
    (A30 : PySem.W.nsIn K mainGlobals "_law_draw" = some (some (.ref a30)))
    (l30 : K.lookup a30 = some ⟨oc30, od30, .func (PySem.W.fnOf "_law_draw" "_law_draw" (defArgs st__law_draw) (defBody st__law_draw) (defScope st__law_draw) .none kV30 dc30 pm30 an30 cd30 ct30), sl30⟩)
    (c30 : PySem.W.codeIn K cd30 "_law_draw" = true)
    (k30 : PySem.W.keepIn K (.ref a30) = true)
    {a31 : Addr} {od31 an31 : Option Addr} {sl31 : Array (Option Value)} {oc31 kV31 dc31 pm31 ct31 : Value} {cd31 : Value}
    (A31 : PySem.W.nsIn K mainGlobals "law" = some (some (.ref a31)))
    (l31 : K.lookup a31 = some ⟨oc31, od31, .func (PySem.W.fnOf "law" "law" (defArgs st_law) (defBody st_law) (defScope st_law) .none kV31 dc31 pm31 an31 cd31 ct31), sl31⟩)
    (c31 : PySem.W.codeIn K cd31 "law" = true)
    (k31 : PySem.W.keepIn K (.ref a31) = true)
    (z_ValueError : PySem.W.nsIn K mainGlobals "ValueError" = some none)
    (z_all : PySem.W.nsIn K mainGlobals "all" = some none)
    (z_bool : PySem.W.nsIn K mainGlobals "bool" = some none)
    (z_int : PySem.W.nsIn K mainGlobals "int" = some none)
    (z_isinstance : PySem.W.nsIn K mainGlobals "isinstance" = some none)
    (z_len : PySem.W.nsIn K mainGlobals "len" = some none)
    (z_range : PySem.W.nsIn K mainGlobals "range" = some none)
    (z_str : PySem.W.nsIn K mainGlobals "str" = some none)
    (z_super : PySem.W.nsIn K mainGlobals "super" = some none)
    (z_tuple : PySem.W.nsIn K mainGlobals "tuple" = some none) :
    ∃ (fd : FuncData) (g : Xs.G), g.K = K ∧ Tabs0 K h g.tb ∧ (∀ (s : Shared) (u : Value), BindsTo s fd ⟨[u], []⟩ [("_law_script", u)]) ∧ ∀ base : Heap, K.In base → base.Ns mainGlobals mg → (∀ p ∈ g.tb, GxR.TabB base mg p.1 p.2) → FnG P w K mg base 29 fa fd ["_law_script"] (spF g F_law) := by
  have e := hfa.symm.trans (PySem.W.mg_of X G A31)
  cases e
  let T : Txt K mg := {
    a_Reading := c_Reading, g_Reading := PySem.W.mg_of X G A_Reading, cl_Reading := ⟨pg_Reading, hd_Reading, po_Reading, sa_Reading⟩,
    a_BadSigns := c_BadSigns, g_BadSigns := PySem.W.mg_of X G A_BadSigns,
    a_BadExpression := c_BadExpression, g_BadExpression := PySem.W.mg_of X G A_BadExpression,
    a_ViewError := c_ViewError, g_ViewError := PySem.W.mg_of X G A_ViewError,
    em_ViewError_Reading := em_ViewError_Reading,
    i_BadSigns := xi_BadSigns, x_BadSigns := xc_BadSigns, o_BadSigns := xo_BadSigns, fdx_BadSigns := _, ox_BadSigns := ⟨⟨_, _, _, _, _, _, _, _, _, _, _, _, _, _, _, xL_BadSigns, xR_BadSigns⟩, xS_BadSigns, xB_BadSigns, xT_BadSigns, xK_BadSigns⟩, ic_BadSigns := xI_BadSigns, tc_BadSigns := xU_BadSigns, bx_BadSigns := .all fun us hl => match us, hl with | [_, _], _ => rfl, fx_BadSigns := ⟨_, _, _, _, _, _, _, _, rfl, xF_BadSigns, xC_BadSigns⟩, no_BadSigns := xN1_BadSigns, xf_BadSigns := ⟨xg_BadSigns, xk_BadSigns, xB_BadSigns, xd_BadSigns⟩, ec_BadSigns := ⟨xg_BadSigns, xk_BadSigns, xB_BadSigns, xd_BadSigns, xa_BadSigns, xn_BadSigns, xt_BadSigns, xm_BadSigns⟩,
    em_ViewError_BadSigns := em_ViewError_BadSigns,
    ki_ValueError_BadSigns := ki_ValueError_BadSigns,
    q_BadExpression := xq_BadExpression, kx_BadExpression := xK_BadExpression, eb_BadExpression := xB_BadExpression, et_BadExpression := xT_BadExpression, ec_BadExpression := ⟨xg_BadExpression, xk_BadExpression, xB_BadExpression, xd_BadExpression, xa_BadExpression, xn_BadExpression, xt_BadExpression, xm_BadExpression⟩,
    em_ViewError_BadExpression := em_ViewError_BadExpression,
    ki_BadExpression_BadExpression := ki_BadExpression_BadExpression,
    ki_ValueError_BadExpression := ki_ValueError_BadExpression,
    v_CALLS_MOST := _, g_CALLS_MOST := PySem.W.mg_of X G V_CALLS_MOST, r_CALLS_MOST := ⟨t_CALLS_MOST, rfl⟩,
    v_CHARACTERS := _, g_CHARACTERS := PySem.W.mg_of X G V_CHARACTERS, r_CHARACTERS := ⟨t_CHARACTERS, rfl⟩,
    v_DEPTH_MOST := _, g_DEPTH_MOST := PySem.W.mg_of X G V_DEPTH_MOST, r_DEPTH_MOST := ⟨t_DEPTH_MOST, rfl⟩,
    v_DIGITS := _, g_DIGITS := PySem.W.mg_of X G V_DIGITS, r_DIGITS := ⟨t_DIGITS, rfl⟩,
    v_INTEGER_MOST := _, g_INTEGER_MOST := PySem.W.mg_of X G V_INTEGER_MOST, r_INTEGER_MOST := ⟨t_INTEGER_MOST, rfl⟩,
    v_KEY_MOST := _, g_KEY_MOST := PySem.W.mg_of X G V_KEY_MOST, r_KEY_MOST := ⟨t_KEY_MOST, rfl⟩,
    v_LETTERS := _, g_LETTERS := PySem.W.mg_of X G V_LETTERS, r_LETTERS := ⟨t_LETTERS, rfl⟩,
    v_MAP_MOST := _, g_MAP_MOST := PySem.W.mg_of X G V_MAP_MOST, r_MAP_MOST := ⟨t_MAP_MOST, rfl⟩,
    v_MARKS := _, g_MARKS := PySem.W.mg_of X G V_MARKS, r_MARKS := ⟨t_MARKS, rfl⟩,
    v_NAME_MOST := _, g_NAME_MOST := PySem.W.mg_of X G V_NAME_MOST, r_NAME_MOST := ⟨t_NAME_MOST, rfl⟩,
    v_NUMBER_DIGITS := _, g_NUMBER_DIGITS := PySem.W.mg_of X G V_NUMBER_DIGITS, r_NUMBER_DIGITS := ⟨t_NUMBER_DIGITS, rfl⟩,
    v_RUN := _, g_RUN := PySem.W.mg_of X G V_RUN, r_RUN := ⟨t_RUN, rfl⟩,
    v_TEXT_MOST := _, g_TEXT_MOST := PySem.W.mg_of X G V_TEXT_MOST, r_TEXT_MOST := ⟨t_TEXT_MOST, rfl⟩,
    d_ESCAPES := d_ESCAPES, g_ESCAPES := PySem.W.mg_of X G D_ESCAPES,
    v_NONE := _, g_NONE := PySem.W.mg_of X G D_NONE,
    v_RESERVED := _, g_RESERVED := PySem.W.mg_of X G D_RESERVED,
    d_WORDS := d_WORDS, g_WORDS := PySem.W.mg_of X G D_WORDS,
    d_ARGUMENTS := d_ARGUMENTS, g_ARGUMENTS := PySem.W.mg_of X G D_ARGUMENTS,
    na_Reading_at := na_Reading_at,
    na_Reading_calls := na_Reading_calls,
    na_Reading_signs := na_Reading_signs,
    a_run_behind := a0, fd_run_behind := _, g_run_behind := PySem.W.mg_of X G A0, k_run_behind := k0, F_run_behind := fun_mk (st := st_run_behind) l0 c0 k0, b_run_behind := (fun_mk (st := st_run_behind) l0 c0 k0).binds (ps := ["line", "at"]) fun _ _ _ _ _ _ us hl => match us, hl with | [_, _], _ => rfl,
    c_is_name := cc1, p_is_name := pp1, cd_is_name := fun _ q => codeOf_one q l1,
    a_is_name := a1, fd_is_name := _, g_is_name := PySem.W.mg_of X G A1, k_is_name := k1, F_is_name := fun_mk (st := st_is_name) l1 c1 k1, b_is_name := (fun_mk (st := st_is_name) l1 c1 k1).binds (ps := ["thing"]) fun _ _ _ _ _ _ us hl => match us, hl with | [_], _ => rfl,
    c_run_sign := cc2, p_run_sign := pp2, cd_run_sign := fun _ q => codeOf_one q l2,
    a_run_sign := a2, fd_run_sign := _, g_run_sign := PySem.W.mg_of X G A2, k_run_sign := k2, F_run_sign := fun_mk (st := st_run_sign) l2 c2 k2, b_run_sign := (fun_mk (st := st_run_sign) l2 c2 k2).binds (ps := ["run", "at"]) fun _ _ _ _ _ _ us hl => match us, hl with | [_, _], _ => rfl,
    a_quoted_sign := a3, fd_quoted_sign := _, g_quoted_sign := PySem.W.mg_of X G A3, k_quoted_sign := k3, F_quoted_sign := fun_mk (st := st_quoted_sign) l3 c3 k3, b_quoted_sign := (fun_mk (st := st_quoted_sign) l3 c3 k3).binds (ps := ["line", "at"]) fun _ _ _ _ _ _ us hl => match us, hl with | [_, _], _ => rfl,
    a_split_line := a4, fd_split_line := _, g_split_line := PySem.W.mg_of X G A4, k_split_line := k4, F_split_line := fun_mk (st := st_split_line) l4 c4 k4, b_split_line := (fun_mk (st := st_split_line) l4 c4 k4).binds (ps := ["line"]) fun _ _ _ _ _ _ us hl => match us, hl with | [_], _ => rfl,
    a__law_cell := a5, fd__law_cell := _, g__law_cell := PySem.W.mg_of X G A5, k__law_cell := k5, F__law_cell := fun_mk (st := st__law_cell) l5 c5 k5, b__law_cell := (fun_mk (st := st__law_cell) l5 c5 k5).binds (ps := ["_law_script", "_law_k"]) fun _ _ _ _ _ _ us hl => match us, hl with | [_, _], _ => rfl,
    a__law_digits := a6, fd__law_digits := _, g__law_digits := PySem.W.mg_of X G A6, k__law_digits := k6, F__law_digits := fun_mk (st := st__law_digits) l6 c6 k6, b__law_digits := (fun_mk (st := st__law_digits) l6 c6 k6).binds (ps := ["_law_script", "_law_first", "_law_last"]) fun _ _ _ _ _ _ us hl => match us, hl with | [_, _, _], _ => rfl,
    a__law_calls := a7, fd__law_calls := _, g__law_calls := PySem.W.mg_of X G A7, k__law_calls := k7, F__law_calls := fun_mk (st := st__law_calls) l7 c7 k7, b__law_calls := (fun_mk (st := st__law_calls) l7 c7 k7).binds (ps := ["_law_many"]) fun _ _ _ _ _ _ us hl => match us, hl with | [_], _ => rfl,
    a__law_wrong := a8, fd__law_wrong := _, g__law_wrong := PySem.W.mg_of X G A8, k__law_wrong := k8, F__law_wrong := fun_mk (st := st__law_wrong) l8 c8 k8, b__law_wrong := (fun_mk (st := st__law_wrong) l8 c8 k8).binds (ps := []) fun _ _ _ _ _ _ us hl => match us, hl with | [], _ => rfl,
    a_Reading___init__ := a9, fd_Reading___init__ := _, k_Reading___init__ := k9, F_Reading___init__ := fun_mk (st := st_Reading___init__) l9 c9 k9, b_Reading___init__ := (fun_mk (st := st_Reading___init__) l9 c9 k9).binds (ps := ["self", "signs", "at"]) fun _ _ _ _ _ _ us hl => match us, hl with | [_, _, _], _ => rfl,
    mk_Reading := ⟨mk_Reading, A9, i9, kc_Reading⟩,
    a_Reading_sign := a10, fd_Reading_sign := _, k_Reading_sign := k10, F_Reading_sign := fun_mk (st := st_Reading_sign) l10 c10 k10, b_Reading_sign := (fun_mk (st := st_Reading_sign) l10 c10 k10).binds (ps := ["self"]) fun _ _ _ _ _ _ us hl => match us, hl with | [_], _ => rfl,
    me_Reading_sign := ⟨A10, i10, k10⟩,
    a_Reading_take := a11, fd_Reading_take := _, k_Reading_take := k11, F_Reading_take := fun_mk (st := st_Reading_take) l11 c11 k11, b_Reading_take := (fun_mk (st := st_Reading_take) l11 c11 k11).binds (ps := ["self"]) fun _ _ _ _ _ _ us hl => match us, hl with | [_], _ => rfl,
    me_Reading_take := ⟨A11, i11, k11⟩,
    a_is_number := a12, fd_is_number := _, g_is_number := PySem.W.mg_of X G A12, k_is_number := k12, F_is_number := fun_mk (st := st_is_number) l12 c12 k12, b_is_number := (fun_mk (st := st_is_number) l12 c12 k12).binds (ps := ["thing", "most"]) fun _ _ _ _ _ _ us hl => match us, hl with | [_, _], _ => rfl,
    c_is_text := cc13, p_is_text := pp13, cd_is_text := fun _ q => codeOf_one q l13,
    a_is_text := a13, fd_is_text := _, g_is_text := PySem.W.mg_of X G A13, k_is_text := k13, F_is_text := fun_mk (st := st_is_text) l13 c13 k13, b_is_text := (fun_mk (st := st_is_text) l13 c13 k13).binds (ps := ["thing", "least", "most"]) fun _ _ _ _ _ _ us hl => match us, hl with | [_, _, _], _ => rfl,
    a_is_scalar := a14, fd_is_scalar := _, g_is_scalar := PySem.W.mg_of X G A14, k_is_scalar := k14, F_is_scalar := fun_mk (st := st_is_scalar) l14 c14 k14, b_is_scalar := (fun_mk (st := st_is_scalar) l14 c14 k14).binds (ps := ["thing"]) fun _ _ _ _ _ _ us hl => match us, hl with | [_], _ => rfl,
    a_scalar_of := a15, fd_scalar_of := _, g_scalar_of := PySem.W.mg_of X G A15, k_scalar_of := k15, F_scalar_of := fun_mk (st := st_scalar_of) l15 c15 k15, b_scalar_of := (fun_mk (st := st_scalar_of) l15 c15 k15).binds (ps := ["sign"]) fun _ _ _ _ _ _ us hl => match us, hl with | [_], _ => rfl,
    a_read_scalar := a16, fd_read_scalar := _, g_read_scalar := PySem.W.mg_of X G A16, k_read_scalar := k16, F_read_scalar := fun_mk (st := st_read_scalar) l16 c16 k16, b_read_scalar := (fun_mk (st := st_read_scalar) l16 c16 k16).binds (ps := ["reading"]) fun _ _ _ _ _ _ us hl => match us, hl with | [_], _ => rfl,
    a_Reading_call := a17, fd_Reading_call := _, k_Reading_call := k17, F_Reading_call := fun_mk (st := st_Reading_call) l17 c17 k17, b_Reading_call := (fun_mk (st := st_Reading_call) l17 c17 k17).binds (ps := ["self", "depth"]) fun _ _ _ _ _ _ us hl => match us, hl with | [_, _], _ => rfl,
    me_Reading_call := ⟨A17, i17, k17⟩,
    a_Reading_expect := a18, fd_Reading_expect := _, k_Reading_expect := k18, F_Reading_expect := fun_mk (st := st_Reading_expect) l18 c18 k18, b_Reading_expect := (fun_mk (st := st_Reading_expect) l18 c18 k18).binds (ps := ["self", "mark"]) fun _ _ _ _ _ _ us hl => match us, hl with | [_, _], _ => rfl,
    me_Reading_expect := ⟨A18, i18, k18⟩,
    a_Reading_passed := a19, fd_Reading_passed := _, k_Reading_passed := k19, F_Reading_passed := fun_mk (st := st_Reading_passed) l19 c19 k19, b_Reading_passed := (fun_mk (st := st_Reading_passed) l19 c19 k19).binds (ps := ["self", "mark"]) fun _ _ _ _ _ _ us hl => match us, hl with | [_, _], _ => rfl,
    me_Reading_passed := ⟨A19, i19, k19⟩,
    a_is_key := a20, fd_is_key := _, g_is_key := PySem.W.mg_of X G A20, k_is_key := k20, F_is_key := fun_mk (st := st_is_key) l20 c20 k20, b_is_key := (fun_mk (st := st_is_key) l20 c20 k20).binds (ps := ["thing"]) fun _ _ _ _ _ _ us hl => match us, hl with | [_], _ => rfl,
    a_is_entry := a21, fd_is_entry := _, g_is_entry := PySem.W.mg_of X G A21, k_is_entry := k21, F_is_entry := fun_mk (st := st_is_entry) l21 c21 k21, b_is_entry := (fun_mk (st := st_is_entry) l21 c21 k21).binds (ps := ["thing"]) fun _ _ _ _ _ _ us hl => match us, hl with | [_], _ => rfl,
    c_is_value := cc22, p_is_value := pp22, cd_is_value := fun _ q => codeOf_one q l22,
    a_is_value := a22, fd_is_value := _, g_is_value := PySem.W.mg_of X G A22, k_is_value := k22, F_is_value := fun_mk (st := st_is_value) l22 c22 k22, b_is_value := (fun_mk (st := st_is_value) l22 c22 k22).binds (ps := ["thing"]) fun _ _ _ _ _ _ us hl => match us, hl with | [_], _ => rfl,
    a_read_map := a23, fd_read_map := _, g_read_map := PySem.W.mg_of X G A23, k_read_map := k23, F_read_map := fun_mk (st := st_read_map) l23 c23 k23, b_read_map := (fun_mk (st := st_read_map) l23 c23 k23).binds (ps := ["reading"]) fun _ _ _ _ _ _ us hl => match us, hl with | [_], _ => rfl,
    a_read_inject := a24, fd_read_inject := _, g_read_inject := PySem.W.mg_of X G A24, k_read_inject := k24, F_read_inject := fun_mk (st := st_read_inject) l24 c24 k24, b_read_inject := (fun_mk (st := st_read_inject) l24 c24 k24).binds (ps := ["reading", "depth"]) fun _ _ _ _ _ _ us hl => match us, hl with | [_, _], _ => rfl,
    a_read_arguments := a25, fd_read_arguments := _, g_read_arguments := PySem.W.mg_of X G A25, k_read_arguments := k25, F_read_arguments := fun_mk (st := st_read_arguments) l25 c25 k25, b_read_arguments := (fun_mk (st := st_read_arguments) l25 c25 k25).binds (ps := ["reading", "many", "depth"]) fun _ _ _ _ _ _ us hl => match us, hl with | [_, _, _], _ => rfl,
    a_read_next := a26, fd_read_next := _, g_read_next := PySem.W.mg_of X G A26, k_read_next := k26, F_read_next := fun_mk (st := st_read_next) l26 c26 k26, b_read_next := (fun_mk (st := st_read_next) l26 c26 k26).binds (ps := ["reading", "depth"]) fun _ _ _ _ _ _ us hl => match us, hl with | [_, _], _ => rfl,
    a_read_expression := a27, fd_read_expression := _, g_read_expression := PySem.W.mg_of X G A27, k_read_expression := k27, F_read_expression := fun_mk (st := st_read_expression) l27 c27 k27, b_read_expression := (fun_mk (st := st_read_expression) l27 c27 k27).binds (ps := ["signs", "at"]) fun _ _ _ _ _ _ us hl => match us, hl with | [_, _], _ => rfl,
    a__law_read := a28, fd__law_read := _, g__law_read := PySem.W.mg_of X G A28, k__law_read := k28, F__law_read := fun_mk (st := st__law_read) l28 c28 k28, b__law_read := (fun_mk (st := st__law_read) l28 c28 k28).binds (ps := ["_law_signs"]) fun _ _ _ _ _ _ us hl => match us, hl with | [_], _ => rfl,
    a__law_near := a29, fd__law_near := _, g__law_near := PySem.W.mg_of X G A29, k__law_near := k29, F__law_near := fun_mk (st := st__law_near) l29 c29 k29, b__law_near := (fun_mk (st := st__law_near) l29 c29 k29).binds (ps := []) fun _ _ _ _ _ _ us hl => match us, hl with | [], _ => rfl,
    a__law_draw := a30, fd__law_draw := _, g__law_draw := PySem.W.mg_of X G A30, k__law_draw := k30, F__law_draw := fun_mk (st := st__law_draw) l30 c30 k30, b__law_draw := (fun_mk (st := st__law_draw) l30 c30 k30).binds (ps := ["_law_box", "_law_many"]) fun _ _ _ _ _ _ us hl => match us, hl with | [_, _], _ => rfl,
    a_law := fa, fd_law := _, g_law := PySem.W.mg_of X G A31, k_law := k31, F_law := fun_mk (st := st_law) l31 c31 k31, b_law := (fun_mk (st := st_law) l31 c31 k31).binds (ps := ["_law_script"]) fun _ _ _ _ _ _ us hl => match us, hl with | [_], _ => rfl,
    n_ValueError := PySem.W.mg_none_of X G z_ValueError,
    n_all := PySem.W.mg_none_of X G z_all,
    n_bool := PySem.W.mg_none_of X G z_bool,
    n_int := PySem.W.mg_none_of X G z_int,
    n_isinstance := PySem.W.mg_none_of X G z_isinstance,
    n_len := PySem.W.mg_none_of X G z_len,
    n_range := PySem.W.mg_none_of X G z_range,
    n_str := PySem.W.mg_none_of X G z_str,
    n_super := PySem.W.mg_none_of X G z_super,
    n_tuple := PySem.W.mg_none_of X G z_tuple }
  exact ⟨T.fd_law, gOf T, rfl, (Tabs0.cons ty1 tn1 (PySem.W.codeHd_of_K X th1) (Tabs0.cons ty2 tn2 (PySem.W.codeHd_of_K X th2) (Tabs0.cons ty13 tn13 (PySem.W.codeHd_of_K X th13) (Tabs0.cons ty22 tn22 (PySem.W.codeHd_of_K X th22) Tabs0.nil)))), fun s v => .of_eq rfl, fun base _ _ hT => ok_law T ⟨trivial, ⟨⟨_, _, _, xE_BadSigns⟩, ⟨_, _, _, _, _, _, xD_BadSigns, xV_BadSigns, xG_BadSigns⟩, xH_BadSigns, ⟨_, xJ_BadSigns⟩, xM_BadSigns, xP_BadSigns, xQ_BadSigns, xO_BadSigns⟩, DC_NONE, DC_RESERVED, ⟨_, _, DL_WORDS, DK_WORDS, DS_WORDS, DE_WORDS⟩, ⟨_, _, DL_ARGUMENTS, DK_ARGUMENTS, DS_ARGUMENTS, DE_ARGUMENTS⟩, ⟨_, _, DL_ESCAPES, DK_ESCAPES, DS_ESCAPES, DY_ESCAPES⟩, hT _ List.mem_cons_self, hT _ (List.mem_cons_of_mem _ List.mem_cons_self), hT _ (List.mem_cons_of_mem _ (List.mem_cons_of_mem _ List.mem_cons_self)), hT _ (List.mem_cons_of_mem _ (List.mem_cons_of_mem _ (List.mem_cons_of_mem _ List.mem_cons_self)))⟩⟩
end
end Lk03

namespace Lk03
noncomputable section
open PySem L2 Xs
/-! ### signs -/
inductive Sg where
  | nm (s : List Nat) | nu (n : Nat) | qu (s : List Nat) | mk (c : Nat)
  deriving DecidableEq
def Sg.d : Sg → D
  | .nm s => .tup [.str "name", .str (Xs.mk s)]
  | .nu n => .tup [.str "number", .int n]
  | .qu s => .tup [.str "quoted", .str (Xs.mk s)]
  | .mk c => .tup [.str "mark", .str (Xs.mk [c])]
abbrev LET : Str := "abcdefghijklmnopqrstuvwxyz"
abbrev DIG : Str := "0123456789"
abbrev RUN : Str := "abcdefghijklmnopqrstuvwxyzABCDEFGHIJKLMNOPQRSTUVWXYZ0123456789"
abbrev MRK : Str := "(),="
abbrev CHS : Str := " !\"#$&'()*+,-./0123456789:;<=>?@ABCDEFGHIJKLMNOPQRSTUVWXYZ[\\]^_`abcdefghijklmnopqrstuvwxyz{|}~"
def letB (c : Nat) : Bool := decide (c ∈ Tx LET)
def digB (c : Nat) : Bool := decide (c ∈ Tx DIG)
def runB (c : Nat) : Bool := decide (c ∈ Tx RUN)
def mrkB (c : Nat) : Bool := decide (c ∈ Tx MRK)
def chsB (c : Nat) : Bool := decide (c ∈ Tx CHS)
def nameB : List Nat → Bool
  | [] => false
  | c :: r => decide ((c :: r).length ≤ 12) && letB c && (c :: r).all fun c => letB c || digB c
/-- the sign that a run is -/
def runSg (k : List Nat) : Option Sg := if nameB k = true then some (.nm k) else if (k.all digB && decide (k.length ≤ 9) && !(decide (1 < k.length) && decide (k.head? = some 48))) = true then some (.nu (NumText.digitsVal k)) else none
def esc : Nat → Option Nat
  | 34 => some 34
  | 92 => some 92
  | 110 => some 10
  | _ => none
/-- the quoted text, and what is behind it -/
def quo : List Nat → List Nat → Option (List Nat × List Nat)
  | [], _ => none
  | 34 :: r, acc => some (acc, r)
  | 92 :: d :: r, acc => match esc d with
    | some e => quo r (acc ++ [e])
    | none => none
  | 92 :: [], _ => none
  | c :: r, acc => if chsB c = true then quo r (acc ++ [c]) else none
inductive Lex : Nat → List Nat → List Sg → Option Nat → Prop
  | nil {o : Nat} : Lex o [] [] none
  | sp {o : Nat} {r : List Nat} {S : List Sg} {e : Option Nat} : Lex (o + 1) r S e → Lex o (32 :: r) S e
  | run {o c : Nat} {r : List Nat} {s : Sg} {S : List Sg} {e : Option Nat} : runB c = true → runSg ((c :: r).takeWhile runB) = some s → Lex (o + ((c :: r).takeWhile runB).length) ((c :: r).dropWhile runB) S e → Lex o (c :: r) (s :: S) e
  | runX {o c : Nat} {r : List Nat} : runB c = true → runSg ((c :: r).takeWhile runB) = none → Lex o (c :: r) [] (some o)
  | quo {o k : Nat} {r t r' : List Nat} {S : List Sg} {e : Option Nat} : quo r [] = some (t, r') → o + (r.length + 1) = k + r'.length → Lex k r' S e → Lex o (34 :: r) (.qu t :: S) e
  | quoX {o : Nat} {r : List Nat} : quo r [] = none → Lex o (34 :: r) [] (some o)
  | mrk {o c : Nat} {r : List Nat} {S : List Sg} {e : Option Nat} : mrkB c = true → Lex (o + 1) r S e → Lex o (c :: r) (.mk c :: S) e
  | bad {o c : Nat} {r : List Nat} : c ≠ 32 → c ≠ 34 → runB c = false → mrkB c = false → Lex o (c :: r) [] (some o)
theorem run_all : ∀ c ∈ Tx RUN, c ≠ 32 ∧ c ≠ 34 ∧ mrkB c = false := by decide +kernel
theorem mrk_all : ∀ c ∈ Tx MRK, c ≠ 32 ∧ c ≠ 34 ∧ runB c = false := by decide +kernel
theorem run_ne {c : Nat} (h : runB c = true) : c ≠ 32 ∧ c ≠ 34 ∧ mrkB c = false := run_all c (of_decide_eq_true h)
theorem mrk_ne {c : Nat} (h : mrkB c = true) : c ≠ 32 ∧ c ≠ 34 ∧ runB c = false := mrk_all c (of_decide_eq_true h)
theorem dig_all : ∀ c ∈ Tx DIG, 48 ≤ c ∧ c ≤ 57 := by decide +kernel
@[simp] theorem litq : (("\"" : Str) : Str) = Xs.mk [34] := by decide +kernel
@[simp] theorem litb : (("\\" : Str) : Str) = Xs.mk [92] := by decide +kernel
@[simp] theorem lits : ((" " : Str) : Str) = Xs.mk [32] := by decide +kernel
@[simp] theorem lit0 : (("0" : Str) : Str) = Xs.mk [48] := by decide +kernel
@[simp] theorem lite : (("" : Str) : Str) = Xs.mk [] := by decide +kernel
theorem isname_eq {l : List Nat} {h : Sto} (hl : l.length ≤ lim) : F_is_name [wT l] h = .ok (.d (.bl (nameB l))) h := by
  refine fnI_go rfl rfl ?_
  show closeI h (b_is_name [some (wT l), none] ⟨[], true⟩) = _
  cases l with
  | nil => simp [b_is_name, nameB]
  | cons c r =>
    have hl' : r.length + 1 ≤ lim := hl
    have h0 : (1 : Int) ≤ r.length + 1 := by omega
    by_cases h1 : r.length + 1 ≤ 12
    · have h1' : (r.length : Int) + 1 ≤ 12 := by omega
      by_cases h2 : c ∈ Tx LET
      · simp [b_is_name, nameB, hl', h0, h1, h1', Tx_cps, letB, digB, h2]
      · simp [b_is_name, nameB, hl', h0, h1, h1', Tx_cps, letB, digB, h2]
    · have h1' : ¬ (r.length : Int) + 1 ≤ 12 := by omega
      simp [b_is_name, nameB, hl', h0, h1, h1']

/-! ### a run, a quoted text -/
theorem tw_cons {p : Nat → Bool} {c : Nat} {r : List Nat} (h : p c = true) : (c :: r).takeWhile p = c :: r.takeWhile p := by simp [h]
theorem drop_at {l : List Nat} {k : Nat} (hk : k < l.length) : l.drop k = l[k] :: l.drop (k + 1) := List.drop_eq_getElem_cons hk
theorem rb_go {l : List Nat} {h : Sto} (hl : l.length ≤ lim) : ∀ (m k n : Nat), l.length - k = m → k ≤ l.length → m < n →
    whileLoop (xAnd (xTest (xBin fLt (xVar 1) (xApp (f1 fLen) (xCons (xVar 0) xNil)))) (xTest (xBin (fInS false) (xBin fIx (xVar 0) (xVar 1)) (xC (.str RUN))))) l1_run_behind n [some (wT l), some (.d (.int k))] h
      = .nx [some (wT l), some (.d (.int ((k + ((l.drop k).takeWhile runB).length : Nat))))] h := by
  intro m
  induction m with
  | zero =>
    intro k n hm hk hn
    obtain ⟨n, rfl⟩ : ∃ i, n = i + 1 := ⟨n - 1, by omega⟩
    have e : k = l.length := by omega
    subst e
    rw [while_end (h1 := h) (by simp [hl])]
    simp
  | succ m ih =>
    intro k n hm hk hn
    obtain ⟨n, rfl⟩ : ∃ i, n = i + 1 := ⟨n - 1, by omega⟩
    have hk' : k < l.length := by omega
    have hki : (k : Int) < l.length := by omega
    have e1 := atI_nat hk'
    rw [drop_at hk']
    by_cases hc : runB l[k] = true
    · have hc' : l[k] ∈ Tx RUN := of_decide_eq_true hc
      rw [while_nx (h1 := h) (r2 := [some (wT l), some (.d (.int ((k + 1 : Nat))))]) (h2 := h) (by simp [hl, hki, e1, Tx_cps, hc']) (by simp [l1_run_behind]), ih (k + 1) n (by omega) (by omega) (by omega)]
      rw [tw_cons hc, List.length_cons, show k + 1 + ((l.drop (k + 1)).takeWhile runB).length = k + (((l.drop (k + 1)).takeWhile runB).length + 1) from by omega]
    · have hc' : ¬ l[k] ∈ Tx RUN := fun z => hc (decide_eq_true z)
      rw [while_end (h1 := h) (by simp [hl, hki, e1, Tx_cps, hc'])]
      rw [List.takeWhile_cons_of_neg hc]
      simp
theorem run_behind_eq {l : List Nat} {k : Nat} {h : Sto} (hl : l.length < 1000) (hk : k ≤ l.length) : F_run_behind [wT l, .d (.int k)] h = .ok (.d (.int ((k + ((l.drop k).takeWhile runB).length : Nat)))) h := by
  refine fnI_go rfl rfl ?_
  show closeI h (b_run_behind [some (wT l), some (.d (.int k))] ⟨[], true⟩) = _
  have e := rb_go (l := l) (h := ⟨[], true⟩) (lim_of (by omega)) _ k 1000 rfl hk (by omega)
  unfold b_run_behind
  rw [seq_nx (show sWhile 1000 _ _ _ _ = _ from e)]
  simp
/-- the exception -/
abbrev bsX (k : Nat) : Ex := ⟨"BadSigns", [("offset", .int k)]⟩
theorem xb_eq {o : Nat} {h : Sto} (ho : o < 1000) : ∃ w, X_BadSigns [none, some (.d (.int o)), none] h = .ok w h := by
  have e1 : (Str.ofString "no sign at offset ").length = 18 := by decide +kernel
  have e2 : (Str.ofString (toString (o : Int))).length ≤ 10 := PySem.W.KT.len_num (by omega) (by omega)
  have e3 : Nat.log2 o < 1920 := by
    by_cases z : o = 0
    · rw [z]; decide
    · exact Nat.lt_of_lt_of_le ((Nat.log2_lt z).mpr (show o < 2 ^ 20 by omega)) (by decide)
  have e4 : (Str.empty ++ Str.ofString "no sign at offset ").length = 18 := by decide +kernel
  have e5 : (Str.empty ++ Str.ofString "no sign at offset " ++ Str.ofString (toString (o : Int))).length ≤ lim := by
    rw [Str.length_append, e4]
    exact lim_of (by omega)
  refine ⟨.t (Str.empty ++ Str.ofString "no sign at offset " ++ Str.ofString (toString (o : Int))), ?_⟩
  show jsX _ _ _ _ = _
  simp only [jsX, xC, Re.bind, xUn, xVar, fFmt, List.getElem?_cons_succ, List.getElem?_cons_zero, Int.natAbs_natCast, e3, if_true, e4, e5]
  rw [if_pos (lim_of (by omega))]
theorem raise_eq {xa : XE} {r : Xs.Env} {h : Sto} {o : Nat} (ho : o < 1000) (e : xa r h = .ok (.d (.int o)) h) : sRaise "BadSigns" "offset" X_BadSigns xa r h = .exc (bsX o) r h := by
  obtain ⟨w, hw⟩ := xb_eq (h := h) ho
  unfold sRaise
  simp only [e, Re.then, hw]
theorem run_sign_eq {k : List Nat} {o : Nat} {h : Sto} (hk : k ≠ []) (hl : k.length < 1000) (ho : o < 1000) : F_run_sign [wT k, .d (.int o)] h = match runSg k with
    | some s => .ok (.d s.d) h
    | none => .exc (bsX o) h := by
  obtain ⟨c, r, rfl⟩ : ∃ c r, k = c :: r := by cases k with | nil => exact absurd rfl hk | cons c r => exact ⟨c, r, rfl⟩
  have hl1 : r.length + 1 ≤ lim := lim_of (by simp at hl; omega)
  have e1 := isname_eq (l := c :: r) (h := ⟨[], true⟩) (by simpa using hl1)
  have go : ∀ f, b_run_sign [some (wT (c :: r)), some (.d (.int o)), none, none] ⟨[], true⟩ = f → F_run_sign [wT (c :: r), .d (.int o)] h = closeI h f := fun f e => by
    rw [← e]
    exact rfl
  unfold runSg
  by_cases h1 : nameB (c :: r) = true
  · rw [if_pos h1]
    rw [go (.rt (.d (Sg.nm (c :: r)).d) ⟨[], true⟩) (by simp [b_run_sign, e1, h1, Sg.d])]
    simp [Sg.d]
  · rw [if_neg h1]
    have s1 : (sIf (xTest (xApp F_is_name (xCons (xVar 0) xNil))) (sRet (xApp mkTup (xCons (xC (.str "name")) (xCons (xVar 0) xNil)))) sSkip) [some (wT (c :: r)), some (.d (.int o)), none, none] ⟨[], true⟩ = .nx [some (wT (c :: r)), some (.d (.int o)), none, none] ⟨[], true⟩ := by
      simp [e1, h1]
    have s2 : (sSet 2 (xAllT (fun c => (Txt.contains "0123456789" ⟨#[c]⟩)) (xVar 0))) [some (wT (c :: r)), some (.d (.int o)), none, none] ⟨[], true⟩ = .nx [some (wT (c :: r)), some (.d (.int o)), some (.d (.bl ((c :: r).all digB))), none] ⟨[], true⟩ := by
      have ed : (fun c => Txt.contains "0123456789" ⟨#[c]⟩) = digB := funext fun c => contains_mk _ c
      rw [ed]
      simp
    have e0 : atI (c :: r) (0 : Int) = some c := by have := atI_nat (xs := c :: r) (k := 0) (by simp); simpa using this
    have t3 : (xOr (xNot (xTest (xVar 2))) (xOr (xTest (xBin fGt (xApp (f1 fLen) (xCons (xVar 0) xNil)) (xC (.int 9)))) (xAnd (xTest (xBin fGt (xApp (f1 fLen) (xCons (xVar 0) xNil)) (xC (.int 1)))) (xTest (xBin fEq (xBin fIx (xVar 0) (xC (.int 0))) (xC (.str "0"))))))) [some (wT (c :: r)), some (.d (.int o)), some (.d (.bl ((c :: r).all digB))), none] ⟨[], true⟩
        = .ok (!((c :: r).all digB && decide ((c :: r).length ≤ 9) && !(decide (1 < (c :: r).length) && decide ((c :: r).head? = some 48)))) ⟨[], true⟩ := by
      cases hd : (c :: r).all digB with
      | false => simp
      | true =>
        by_cases h9 : r.length + 1 ≤ 9
        · have h9' : ¬ (9 : Int) < r.length + 1 := by omega
          by_cases h2 : 1 < r.length + 1
          · have h2' : (1 : Int) < r.length + 1 := by omega
            by_cases h3 : c = 48
            · simp [hl1, h9, h9', h2, h2', e0, mk_one, h3, D.eq]
            · simp [hl1, h9, h9', h2, h2', e0, mk_one, h3, D.eq]
          · have h2' : ¬ (1 : Int) < r.length + 1 := by omega
            simp [hl1, h9, h9', h2, h2']
        · have h9' : (9 : Int) < r.length + 1 := by omega
          simp [hl1, h9, h9']
    by_cases hb : ((c :: r).all digB && decide ((c :: r).length ≤ 9) && !(decide (1 < (c :: r).length) && decide ((c :: r).head? = some 48))) = true
    · rw [if_pos hb]
      rw [hb] at t3
      have hd : NumText.AllDigits (c :: r) := fun d hd => dig_all d (of_decide_eq_true (List.all_eq_true.mp (by
        rw [Bool.and_eq_true, Bool.and_eq_true] at hb
        exact hb.1.1) d hd))
      have h9 : (c :: r).length ≤ 9 := by
        rw [Bool.and_eq_true, Bool.and_eq_true] at hb
        exact of_decide_eq_true hb.1.2
      have e5 : intText? (mk (c :: r)) = some ((NumText.digitsVal (c :: r) : Nat) : Int) := by
        have := PySem.intText_digits (x := mk (c :: r)) (by simpa using hd) (by simp) (by simp at h9 ⊢; omega)
        simpa using this
      have h64 : r.length + 1 ≤ 640 := by simp at h9; omega
      rw [go (.rt (.d (Sg.nu (NumText.digitsVal (c :: r))).d) ⟨[], true⟩) (by
        unfold b_run_sign
        rw [seq_nx s1, seq_nx s2]
        rw [seq_nx (a := sIf _ _ _) (r1 := [some (wT (c :: r)), some (.d (.int o)), some (.d (.bl ((c :: r).all digB))), none]) (h1 := ⟨[], true⟩) (by
          unfold sIf
          rw [t3]
          rfl)]
        simp [e5, h64, Sg.d])]
      simp [Sg.d]
    · rw [if_neg hb]
      rw [Bool.not_eq_true] at hb
      rw [hb] at t3
      rw [go (.exc (bsX o) [some (wT (c :: r)), some (.d (.int o)), some (.d (.bl ((c :: r).all digB))), none] ⟨[], true⟩) (by
        unfold b_run_sign
        rw [seq_nx s1, seq_nx s2]
        unfold sSeq
        rw [show (sIf _ _ _ : XS) _ _ = .exc (bsX o) [some (wT (c :: r)), some (.d (.int o)), some (.d (.bl ((c :: r).all digB))), none] ⟨[], true⟩ from by
          unfold sIf
          rw [t3]
          simp only [Re.then, Bool.not_false, if_true]
          exact raise_eq ho (by simp)]
        rfl)]
      rfl

/-! ### a quoted text -/
theorem quo_nil {acc : List Nat} : quo [] acc = none := rfl
theorem quo_q {r acc : List Nat} : quo (34 :: r) acc = some (acc, r) := rfl
theorem quo_b {d : Nat} {r acc : List Nat} : quo (92 :: d :: r) acc = match esc d with
    | some e => quo r (acc ++ [e])
    | none => none := by cases h : esc d <;> simp [quo, h]
theorem quo_b1 {acc : List Nat} : quo [92] acc = none := rfl
theorem quo_c {c : Nat} {r acc : List Nat} (h1 : c ≠ 34) (h2 : c ≠ 92) : quo (c :: r) acc = if chsB c = true then quo r (acc ++ [c]) else none := by
  rw [quo.eq_def]
  split <;> simp_all
@[simp] theorem litn : (("n" : Str) : Str) = Xs.mk [110] := by decide +kernel
@[simp] theorem litnl : (("\n" : Str) : Str) = Xs.mk [10] := by decide +kernel
theorem kget0 : D_ESCAPES.lookup (mk []) = none := by decide +kernel
theorem kget1 (d : Nat) : D_ESCAPES.lookup (mk [d]) = (esc d).map fun e => mk [e] := by
  unfold D_ESCAPES
  simp only [litq, litb, litn, litnl, List.lookup, mk_beq]
  by_cases h1 : d = 34
  · subst h1; rfl
  · by_cases h2 : d = 92
    · subst h2; rfl
    · by_cases h3 : d = 110
      · subst h3; rfl
      · have e : esc d = none := by
          unfold esc
          split <;> first | omega | rfl
        simp [h1, h2, h3, e]
theorem esc_ok {d e : Nat} (h : esc d = some e) : PyData.strOk (mk [e]) = true := by
  unfold esc at h
  split at h <;> first | (cases h; exact strOk_mk (by simp)) | cases h
abbrev qsR (L : List Nat) (o : Nat) (acc : List Nat) (p : Nat) (s : Option W) : Xs.Env := [some (wT L), some (.d (.int o)), some (wT acc), some (.d (.int p)), s]
abbrev qsC : XT := xTest (xBin fLt (xVar 3) (xApp (f1 fLen) (xCons (xVar 0) xNil)))
theorem qsC_eq {L : List Nat} {o p : Nat} {acc : List Nat} {s : Option W} {h : Sto} (hl : L.length ≤ lim) : qsC (qsR L o acc p s) h = .ok (decide (p < L.length)) h := by
  simp [hl]
section
variable {L acc : List Nat} {o p : Nat} {s : Option W} {h : Sto}
abbrev qs1 : XS := (sSet 4 (xBin fIx (xVar 0) (xVar 3)))
abbrev qs2 : XS := (sIf (xTest (xBin fEq (xVar 4) (xC (.str "\"")))) (sRet (xApp mkTup (xCons (xApp mkTup (xCons (xC (.str "quoted")) (xCons (xVar 2) xNil))) (xCons (xBin fAddI (xVar 3) (xC (.int 1))) xNil)))) sSkip)
abbrev qs3 : XS := (sIf (xTest (xBin fEq (xVar 4) (xC (.str "\\")))) (sSeq (sAug 3 fAddI (xC (.int 1)))
    (sSet 4 (xKget D_ESCAPES (xSl (xVar 0) (xPart (xVar 3)) (xPart (xBin fAddI (xVar 3) (xC (.int 1)))))))) (sIf (xTest (xBin (fInS true) (xVar 4) (xC (.str CHS)))) (sSet 4 (xC .non)) sSkip))
abbrev qs4 : XS := (sIf (xTest (xIsN false (xVar 4))) (sRaise "BadSigns" "offset" X_BadSigns (xVar 1)) sSkip)
abbrev qs5 : XS := (sSeq (sSet 2 (xBin fAddS (xVar 2) (xVar 4))) (sAug 3 fAddI (xC (.int 1))))
theorem qs_def : l1_quoted_sign = sSeq qs1 (sSeq qs2 (sSeq qs3 (sSeq qs4 qs5))) := rfl
theorem qs1_eq (hp : p < L.length) (hl : L.length ≤ lim) : qs1 (qsR L o acc p s) h = .nx (qsR L o acc p (some (wT [L[p]]))) h := by
  have e := atI_nat hp
  simp [e, hl, mk_one]
theorem qs2_q : qs2 (qsR L o acc p (some (wT [34]))) h = .rt (.d (.tup [(Sg.qu acc).d, .int ((p + 1 : Nat))])) h := by
  simp [D.eq, Sg.d]
theorem qs2_n {c : Nat} (hc : c ≠ 34) : qs2 (qsR L o acc p (some (wT [c]))) h = .nx (qsR L o acc p (some (wT [c]))) h := by
  simp [D.eq, hc]
theorem cutS_at : cutS (mk L) (some ((p : Int) + 1)) (some ((p : Int) + 1 + 1)) = mk ((L.drop (p + 1)).take 1) := by
  have := cutS_nat (l := L) (i := p + 1) (j := p + 1 + 1)
  simpa using this
theorem qs3_b0 (hl : L.length ≤ lim) (hp : L.length ≤ p + 1) : qs3 (qsR L o acc p (some (wT [92]))) h = .nx (qsR L o acc (p + 1) (some (.d .non))) h := by
  have e3 : L.drop (p + 1) = [] := List.drop_of_length_le hp
  simp [D.eq, hl, cutS_at, e3, kget0]
theorem qs3_b {d : Nat} {r : List Nat} (hl : L.length ≤ lim) (hp : L.drop (p + 1) = d :: r) : qs3 (qsR L o acc p (some (wT [92]))) h = .nx (qsR L o acc (p + 1) (some (match esc d with | some e => wT [e] | none => .d .non))) h := by
  cases he : esc d with
  | none => simp [D.eq, hl, cutS_at, hp, kget1, he]
  | some e => simp [D.eq, hl, cutS_at, hp, kget1, he, esc_ok he]
theorem qs3_c {c : Nat} (hc : c ≠ 92) : qs3 (qsR L o acc p (some (wT [c]))) h = .nx (qsR L o acc p (some (if chsB c = true then wT [c] else .d .non))) h := by
  by_cases h1 : c ∈ Tx CHS
  · simp [D.eq, hc, chsB, h1, Tx_cps]
  · simp [D.eq, hc, chsB, h1, Tx_cps]
theorem qs4_x (ho : o < 1000) : qs4 (qsR L o acc p (some (.d .non))) h = .exc (bsX o) (qsR L o acc p (some (.d .non))) h := by
  unfold qs4 sIf
  rw [show xTest (xIsN false (xVar 4)) (qsR L o acc p (some (.d .non))) h = .ok true h from by simp]
  simp only [Re.then, if_true]
  exact raise_eq ho (by simp)
theorem qs4_n {c : Nat} : qs4 (qsR L o acc p (some (wT [c]))) h = .nx (qsR L o acc p (some (wT [c]))) h := by simp
theorem qs5_eq {c : Nat} (hl : acc.length + 1 ≤ lim) : qs5 (qsR L o acc p (some (wT [c]))) h = .nx (qsR L o (acc ++ [c]) (p + 1) (some (wT [c]))) h := by
  simp [hl]
end
theorem qs_go {L : List Nat} {o : Nat} {h : Sto} (hl : L.length < 1000) (ho : o < 1000) : ∀ (m p n : Nat) (acc : List Nat) (s : Option W), L.length - p ≤ m → m < n → acc.length ≤ p →
    match quo (L.drop p) acc with
    | some (t, r') => ∃ q : Nat, whileLoop qsC l1_quoted_sign n (qsR L o acc p s) h = .rt (.d (.tup [(Sg.qu t).d, .int q])) h ∧ p ≤ q ∧ q ≤ L.length ∧ L.drop q = r'
    | none => (∃ r, whileLoop qsC l1_quoted_sign n (qsR L o acc p s) h = .exc (bsX o) r h) ∨ ∃ a q s', whileLoop qsC l1_quoted_sign n (qsR L o acc p s) h = .nx (qsR L o a q s') h := by
  have hlm : L.length ≤ lim := lim_of (by omega)
  intro m
  induction m using Nat.strongRecOn with
  | _ m ih =>
    intro p n acc s hm hn ha
    obtain ⟨n, rfl⟩ : ∃ i, n = i + 1 := ⟨n - 1, by omega⟩
    by_cases hp : p < L.length
    · have c1 : qsC (qsR L o acc p s) h = .ok true h := by rw [qsC_eq hlm, decide_eq_true hp]
      have s1 := qs1_eq (o := o) (acc := acc) (s := s) (h := h) hp hlm
      have hd := drop_at hp
      generalize hc : L[p] = c at s1 hd
      rw [hd]
      by_cases h34 : c = 34
      · subst h34
        rw [quo_q]
        refine ⟨p + 1, while_rt c1 ?_, by omega, by omega, rfl⟩
        rw [qs_def, seq_nx s1]
        show Fl.seq _ _ = _
        rw [qs2_q]
        rfl
      · have s2 := qs2_n (L := L) (o := o) (acc := acc) (p := p) (h := h) h34
        by_cases h92 : c = 92
        · subst h92
          by_cases hp1 : p + 1 < L.length
          · obtain ⟨d, r, hr⟩ : ∃ d r, L.drop (p + 1) = d :: r := ⟨_, _, drop_at hp1⟩
            have s3 := qs3_b (o := o) (acc := acc) (h := h) hlm hr
            rw [hr, quo_b]
            cases he : esc d with
            | none =>
              rw [he] at s3
              refine .inl ⟨_, while_exc c1 (r2 := qsR L o acc (p + 1) (some (.d .non))) ?_⟩
              rw [qs_def, seq_nx s1, seq_nx s2, seq_nx s3]
              show Fl.seq _ _ = _
              rw [qs4_x ho]
              rfl
            | some e =>
              rw [he] at s3
              have st : l1_quoted_sign (qsR L o acc p s) h = .nx (qsR L o (acc ++ [e]) (p + 1 + 1) (some (wT [e]))) h := by
                rw [qs_def, seq_nx s1, seq_nx s2, seq_nx s3, seq_nx qs4_n]
                exact qs5_eq (lim_of (by omega))
              have key := ih (m - 1) (by omega) (p + 1 + 1) n (acc ++ [e]) (some (wT [e])) (by omega) (by omega) (by simp; omega)
              have er : L.drop (p + 1 + 1) = r := by
                have := congrArg List.tail hr
                simpa [List.tail_drop] using this
              rw [er] at key
              rw [while_nx c1 st]
              simp only
              cases hq : quo r (acc ++ [e]) with
              | none => rw [hq] at key; exact key
              | some x =>
                rw [hq] at key
                obtain ⟨q, k1, k2, k3, k4⟩ := key
                exact ⟨q, k1, by omega, k3, k4⟩
          · have hr : L.drop (p + 1) = [] := List.drop_of_length_le (by omega)
            have s3 := qs3_b0 (L := L) (o := o) (acc := acc) (p := p) (h := h) hlm (by omega)
            rw [hr, quo_b1]
            refine .inl ⟨_, while_exc c1 (r2 := qsR L o acc (p + 1) (some (.d .non))) ?_⟩
            rw [qs_def, seq_nx s1, seq_nx s2, seq_nx s3]
            show Fl.seq _ _ = _
            rw [qs4_x ho]
            rfl
        · have s3 := qs3_c (L := L) (o := o) (acc := acc) (p := p) (h := h) h92
          rw [quo_c h34 h92]
          by_cases hcs : chsB c = true
          · rw [if_pos hcs] at s3 ⊢
            have st : l1_quoted_sign (qsR L o acc p s) h = .nx (qsR L o (acc ++ [c]) (p + 1) (some (wT [c]))) h := by
              rw [qs_def, seq_nx s1, seq_nx s2, seq_nx s3, seq_nx qs4_n]
              exact qs5_eq (lim_of (by omega))
            have key := ih (m - 1) (by omega) (p + 1) n (acc ++ [c]) (some (wT [c])) (by omega) (by omega) (by simp; omega)
            rw [while_nx c1 st]
            cases hq : quo (L.drop (p + 1)) (acc ++ [c]) with
            | none => rw [hq] at key; exact key
            | some x =>
              rw [hq] at key
              obtain ⟨q, k1, k2, k3, k4⟩ := key
              exact ⟨q, k1, by omega, k3, k4⟩
          · rw [if_neg hcs] at s3 ⊢
            refine .inl ⟨_, while_exc c1 (r2 := qsR L o acc p (some (.d .non))) ?_⟩
            rw [qs_def, seq_nx s1, seq_nx s2, seq_nx s3]
            show Fl.seq _ _ = _
            rw [qs4_x ho]
            rfl
    · have hd : L.drop p = [] := List.drop_of_length_le (by omega)
      rw [hd, quo_nil]
      exact .inr ⟨acc, p, s, while_end (by rw [qsC_eq hlm, decide_eq_false hp])⟩
/-- the quoted text at o, by what is behind its mark -/
theorem quoted_sign_eq {L : List Nat} {o : Nat} {h : Sto} (hl : L.length < 1000) (ho : o < L.length) : match quo (L.drop (o + 1)) [] with
    | some (t, r') => ∃ q : Nat, F_quoted_sign [wT L, .d (.int o)] h = .ok (.d (.tup [(Sg.qu t).d, .int q])) h ∧ o < q ∧ q ≤ L.length ∧ L.drop q = r'
    | none => F_quoted_sign [wT L, .d (.int o)] h = .exc (bsX o) h := by
  have key := qs_go (L := L) (o := o) (h := ⟨[], true⟩) hl (by omega) (L.length - (o + 1)) (o + 1) 1000 [] none (Nat.le_refl _) (by omega) (by simp)
  have s1 : sSet 2 (xC (.str "")) [some (wT L), some (.d (.int o)), none, none, none] ⟨[], true⟩ = .nx [some (wT L), some (.d (.int o)), some (wT []), none, none] ⟨[], true⟩ := by simp
  have s2 : sSet 3 (xBin fAddI (xVar 1) (xC (.int 1))) [some (wT L), some (.d (.int o)), some (wT []), none, none] ⟨[], true⟩ = .nx (qsR L o [] (o + 1) none) ⟨[], true⟩ := by simp
  have go : ∀ f, b_quoted_sign [some (wT L), some (.d (.int o)), none, none, none] ⟨[], true⟩ = f → F_quoted_sign [wT L, .d (.int o)] h = closeI h f := fun f e => by
    rw [← e]
    exact rfl
  cases hq : quo (L.drop (o + 1)) [] with
  | some x =>
    rw [hq] at key
    obtain ⟨q, k1, k2, k3, k4⟩ := key
    refine ⟨q, ?_, by omega, k3, k4⟩
    rw [go (.rt (.d (.tup [(Sg.qu x.1).d, .int q])) ⟨[], true⟩) (by
      unfold b_quoted_sign
      rw [seq_nx s1, seq_nx s2]
      show Fl.seq (sWhile 1000 _ _ _ _) _ = _
      rw [show sWhile 1000 _ _ (qsR L o [] (o + 1) none) ⟨[], true⟩ = _ from k1]
      rfl)]
    rfl
  | none =>
    rw [hq] at key
    rcases key with ⟨r, k⟩ | ⟨a, q, s', k⟩
    · rw [go (.exc (bsX o) r ⟨[], true⟩) (by
        unfold b_quoted_sign
        rw [seq_nx s1, seq_nx s2]
        show Fl.seq (sWhile 1000 _ _ _ _) _ = _
        rw [show sWhile 1000 _ _ (qsR L o [] (o + 1) none) ⟨[], true⟩ = _ from k]
        rfl)]
      rfl
    · rw [go (.exc (bsX o) (qsR L o a q s') ⟨[], true⟩) (by
        unfold b_quoted_sign
        rw [seq_nx s1, seq_nx s2, seq_nx (show sWhile 1000 _ _ (qsR L o [] (o + 1) none) ⟨[], true⟩ = _ from k)]
        exact raise_eq (by omega) (by simp))]
      rfl

/-! ### split_line -/
abbrev wS (S : List Sg) : List W := S.map fun s => .d s.d
abbrev slR (L : List Nat) (o : Nat) (b s : Option W) : Xs.Env := [some (wT L), some (.l 0), some (.d (.int o)), b, s]
abbrev slC : XT := xTest (xBin fLt (xVar 2) (xApp (f1 fLen) (xCons (xVar 0) xNil)))
theorem slC_eq {L : List Nat} {o : Nat} {b s : Option W} {h : Sto} (hl : L.length ≤ lim) : slC (slR L o b s) h = .ok (decide (o < L.length)) h := by
  simp [hl]
abbrev slT1 : XT := xTest (xBin fEq (xBin fIx (xVar 0) (xVar 2)) (xC (.str " ")))
abbrev slT2 : XT := xTest (xBin (fInS false) (xBin fIx (xVar 0) (xVar 2)) (xC (.str RUN)))
abbrev slT3 : XT := xTest (xBin fEq (xBin fIx (xVar 0) (xVar 2)) (xC (.str "\"")))
abbrev slT4 : XT := xTest (xBin (fInS false) (xBin fIx (xVar 0) (xVar 2)) (xC (.str MRK)))
abbrev slRun : XS := (sSeq (sSet 3 (xApp F_run_behind (xCons (xVar 0) (xCons (xVar 2) xNil))))
    (sSeq (sDrop (xBm "list" fAppend (xVar 1) (xCons (xApp F_run_sign (xCons (xSl (xVar 0) (xPart (xVar 2)) (xPart (xVar 3))) (xCons (xVar 2) xNil))) xNil)))
    (sSet 2 (xVar 3))))
abbrev slQuo : XS := (sSeq (sAsg (gT 2 (gsCons (gN 4) (gsCons (gN 2) gsNil))) (xApp F_quoted_sign (xCons (xVar 0) (xCons (xVar 2) xNil))))
    (sDrop (xBm "list" fAppend (xVar 1) (xCons (xVar 4) xNil))))
abbrev slMrk : XS := (sSeq (sDrop (xBm "list" fAppend (xVar 1) (xCons (xApp mkTup (xCons (xC (.str "mark")) (xCons (xBin fIx (xVar 0) (xVar 2)) xNil))) xNil)))
    (sAug 2 fAddI (xC (.int 1))))
theorem sl_def : l1_split_line = sIf slT1 (sAug 2 fAddI (xC (.int 1))) (sIf slT2 slRun (sIf slT3 slQuo (sIf slT4 slMrk (sRaise "BadSigns" "offset" X_BadSigns (xVar 2))))) := rfl
section
variable {L : List Nat} {o : Nat} {b s : Option W} {h : Sto} {A : List Sg}
theorem slT1_eq (ho : o < L.length) (hl : L.length ≤ lim) : slT1 (slR L o b s) h = .ok (decide (L[o] = 32)) h := by
  have e := atI_nat ho
  simp [e, hl, mk_one, D.eq]
theorem slT2_eq (ho : o < L.length) (hl : L.length ≤ lim) : slT2 (slR L o b s) h = .ok (runB L[o]) h := by
  have e := atI_nat ho
  unfold runB
  by_cases hm : L[o] ∈ Tx RUN <;> simp [e, hl, Tx_cps, hm]
theorem slT3_eq (ho : o < L.length) (hl : L.length ≤ lim) : slT3 (slR L o b s) h = .ok (decide (L[o] = 34)) h := by
  have e := atI_nat ho
  simp [e, hl, mk_one, D.eq]
theorem slT4_eq (ho : o < L.length) (hl : L.length ≤ lim) : slT4 (slR L o b s) h = .ok (mrkB L[o]) h := by
  have e := atI_nat ho
  unfold mrkB
  by_cases hm : L[o] ∈ Tx MRK <;> simp [e, hl, Tx_cps, hm]
abbrev slH (A : List Sg) : Sto := ⟨[.lst (wS A)], true⟩
theorem slMrk_eq (ho : o < L.length) (hl : L.length ≤ lim) (hA : A.length < lim) : slMrk (slR L o b s) (slH A) = .nx (slR L (o + 1) b s) (slH (A ++ [.mk L[o]])) := by
  have e := atI_nat ho
  simp [e, hl, mk_one, hA, Sg.d]
theorem slRun_ok {g : Sg} (ho : o < L.length) (hl : L.length < 1000) (hA : A.length < lim) (hr : runB L[o] = true) (hs : runSg ((L.drop o).takeWhile runB) = some g) :
    ∃ b', slRun (slR L o b s) (slH A) = .nx (slR L (o + ((L.drop o).takeWhile runB).length) b' s) (slH (A ++ [g])) := by
  have hlm : L.length ≤ lim := lim_of (by omega)
  obtain ⟨k, hk⟩ : ∃ k, k = (L.drop o).takeWhile runB := ⟨_, rfl⟩
  have hk1 : L.drop o = k ++ (L.drop o).dropWhile runB := by rw [hk]; exact (List.takeWhile_append_dropWhile ..).symm
  have hkl : k.length ≤ (L.drop o).length := by rw [hk1]; simp
  have hkn : k ≠ [] := by
    rw [hk, drop_at ho, tw_cons hr]
    simp
  rw [← hk] at hs ⊢
  have e1 := run_behind_eq (l := L) (k := o) (h := slH A) hl (by omega)
  rw [← hk] at e1
  have e2 := run_sign_eq (k := k) (o := o) (h := slH A) hkn (by simp at hkl; omega) (by omega)
  rw [hs] at e2
  obtain ⟨q, hq⟩ : ∃ q, q = o + k.length := ⟨_, rfl⟩
  rw [← hq] at e1
  have e3 : (L.drop o).take (q - o) = k := by
    rw [show q - o = k.length from by omega]
    rw [hk1]
    simp
  have s1 : sSet 3 (xApp F_run_behind (xCons (xVar 0) (xCons (xVar 2) xNil))) (slR L o b s) (slH A) = .nx (slR L o (some (.d (.int q))) s) (slH A) := by
    simp only [sSet, xApp, xCons, xVar, xNil, slR, List.getElem?_cons_succ, List.getElem?_cons_zero, Re.bind, Re.then, e1, List.set_cons_succ, List.set_cons_zero]
  have s2 : (xApp F_run_sign (xCons (xSl (xVar 0) (xPart (xVar 2)) (xPart (xVar 3))) (xCons (xVar 2) xNil))) (slR L o (some (.d (.int q))) s) (slH A) = .ok (.d g.d) (slH A) := by
    have z := fSl_tx (l := L) (i := o) (j := q) (h := slH A) hlm
    rw [e3] at z
    simp only [xApp, xCons, xSl, xPart, xVar, xNil, slR, List.getElem?_cons_succ, List.getElem?_cons_zero, Re.bind, W.int?, z, e2]
  rw [← hq]
  refine ⟨some (.d (.int q)), ?_⟩
  rw [slRun, seq_nx s1]
  generalize hX : (xApp F_run_sign (xCons (xSl (xVar 0) (xPart (xVar 2)) (xPart (xVar 3))) (xCons (xVar 2) xNil))) = Y at s2
  simp [s2, hA]
theorem slRun_x (ho : o < L.length) (hl : L.length < 1000) (hr : runB L[o] = true) (hs : runSg ((L.drop o).takeWhile runB) = none) :
    ∃ r, slRun (slR L o b s) (slH A) = .exc (bsX o) r (slH A) := by
  have hlm : L.length ≤ lim := lim_of (by omega)
  obtain ⟨k, hk⟩ : ∃ k, k = (L.drop o).takeWhile runB := ⟨_, rfl⟩
  have hk1 : L.drop o = k ++ (L.drop o).dropWhile runB := by rw [hk]; exact (List.takeWhile_append_dropWhile ..).symm
  have hkl : k.length ≤ (L.drop o).length := by rw [hk1]; simp
  have hkn : k ≠ [] := by
    rw [hk, drop_at ho, tw_cons hr]
    simp
  rw [← hk] at hs
  have e1 := run_behind_eq (l := L) (k := o) (h := slH A) hl (by omega)
  rw [← hk] at e1
  have e2 := run_sign_eq (k := k) (o := o) (h := slH A) hkn (by simp at hkl; omega) (by omega)
  rw [hs] at e2
  obtain ⟨q, hq⟩ : ∃ q, q = o + k.length := ⟨_, rfl⟩
  rw [← hq] at e1
  have e3 : (L.drop o).take (q - o) = k := by
    rw [show q - o = k.length from by omega]
    rw [hk1]
    simp
  have s1 : sSet 3 (xApp F_run_behind (xCons (xVar 0) (xCons (xVar 2) xNil))) (slR L o b s) (slH A) = .nx (slR L o (some (.d (.int q))) s) (slH A) := by
    simp only [sSet, xApp, xCons, xVar, xNil, slR, List.getElem?_cons_succ, List.getElem?_cons_zero, Re.bind, Re.then, e1, List.set_cons_succ, List.set_cons_zero]
  have s2 : (xApp F_run_sign (xCons (xSl (xVar 0) (xPart (xVar 2)) (xPart (xVar 3))) (xCons (xVar 2) xNil))) (slR L o (some (.d (.int q))) s) (slH A) = .exc (bsX o) (slH A) := by
    have z := fSl_tx (l := L) (i := o) (j := q) (h := slH A) hlm
    rw [e3] at z
    simp only [xApp, xCons, xSl, xPart, xVar, xNil, slR, List.getElem?_cons_succ, List.getElem?_cons_zero, Re.bind, W.int?, z, e2]
  refine ⟨slR L o (some (.d (.int q))) s, ?_⟩
  rw [slRun, seq_nx s1]
  generalize hX : (xApp F_run_sign (xCons (xSl (xVar 0) (xPart (xVar 2)) (xPart (xVar 3))) (xCons (xVar 2) xNil))) = Y at s2
  simp [s2]
theorem slQuo_ok {t r' : List Nat} (ho : o < L.length) (hl : L.length < 1000) (hA : A.length < lim) (hq : quo (L.drop (o + 1)) [] = some (t, r')) :
    ∃ (q : Nat) (s' : Option W), slQuo (slR L o b s) (slH A) = .nx (slR L q b s') (slH (A ++ [.qu t])) ∧ o < q ∧ q ≤ L.length ∧ L.drop q = r' := by
  have e := quoted_sign_eq (L := L) (o := o) (h := slH A) hl ho
  rw [hq] at e
  obtain ⟨q, e, h1, h2, h3⟩ := e
  refine ⟨q, some (.d (Sg.qu t).d), ?_, h1, h2, h3⟩
  have s1 : sAsg (gT 2 (gsCons (gN 4) (gsCons (gN 2) gsNil))) (xApp F_quoted_sign (xCons (xVar 0) (xCons (xVar 2) xNil))) (slR L o b s) (slH A) = .nx (slR L q b (some (.d (Sg.qu t).d))) (slH A) := by
    simp [e]
  rw [slQuo, seq_nx s1]
  simp [hA]
theorem slQuo_x (ho : o < L.length) (hl : L.length < 1000) (hq : quo (L.drop (o + 1)) [] = none) :
    ∃ r, slQuo (slR L o b s) (slH A) = .exc (bsX o) r (slH A) := by
  have e := quoted_sign_eq (L := L) (o := o) (h := slH A) hl ho
  rw [hq] at e
  refine ⟨slR L o b s, ?_⟩
  have s1 : sAsg (gT 2 (gsCons (gN 4) (gsCons (gN 2) gsNil))) (xApp F_quoted_sign (xCons (xVar 0) (xCons (xVar 2) xNil))) (slR L o b s) (slH A) = .exc (bsX o) (slR L o b s) (slH A) := by
    simp [e]
  show Fl.seq _ _ = _
  rw [s1]
  rfl
end
theorem r34 : runB 34 = false := by decide +kernel
/-- how the loop ends -/
def slEnd (L : List Nat) (f : Fl) (A S : List Sg) : Option Nat → Prop
  | none => ∃ b' s', f = .nx (slR L L.length b' s') (slH (A ++ S))
  | some k => ∃ r h, f = .exc (bsX k) r h
theorem slEnd.app {L : List Nat} {f : Fl} {A S : List Sg} {g : Sg} {e : Option Nat} (x : slEnd L f (A ++ [g]) S e) : slEnd L f A (g :: S) e := by
  cases e with
  | none =>
    obtain ⟨b, s, h⟩ := x
    exact ⟨b, s, by rw [h, List.append_assoc]; rfl⟩
  | some k => exact x
theorem split_go {L : List Nat} (hl : L.length < 1000) {o : Nat} {l : List Nat} {S : List Sg} {e : Option Nat} (x : Lex o l S e) : ∀ (n : Nat) (A : List Sg) (b s : Option W), L.drop o = l → o ≤ L.length → l.length < n → A.length ≤ o →
    slEnd L (whileLoop slC l1_split_line n (slR L o b s) (slH A)) A S e := by
  have hlm : L.length ≤ lim := lim_of (by omega)
  have at_ : ∀ {o c : Nat} {r : List Nat}, L.drop o = c :: r → ∃ h : o < L.length, L[o] = c ∧ L.drop (o + 1) = r := fun {o c r} h => by
    have ho : o < L.length := by
      rcases Nat.lt_or_ge o L.length with z | z
      · exact z
      · rw [List.drop_of_length_le z] at h
        cases h
    rw [drop_at ho] at h
    cases h
    exact ⟨ho, rfl, rfl⟩
  have cc : ∀ {o : Nat} (b s : Option W) (h : Sto), o < L.length → slC (slR L o b s) h = .ok true h := fun b s h ho => by rw [slC_eq hlm, decide_eq_true ho]
  have fin : ∀ {n : Nat} {S : List Sg} {e : Option Nat} {A A' A0 : List Sg} {o o' : Nat} {b s b' s' : Option W}, o < L.length → l1_split_line (slR L o b s) (slH A) = .nx (slR L o' b' s') (slH A') →
      slEnd L (whileLoop slC l1_split_line n (slR L o' b' s') (slH A')) A0 S e → slEnd L (whileLoop slC l1_split_line (n + 1) (slR L o b s) (slH A)) A0 S e := fun ho st key => by
    rw [while_nx (cc _ _ _ ho) st]
    exact key
  induction x with
  | nil =>
    intro n A b s h1 h2 h3 h4
    rename_i o
    obtain ⟨n, rfl⟩ : ∃ i, n = i + 1 := ⟨n - 1, by omega⟩
    have : L.length ≤ o := List.drop_eq_nil_iff.mp h1
    have : o = L.length := by omega
    subst this
    refine ⟨b, s, ?_⟩
    rw [while_end (by rw [slC_eq hlm, decide_eq_false (Nat.lt_irrefl _)])]
    simp
  | @sp o r S e _ ih =>
    intro n A b s h1 h2 h3 h4
    obtain ⟨n, rfl⟩ : ∃ i, n = i + 1 := ⟨n - 1, by omega⟩
    obtain ⟨ho, hc, hr⟩ := at_ h1
    have st : l1_split_line (slR L o b s) (slH A) = .nx (slR L (o + 1) b s) (slH A) := by
      rw [sl_def, if_t (by rw [slT1_eq ho hlm, hc]; rfl)]
      simp
    exact fin ho st (ih n A b s hr (by omega) (by simp at h3; omega) (by omega))
  | @run o c r g S e hrun hsg _ ih =>
    intro n A b s h1 h2 h3 h4
    obtain ⟨n, rfl⟩ : ∃ i, n = i + 1 := ⟨n - 1, by omega⟩
    obtain ⟨ho, hc, hr⟩ := at_ h1
    obtain ⟨n1, n2, n3⟩ := run_ne hrun
    rw [← h1] at hsg
    obtain ⟨b', st⟩ := slRun_ok (b := b) (s := s) (A := A) ho hl (lt_lim (by omega)) (by rw [hc]; exact hrun) hsg
    have st' : l1_split_line (slR L o b s) (slH A) = .nx (slR L (o + ((c :: r).takeWhile runB).length) b' s) (slH (A ++ [g])) := by
      rw [sl_def, if_f (by rw [slT1_eq ho hlm, hc, decide_eq_false n1]), if_t (by rw [slT2_eq ho hlm, hc, hrun]), st, h1]
    have hlen : ((c :: r).takeWhile runB).length + ((c :: r).dropWhile runB).length = (c :: r).length := by
      rw [← List.length_append, List.takeWhile_append_dropWhile]
    have hpos : 1 ≤ ((c :: r).takeWhile runB).length := by rw [tw_cons hrun]; simp
    have hLd : (L.drop o).length = L.length - o := List.length_drop
    rw [h1] at hLd
    have key := ih n (A ++ [g]) b' s (by
      rw [← List.drop_drop, h1, drop_tw]) (by omega) (by simp only [List.length_cons] at h3 hlen ⊢; omega) (by simp; omega)
    exact (fin ho st' key).app
  | @runX o c r hrun hsg =>
    intro n A b s h1 h2 h3 h4
    obtain ⟨n, rfl⟩ : ∃ i, n = i + 1 := ⟨n - 1, by omega⟩
    obtain ⟨ho, hc, hr⟩ := at_ h1
    obtain ⟨n1, n2, n3⟩ := run_ne hrun
    rw [← h1] at hsg
    obtain ⟨r', st⟩ := slRun_x (b := b) (s := s) (A := A) ho hl (by rw [hc]; exact hrun) hsg
    exact ⟨r', slH A, while_exc (cc _ _ _ ho) (by rw [sl_def, if_f (by rw [slT1_eq ho hlm, hc, decide_eq_false n1]), if_t (by rw [slT2_eq ho hlm, hc, hrun]), st])⟩
  | @quo o k r t r' S e hq hk _ ih =>
    intro n A b s h1 h2 h3 h4
    obtain ⟨n, rfl⟩ : ∃ i, n = i + 1 := ⟨n - 1, by omega⟩
    obtain ⟨ho, hc, hr⟩ := at_ h1
    rw [← hr] at hq
    obtain ⟨q, s', st, g1, g2, g3⟩ := slQuo_ok (b := b) (s := s) (A := A) ho hl (lt_lim (by omega)) hq
    have hL1 : (L.drop (o + 1)).length = L.length - (o + 1) := List.length_drop
    have hL2 : (L.drop q).length = L.length - q := List.length_drop
    rw [hr] at hL1
    rw [g3] at hL2
    have : q = k := by omega
    subst this
    have st' : l1_split_line (slR L o b s) (slH A) = .nx (slR L q b s') (slH (A ++ [.qu t])) := by
      rw [sl_def, if_f (by rw [slT1_eq ho hlm, hc]; rfl), if_f (by rw [slT2_eq ho hlm, hc, r34]), if_t (by rw [slT3_eq ho hlm, hc]; rfl), st]
    have key := ih n (A ++ [.qu t]) b s' g3 g2 (by simp only [List.length_cons] at h3; omega) (by simp; omega)
    exact (fin ho st' key).app
  | @quoX o r hq =>
    intro n A b s h1 h2 h3 h4
    obtain ⟨n, rfl⟩ : ∃ i, n = i + 1 := ⟨n - 1, by omega⟩
    obtain ⟨ho, hc, hr⟩ := at_ h1
    rw [← hr] at hq
    obtain ⟨r', st⟩ := slQuo_x (b := b) (s := s) (A := A) ho hl hq
    exact ⟨r', slH A, while_exc (cc _ _ _ ho) (by rw [sl_def, if_f (by rw [slT1_eq ho hlm, hc]; rfl), if_f (by rw [slT2_eq ho hlm, hc, r34]), if_t (by rw [slT3_eq ho hlm, hc]; rfl), st])⟩
  | @mrk o c r S e hm _ ih =>
    intro n A b s h1 h2 h3 h4
    obtain ⟨n, rfl⟩ : ∃ i, n = i + 1 := ⟨n - 1, by omega⟩
    obtain ⟨ho, hc, hr⟩ := at_ h1
    obtain ⟨n1, n2, n3⟩ := mrk_ne hm
    have st : l1_split_line (slR L o b s) (slH A) = .nx (slR L (o + 1) b s) (slH (A ++ [.mk c])) := by
      rw [sl_def, if_f (by rw [slT1_eq ho hlm, hc, decide_eq_false n1]), if_f (by rw [slT2_eq ho hlm, hc, n3]), if_f (by rw [slT3_eq ho hlm, hc, decide_eq_false n2]), if_t (by rw [slT4_eq ho hlm, hc, hm]), slMrk_eq ho hlm (lt_lim (by omega)), hc]
    have key := ih n (A ++ [.mk c]) b s hr (by omega) (by simp only [List.length_cons] at h3; omega) (by simp; omega)
    exact (fin ho st key).app
  | @bad o c r n1 n2 n3 n4 =>
    intro n A b s h1 h2 h3 h4
    obtain ⟨n, rfl⟩ : ∃ i, n = i + 1 := ⟨n - 1, by omega⟩
    obtain ⟨ho, hc, hr⟩ := at_ h1
    refine ⟨slR L o b s, slH A, while_exc (cc _ _ _ ho) ?_⟩
    rw [sl_def, if_f (by rw [slT1_eq ho hlm, hc, decide_eq_false n1]), if_f (by rw [slT2_eq ho hlm, hc, n3]), if_f (by rw [slT3_eq ho hlm, hc, decide_eq_false n2]), if_f (by rw [slT4_eq ho hlm, hc, n4])]
    exact raise_eq (by omega) (by simp)
/-- split_line of a text whose signs are known -/
theorem split_ok {L : List Nat} {S : List Sg} {h : Sto} (hl : L.length < 1000) (x : Lex 0 L S none) : F_split_line [wT L] h = .ok (.d (.lst (S.map Sg.d))) h := by
  obtain ⟨b, s, k⟩ := split_go hl x 1000 [] none none rfl (Nat.zero_le _) hl (Nat.le_refl _)
  refine fnI_go rfl rfl ?_
  show closeI h (b_split_line [some (wT L), none, none, none, none] ⟨[], true⟩) = _
  have s1 : sSet 1 (xApp mkNew xNil) [some (wT L), none, none, none, none] ⟨[], true⟩ = .nx [some (wT L), some (.l 0), none, none, none] (slH []) := by simp
  have s2 : sSet 2 (xC (.int 0)) [some (wT L), some (.l 0), none, none, none] (slH []) = .nx (slR L 0 none none) (slH []) := by simp
  unfold b_split_line
  rw [seq_nx s1, seq_nx s2, seq_nx (show sWhile 1000 _ _ (slR L 0 none none) (slH []) = _ from k)]
  simp
theorem split_bad {L : List Nat} {S : List Sg} {k : Nat} {h : Sto} (hl : L.length < 1000) (x : Lex 0 L S (some k)) : F_split_line [wT L] h = .exc (bsX k) h := by
  obtain ⟨r, h1, e⟩ := split_go hl x 1000 [] none none rfl (Nat.zero_le _) hl (Nat.le_refl _)
  have s1 : sSet 1 (xApp mkNew xNil) [some (wT L), none, none, none, none] ⟨[], true⟩ = .nx [some (wT L), some (.l 0), none, none, none] (slH []) := by simp
  have s2 : sSet 2 (xC (.int 0)) [some (wT L), some (.l 0), none, none, none] (slH []) = .nx (slR L 0 none none) (slH []) := by simp
  have go : ∀ f, b_split_line [some (wT L), none, none, none, none] ⟨[], true⟩ = f → F_split_line [wT L] h = closeI h f := fun f e => by
    rw [← e]
    exact rfl
  rw [go (.exc (bsX k) r h1) (by
    unfold b_split_line
    rw [seq_nx s1, seq_nx s2]
    show Fl.seq (sWhile 1000 _ _ _ _) _ = _
    rw [show sWhile 1000 _ _ (slR L 0 none none) (slH []) = _ from e]
    rfl)]
  rfl

/-! ### signs as they are written -/
def e1 (c : Nat) : List Nat := if c = 92 then [92, 92] else if c = 34 then [92, 34] else if c = 10 then [92, 110] else [c]
def escT (s : List Nat) : List Nat := (s.map e1).flatten
theorem rep_app {c : Nat} {z : List Nat} : ∀ a b : List Nat, rep c z (a ++ b) = rep c z a ++ rep c z b
  | [], b => rfl
  | d :: a, b => by
    by_cases h : d = c
    · simp [rep, h, rep_app a b]
    · simp [rep, h, rep_app a b]
theorem rep_esc (s : List Nat) : rep 10 [92, 110] (rep 34 [92, 34] (rep 92 [92, 92] s)) = escT s := by
  induction s with
  | nil => rfl
  | cons c s ih =>
    have e : rep 92 [92, 92] (c :: s) = rep 92 [92, 92] [c] ++ rep 92 [92, 92] s := rep_app [c] s
    rw [e, rep_app, rep_app, ih]
    show _ = e1 c ++ escT s
    congr 1
    by_cases h1 : c = 92
    · subst h1; rfl
    · by_cases h2 : c = 34
      · subst h2; rfl
      · by_cases h3 : c = 10
        · subst h3; rfl
        · simp [rep, e1, h1, h2, h3]
def tok : Sg → List Nat
  | .nm s => s
  | .nu n => dig n
  | .qu s => 34 :: (escT s ++ [34])
  | .mk c => [c]
def wordB : Sg → Bool
  | .nm _ => true
  | .nu _ => true
  | _ => false
def okS : Sg → Prop
  | .nm s => nameB s = true
  | .nu n => n < 1000000000
  | .qu s => ∀ c ∈ s, chsB c = true ∨ c = 10
  | .mk c => mrkB c = true
theorem quo_esc {r : List Nat} : ∀ (s acc : List Nat), (∀ c ∈ s, chsB c = true ∨ c = 10) → quo (escT s ++ 34 :: r) acc = some (acc ++ s, r)
  | [], acc, _ => by simp [escT, quo_q]
  | c :: s, acc, h => by
    have ih := fun acc => quo_esc (r := r) s acc fun d hd => h d (List.mem_cons_of_mem _ hd)
    show quo ((e1 c ++ escT s) ++ 34 :: r) acc = _
    by_cases h1 : c = 92
    · subst h1
      show quo (92 :: 92 :: (escT s ++ 34 :: r)) acc = _
      rw [quo_b]
      show quo _ (acc ++ [92]) = _
      rw [ih]
      simp
    · by_cases h2 : c = 34
      · subst h2
        show quo (92 :: 34 :: (escT s ++ 34 :: r)) acc = _
        rw [quo_b]
        show quo _ (acc ++ [34]) = _
        rw [ih]
        simp
      · by_cases h3 : c = 10
        · subst h3
          show quo (92 :: 110 :: (escT s ++ 34 :: r)) acc = _
          rw [quo_b]
          show quo _ (acc ++ [10]) = _
          rw [ih]
          simp
        · have e : e1 c = [c] := by simp [e1, h1, h2, h3]
          rw [e]
          show quo (c :: (escT s ++ 34 :: r)) acc = _
          rw [quo_c h2 h1, if_pos ((h c List.mem_cons_self).resolve_right h3), ih]
          simp
theorem let_run {c : Nat} (h : letB c = true) : runB c = true := by
  have k : ∀ c ∈ Tx LET, runB c = true := by decide +kernel
  exact k c (of_decide_eq_true h)
theorem dig_run {c : Nat} (h : digB c = true) : runB c = true := by
  have k : ∀ c ∈ Tx DIG, runB c = true := by decide +kernel
  exact k c (of_decide_eq_true h)
theorem digB_of {c : Nat} (h : 48 ≤ c ∧ c ≤ 57) : digB c = true := by
  have k : ∀ c : Fin 58, 48 ≤ c.val → digB c.val = true := by decide +kernel
  exact k ⟨c, by omega⟩ h.1
theorem letB_dig {c : Nat} (h : 48 ≤ c ∧ c ≤ 57) : letB c = false := by
  have k : ∀ c : Fin 58, 48 ≤ c.val → letB c.val = false := by decide +kernel
  exact k ⟨c, by omega⟩ h.1
theorem name_run {s : List Nat} (h : nameB s = true) : s ≠ [] ∧ ∀ c ∈ s, runB c = true := by
  cases s with
  | nil => cases h
  | cons c r =>
    refine ⟨by simp, fun d hd => ?_⟩
    simp only [nameB, Bool.and_eq_true, List.all_eq_true] at h
    have := h.2 d hd
    rw [Bool.or_eq_true] at this
    rcases this with z | z
    · exact let_run z
    · exact dig_run z
theorem tw_all {s rest : List Nat} (h : ∀ c ∈ s, runB c = true) (hr : ∀ c r, rest = c :: r → runB c = false) : (s ++ rest).takeWhile runB = s ∧ (s ++ rest).dropWhile runB = rest := by
  induction s with
  | nil =>
    cases rest with
    | nil => exact ⟨rfl, rfl⟩
    | cons c r => simp [hr c r rfl]
  | cons c s ih =>
    have := ih fun d hd => h d (List.mem_cons_of_mem _ hd)
    simp [h c List.mem_cons_self, this.1, this.2]
theorem runSg_nu {n : Nat} (h : n < 1000000000) : runSg (dig n) = some (.nu n) := by
  have a1 := dig_digits n
  have a2 := dig_ne n
  have a3 := dig_len9 h
  have a4 := dig_val n
  have a5 := dig_head n
  obtain ⟨c, r, e⟩ : ∃ c r, dig n = c :: r := by
    cases hd : dig n with
    | nil => exact absurd hd a2
    | cons c r => exact ⟨c, r, rfl⟩
  unfold runSg
  rw [e] at a1 a3 a4 a5 ⊢
  have b1 : nameB (c :: r) = false := by
    simp [nameB, letB_dig (a1 c List.mem_cons_self)]
  have b2 : (c :: r).all digB = true := List.all_eq_true.mpr fun d hd => digB_of (a1 d hd)
  have b3 : (decide (1 < (c :: r).length) && decide ((c :: r).head? = some 48)) = false := by
    by_cases h1 : 1 < (c :: r).length
    · have := a5 h1
      simp only [decide_eq_true h1, Bool.true_and]
      exact decide_eq_false this
    · simp only [decide_eq_false h1, Bool.false_and]
  rw [b1, b2, b3, a4, decide_eq_true a3]
  rfl
/-- what goes on: a text of signs S whose next sign must not go on with a run, if w -/
def Pre (t : List Nat) (S : List Sg) (w : Bool) : Prop := ∀ (rest : List Nat) (o : Nat) (S' : List Sg) (e : Option Nat), (w = true → ∀ c r, rest = c :: r → runB c = false) → Lex (o + t.length) rest S' e → Lex o (t ++ rest) (S ++ S') e
theorem Pre.nil : Pre [] [] false := fun rest o S' e _ x => x
theorem Pre.app {t u : List Nat} {S U : List Sg} {w v : Bool} (p : Pre t S w) (q : Pre u U v) (h : w = true → ∀ c r, u = c :: r → runB c = false) (hu : w = true → u = [] → v = true) : Pre (t ++ u) (S ++ U) v := fun rest o S' e hv x => by
  rw [List.append_assoc, List.append_assoc]
  refine p (u ++ rest) o (U ++ S') e (fun hw c r hc => ?_) (q rest _ S' e hv (by rw [List.length_append, ← Nat.add_assoc] at x; exact x))
  cases u with
  | nil => exact hv (hu hw rfl) c r hc
  | cons d u =>
    cases hc
    exact h hw _ _ rfl
theorem Pre.sp (n : Nat) : Pre (List.replicate n 32) [] false := by
  induction n with
  | zero => exact Pre.nil
  | succ n ih =>
    intro rest o S' e hv x
    rw [List.replicate_succ]
    refine .sp (ih rest (o + 1) S' e hv ?_)
    rw [List.length_replicate] at x ⊢
    rw [show o + 1 + n = o + (n + 1) by omega]
    exact x
theorem Pre.one {s : Sg} (h : okS s) : Pre (tok s) [s] (wordB s) := by
  intro rest o S' e hv x
  cases s with
  | nm s =>
    obtain ⟨hn, hr⟩ := name_run h
    obtain ⟨t1, t2⟩ := tw_all (rest := rest) hr (hv rfl)
    obtain ⟨c, r, rfl⟩ : ∃ c r, s = c :: r := by cases s with | nil => exact absurd rfl hn | cons c r => exact ⟨c, r, rfl⟩
    refine Lex.run (c := c) (r := r ++ rest) (hr c List.mem_cons_self) (s := .nm (c :: r)) ?_ ?_
    · show runSg ((c :: r ++ rest).takeWhile runB) = _
      rw [t1]
      unfold runSg
      rw [if_pos (show nameB (c :: r) = true from h)]
    · show Lex (o + ((c :: r ++ rest).takeWhile runB).length) ((c :: r ++ rest).dropWhile runB) S' e
      rw [t1, t2]
      exact x
  | nu n =>
    have a1 := dig_digits n
    have hr : ∀ c ∈ dig n, runB c = true := fun c hc => dig_run (digB_of (a1 c hc))
    obtain ⟨t1, t2⟩ := tw_all (rest := rest) hr (hv rfl)
    have hs := runSg_nu h
    show Lex o (dig n ++ rest) _ e
    have x' : Lex (o + (dig n).length) rest S' e := x
    have hn : dig n ≠ [] := dig_ne n
    generalize dig n = d at t1 t2 hs hr hn x'
    obtain ⟨c, r, rfl⟩ : ∃ c r, d = c :: r := by cases d with | nil => exact absurd rfl hn | cons c r => exact ⟨c, r, rfl⟩
    refine Lex.run (c := c) (r := r ++ rest) (hr c List.mem_cons_self) (s := .nu n) ?_ ?_
    · show runSg ((c :: r ++ rest).takeWhile runB) = _
      rw [t1, hs]
    · show Lex (o + ((c :: r ++ rest).takeWhile runB).length) ((c :: r ++ rest).dropWhile runB) S' e
      rw [t1, t2]
      exact x'
  | qu s =>
    have q := quo_esc (r := rest) s [] h
    show Lex o (34 :: (escT s ++ [34]) ++ rest) _ e
    have e' : 34 :: (escT s ++ [34]) ++ rest = 34 :: (escT s ++ 34 :: rest) := by simp
    rw [e']
    exact Lex.quo (k := o + (tok (.qu s)).length) q (by simp [tok]; omega) x
  | mk c =>
    exact Lex.mrk h x
theorem Pre.done {t : List Nat} {S : List Sg} {w : Bool} (p : Pre t S w) : Lex 0 t S none := by
  have := p [] 0 [] none (fun _ c r h => nomatch h) .nil
  simpa using this
theorem tok_head {s : Sg} (h : okS s) (hw : wordB s = false) : ∀ c r, tok s = c :: r → runB c = false := by
  intro c r e
  cases s with
  | nm s => cases hw
  | nu s => cases hw
  | qu s =>
    cases e
    decide +kernel
  | mk d =>
    cases e
    exact (mrk_ne h).2.2
theorem tok_ne {s : Sg} (h : okS s) : tok s ≠ [] := by
  cases s with
  | nm s => exact (name_run h).1
  | nu n => exact dig_ne n
  | qu s => exact List.cons_ne_nil _ _
  | mk d => exact List.cons_ne_nil _ _
/-- a sign behind n spaces -/
theorem Pre.next {t : List Nat} {S : List Sg} {w : Bool} {s : Sg} {n : Nat} (p : Pre t S w) (h : okS s) (hn : w = true → wordB s = true → 1 ≤ n) : Pre (t ++ List.replicate n 32 ++ tok s) (S ++ [s]) (wordB s) := by
  have q : Pre (List.replicate n 32 ++ tok s) ([] ++ [s]) (wordB s) := (Pre.sp n).app (Pre.one h) (fun z => nomatch z) (fun z => nomatch z)
  rw [List.append_assoc]
  refine p.app q (fun hw c r e => ?_) fun hw e => ?_
  · cases n with
    | zero =>
      have hs : wordB s = false := by
        cases z : wordB s with
        | false => rfl
        | true => exact absurd (hn hw z) (by decide)
      exact tok_head h hs c r (by simpa using e)
    | succ n =>
      rw [List.replicate_succ] at e
      cases e
      decide +kernel
  · have := congrArg List.length e
    simp at this
    exact absurd this.2 (tok_ne h)
/-- shifted -/
theorem Lex.shift {o : Nat} {l : List Nat} {S : List Sg} {e : Option Nat} (x : Lex o l S e) (d : Nat) : Lex (o + d) l S (e.map (· + d)) := by
  induction x with
  | nil => exact .nil
  | @sp o r S e _ ih =>
    refine .sp ?_
    rw [show o + d + 1 = o + 1 + d by omega]
    exact ih
  | @run o c r s S e h1 h2 _ ih =>
    refine .run h1 h2 ?_
    rw [show ∀ k, o + d + k = o + k + d by intro k; omega]
    exact ih
  | runX h1 h2 => exact .runX h1 h2
  | @quo o k r t r' S e h1 h2 _ ih => exact .quo (k := k + d) h1 (by omega) ih
  | quoX h => exact .quoX h
  | @mrk o c r S e h _ ih =>
    refine .mrk h ?_
    rw [show o + d + 1 = o + 1 + d by omega]
    exact ih
  | bad h1 h2 h3 h4 => exact .bad h1 h2 h3 h4
/-- found by computing -/
def lexF : Nat → Nat → List Nat → Option (List Sg × Option Nat)
  | 0, _, _ => none
  | _ + 1, _, [] => some ([], none)
  | n + 1, o, c :: r =>
    if c = 32 then lexF n (o + 1) r
    else if runB c = true then match runSg ((c :: r).takeWhile runB) with
      | some s => match lexF n (o + ((c :: r).takeWhile runB).length) ((c :: r).dropWhile runB) with
        | some p => some (s :: p.1, p.2)
        | none => none
      | none => some ([], some o)
    else if c = 34 then match quo r [] with
      | some p => if p.2.length ≤ r.length then match lexF n (o + (r.length + 1) - p.2.length) p.2 with
        | some p2 => some (.qu p.1 :: p2.1, p2.2)
        | none => none
        else none
      | none => some ([], some o)
    else if mrkB c = true then match lexF n (o + 1) r with
      | some p => some (.mk c :: p.1, p.2)
      | none => none
    else some ([], some o)
theorem lexF_ok : ∀ (n o : Nat) (l : List Nat) (S : List Sg) (e : Option Nat), lexF n o l = some (S, e) → Lex o l S e
  | 0, _, _, _, _, h => nomatch h
  | n + 1, o, [], S, e, h => by
    cases h
    exact .nil
  | n + 1, o, c :: r, S, e, h => by
    unfold lexF at h
    split at h
    · rename_i hc
      subst hc
      exact .sp (lexF_ok n _ _ _ _ h)
    · rename_i n32
      split at h
      · rename_i hr
        split at h
        · rename_i s hs
          split at h
          · rename_i p hp
            cases h
            exact .run hr hs (lexF_ok n _ _ _ _ hp)
          · cases h
        · rename_i hs
          cases h
          exact .runX hr hs
      · rename_i nr
        split at h
        · rename_i hq
          subst hq
          split at h
          · rename_i p hp
            split at h
            · rename_i hl
              split at h
              · rename_i p2 hp2
                cases h
                exact .quo (t := p.1) (r' := p.2) hp (by omega) (lexF_ok n _ _ _ _ hp2)
              · cases h
            · cases h
          · rename_i hp
            cases h
            exact .quoX hp
        · rename_i nq
          split at h
          · rename_i hm
            split at h
            · rename_i p hp
              cases h
              exact .mrk hm (lexF_ok n _ _ _ _ hp)
            · cases h
          · rename_i nm
            cases h
            exact .bad n32 nq (by simpa using nr) (by simpa using nm)

/-! ### signs in parts -/
abbrev wkD (s : Sg) : D := match s with
  | .nm _ => .str "name"
  | .nu _ => .str "number"
  | .qu _ => .str "quoted"
  | .mk _ => .str "mark"
abbrev wvD (s : Sg) : D := match s with
  | .nm s => .str (Xs.mk s)
  | .nu n => .int n
  | .qu s => .str (Xs.mk s)
  | .mk c => .str (Xs.mk [c])
theorem Sg.d_pair (s : Sg) : s.d = .tup [wkD s, wvD s] := by cases s <;> rfl
def shortS : Sg → Prop
  | .nm s => s.length ≤ 12
  | .qu s => s.length ≤ 1000
  | _ => True

/-! ### words -/
def w_number : List Nat := [110, 117, 109, 98, 101, 114]
theorem q_number : (("number" : Str) : Str) = Xs.mk w_number := by decide +kernel
def w_name : List Nat := [110, 97, 109, 101]
theorem q_name : (("name" : Str) : Str) = Xs.mk w_name := by decide +kernel
def w_text : List Nat := [116, 101, 120, 116]
theorem q_text : (("text" : Str) : Str) = Xs.mk w_text := by decide +kernel
def w_scalar : List Nat := [115, 99, 97, 108, 97, 114]
theorem q_scalar : (("scalar" : Str) : Str) = Xs.mk w_scalar := by decide +kernel
def w_quoted : List Nat := [113, 117, 111, 116, 101, 100]
theorem q_quoted : (("quoted" : Str) : Str) = Xs.mk w_quoted := by decide +kernel
def w_none : List Nat := [110, 111, 110, 101]
theorem q_none : (("none" : Str) : Str) = Xs.mk w_none := by decide +kernel
def w_true : List Nat := [116, 114, 117, 101]
theorem q_true : (("true" : Str) : Str) = Xs.mk w_true := by decide +kernel
def w_false : List Nat := [102, 97, 108, 115, 101]
theorem q_false : (("false" : Str) : Str) = Xs.mk w_false := by decide +kernel
def w_bool : List Nat := [98, 111, 111, 108]
theorem q_bool : (("bool" : Str) : Str) = Xs.mk w_bool := by decide +kernel
def w_int : List Nat := [105, 110, 116]
theorem q_int : (("int" : Str) : Str) = Xs.mk w_int := by decide +kernel
def w_update : List Nat := [117, 112, 100, 97, 116, 101]
theorem q_update : (("update" : Str) : Str) = Xs.mk w_update := by decide +kernel
def w_from : List Nat := [102, 114, 111, 109]
theorem q_from : (("from" : Str) : Str) = Xs.mk w_from := by decide +kernel
def w_to : List Nat := [116, 111]
theorem q_to : (("to" : Str) : Str) = Xs.mk w_to := by decide +kernel
def w_outcomes : List Nat := [111, 117, 116, 99, 111, 109, 101, 115]
theorem q_outcomes : (("outcomes" : Str) : Str) = Xs.mk w_outcomes := by decide +kernel
def w_events : List Nat := [101, 118, 101, 110, 116, 115]
theorem q_events : (("events" : Str) : Str) = Xs.mk w_events := by decide +kernel
def w_version : List Nat := [118, 101, 114, 115, 105, 111, 110]
theorem q_version : (("version" : Str) : Str) = Xs.mk w_version := by decide +kernel
def w_event : List Nat := [101, 118, 101, 110, 116]
theorem q_event : (("event" : Str) : Str) = Xs.mk w_event := by decide +kernel
def w_node : List Nat := [110, 111, 100, 101]
theorem q_node : (("node" : Str) : Str) = Xs.mk w_node := by decide +kernel
def w_layer : List Nat := [108, 97, 121, 101, 114]
theorem q_layer : (("layer" : Str) : Str) = Xs.mk w_layer := by decide +kernel
def w_remove : List Nat := [114, 101, 109, 111, 118, 101]
theorem q_remove : (("remove" : Str) : Str) = Xs.mk w_remove := by decide +kernel
def w_content : List Nat := [99, 111, 110, 116, 101, 110, 116]
theorem q_content : (("content" : Str) : Str) = Xs.mk w_content := by decide +kernel
def w_element : List Nat := [101, 108, 101, 109, 101, 110, 116]
theorem q_element : (("element" : Str) : Str) = Xs.mk w_element := by decide +kernel
def w_in : List Nat := [105, 110]
theorem q_in : (("in" : Str) : Str) = Xs.mk w_in := by decide +kernel
def w_after : List Nat := [97, 102, 116, 101, 114]
theorem q_after : (("after" : Str) : Str) = Xs.mk w_after := by decide +kernel
def w_move : List Nat := [109, 111, 118, 101]
theorem q_move : (("move" : Str) : Str) = Xs.mk w_move := by decide +kernel
def w_attr : List Nat := [97, 116, 116, 114]
theorem q_attr : (("attr" : Str) : Str) = Xs.mk w_attr := by decide +kernel
def w_applied : List Nat := [97, 112, 112, 108, 105, 101, 100]
theorem q_applied : (("applied" : Str) : Str) = Xs.mk w_applied := by decide +kernel
def w_failed : List Nat := [102, 97, 105, 108, 101, 100]
theorem q_failed : (("failed" : Str) : Str) = Xs.mk w_failed := by decide +kernel
def w_unhandled : List Nat := [117, 110, 104, 97, 110, 100, 108, 101, 100]
theorem q_unhandled : (("unhandled" : Str) : Str) = Xs.mk w_unhandled := by decide +kernel
def w_stale : List Nat := [115, 116, 97, 108, 101]
theorem q_stale : (("stale" : Str) : Str) = Xs.mk w_stale := by decide +kernel
def w_removed : List Nat := [114, 101, 109, 111, 118, 101, 100]
theorem q_removed : (("removed" : Str) : Str) = Xs.mk w_removed := by decide +kernel
def w_conflict : List Nat := [99, 111, 110, 102, 108, 105, 99, 116]
theorem q_conflict : (("conflict" : Str) : Str) = Xs.mk w_conflict := by decide +kernel
def w_end : List Nat := [101, 110, 100]
theorem q_end : (("end" : Str) : Str) = Xs.mk w_end := by decide +kernel
def w_mark : List Nat := [109, 97, 114, 107]
theorem q_mark : (("mark" : Str) : Str) = Xs.mk w_mark := by decide +kernel

/-! ### scalars -/
inductive Scl where
  | non | bl (b : Bool) | int (n : Nat) | tx (s : List Nat)
  deriving DecidableEq
def Scl.d : Scl → D
  | .non => .tup [.str "none"]
  | .bl b => .tup [.str "bool", .bl b]
  | .int n => .tup [.str "int", .int n]
  | .tx s => .tup [.str "text", .str (Xs.mk s)]
def txOk (s : List Nat) : Prop := s.length ≤ 40 ∧ ∀ c ∈ s, chsB c = true
def Scl.ok : Scl → Prop
  | .int n => n ≤ 999999
  | .tx s => txOk s
  | _ => True
def Scl.sg : Scl → Sg
  | .non => .nm w_none
  | .bl true => .nm w_true
  | .bl false => .nm w_false
  | .int n => .nu n
  | .tx s => .qu s
theorem Scl.sg_ok {x : Scl} (h : x.ok) : okS x.sg ∧ shortS x.sg := by
  cases x with
  | non => exact ⟨by show nameB w_none = true; decide +kernel, by show w_none.length ≤ 12; decide +kernel⟩
  | bl b =>
    cases b
    · exact ⟨by show nameB w_false = true; decide +kernel, by show w_false.length ≤ 12; decide +kernel⟩
    · exact ⟨by show nameB w_true = true; decide +kernel, by show w_true.length ≤ 12; decide +kernel⟩
  | int n => exact ⟨by show n < 1000000000; have : n ≤ 999999 := h; omega, trivial⟩
  | tx s => exact ⟨fun c hc => .inl (h.2 c hc), Nat.le_trans h.1 (by decide)⟩
theorem is_text_eq {s : List Nat} {a b : Nat} {h : Sto} (hl : s.length ≤ lim) : F_is_text [wT s, .d (.int a), .d (.int b)] h = .ok (.d (.bl (decide (a ≤ s.length) && decide (s.length ≤ b) && s.all chsB))) h := by
  refine fnI_go rfl rfl ?_
  show closeI h (b_is_text [some (wT s), some (.d (.int a)), some (.d (.int b)), none] ⟨[], true⟩) = _
  have ec : (fun c => Txt.contains " !\"#$&'()*+,-./0123456789:;<=>?@ABCDEFGHIJKLMNOPQRSTUVWXYZ[\\]^_`abcdefghijklmnopqrstuvwxyz{|}~" ⟨#[c]⟩) = chsB := funext fun c => contains_mk _ c
  unfold b_is_text
  rw [ec]
  by_cases h1 : a ≤ s.length
  · have h1' : (a : Int) ≤ s.length := by omega
    by_cases h2 : s.length ≤ b
    · have h2' : (s.length : Int) ≤ b := by omega
      simp [hl, h1, h2, h1', h2']
    · have h2' : ¬ (s.length : Int) ≤ b := by omega
      simp [hl, h1, h2, h1', h2']
  · have h1' : ¬ (a : Int) ≤ s.length := by omega
    simp [hl, h1, h1']
theorem tx_all {s : List Nat} (h : ∀ c ∈ s, chsB c = true) : s.all chsB = true := List.all_eq_true.mpr h
theorem is_number_eq {n m : Nat} {h : Sto} (hn : n ≤ m) : F_is_number [.d (.int n), .d (.int m)] h = .ok (.d (.bl true)) h := by
  refine fnI_go rfl rfl ?_
  show closeI h (b_is_number [some (.d (.int n)), some (.d (.int m))] ⟨[], true⟩) = _
  have h0 : (0 : Int) ≤ n := by omega
  have h1 : (n : Int) ≤ m := by omega
  simp [b_is_number, tyName, tns, isA, h0, h1]
theorem is_scalar_eq {x : Scl} {h : Sto} (ok : x.ok) : F_is_scalar [.d x.d] h = .ok (.d (.bl true)) h := by
  refine fnI_go rfl rfl ?_
  show closeI h (b_is_scalar [some (.d x.d)] ⟨[], true⟩) = _
  have z1 : (Str.ofString "bool" == Str.ofString "none") = false := by decide +kernel
  have z2 : (Str.ofString "int" == Str.ofString "none") = false := by decide +kernel
  have z3 : (Str.ofString "int" == Str.ofString "bool") = false := by decide +kernel
  have z4 : (Str.ofString "text" == Str.ofString "none") = false := by decide +kernel
  have z5 : (Str.ofString "text" == Str.ofString "bool") = false := by decide +kernel
  have z6 : (Str.ofString "text" == Str.ofString "int") = false := by decide +kernel
  have l2 : 2 ≤ lim := lim_of (by decide)
  cases x with
  | non => simp [b_is_scalar, Scl.d, D_NONE, D.eq]
  | bl b => simp [b_is_scalar, Scl.d, D_NONE, D.eq, z1, l2, tyName, tns, isA]
  | int n =>
    have e := is_number_eq (n := n) (m := 999999) (h := ⟨[], true⟩) ok
    simp [b_is_scalar, Scl.d, D_NONE, D.eq, z2, z3, l2, tyName, tns, isA]
    exact e ▸ rfl
  | tx s =>
    have hl : s.length ≤ lim := lim_of (Nat.le_trans ok.1 (by decide))
    have e := is_text_eq (s := s) (a := 0) (b := 40) (h := ⟨[], true⟩) hl
    rw [tx_all ok.2, decide_eq_true (Nat.zero_le _), decide_eq_true ok.1] at e
    simp [b_is_scalar, Scl.d, D_NONE, D.eq, z4, z5, z6, l2, tyName, tns, isA]
    exact e ▸ rfl

/-! ### signs that are read -/
abbrev rdO (S : List Sg) (k c : Nat) : O := .ins "Reading" [("signs", .d (.lst (S.map Sg.d))), ("at", .d (.int k)), ("calls", .d (.int c))]
abbrev rst (S : List Sg) (k c : Nat) (rest : List O) : Sto := ⟨rdO S k c :: rest, true⟩
abbrev badX : Xs.Ex := ⟨"BadExpression", []⟩
def sgAt (S : List Sg) (k : Nat) : D := match S[k]? with
  | some s => s.d
  | none => .tup [.str "end", .str ""]
theorem sgAt_some {S : List Sg} {k : Nat} {s : Sg} (h : S[k]? = some s) : sgAt S k = s.d := by simp [sgAt, h]
theorem sgAt_none {S : List Sg} {k : Nat} (h : S[k]? = none) : sgAt S k = .tup [.str "end", .str ""] := by simp [sgAt, h]
theorem n_sa : (Str.ofString "signs" == Str.ofString "at") = false := by decide +kernel
theorem n_as : (Str.ofString "at" == Str.ofString "signs") = false := by decide +kernel
theorem n_cs : (Str.ofString "calls" == Str.ofString "signs") = false := by decide +kernel
theorem n_ca : (Str.ofString "calls" == Str.ofString "at") = false := by decide +kernel
theorem n_ac : (Str.ofString "at" == Str.ofString "calls") = false := by decide +kernel
theorem n_sc : (Str.ofString "signs" == Str.ofString "calls") = false := by decide +kernel
section
variable {S : List Sg} {k c : Nat} {rest : List O}
theorem rsign_eq (hl : S.length ≤ lim) : F_Reading_sign [.l 0] (rst S k c rest) = .ok (.d (sgAt S k)) (rst S k c rest) := by
  have go : ∀ x, b_Reading_sign [some (.l 0)] (rst S k c rest) = .rt (.d x) (rst S k c rest) → F_Reading_sign [.l 0] (rst S k c rest) = .ok (.d x) (rst S k c rest) := fun x e => by
    show closeT true _ true (b_Reading_sign [some (.l 0)] (rst S k c rest)) = _
    rw [e]
    simp
  refine go _ ?_
  by_cases hk : k < S.length
  · have hk' : (k : Int) < S.length := by omega
    have e : S[k]? = some S[k] := by simp [hk]
    rw [sgAt_some e]
    have a : atI (List.map (W.d ∘ Sg.d) S) (k : Int) = some (.d S[k].d) := by rw [Xs.atI_nat (by simpa using hk)]; simp
    simp [b_Reading_sign, insOf, List.lookup, n_as, n_sa, hl, hk', a]
  · have hk' : ¬ (k : Int) < S.length := by omega
    rw [sgAt_none (by simp; omega)]
    simp [b_Reading_sign, insOf, List.lookup, n_as, n_sa, hl, hk']
theorem rtake_eq (hl : S.length ≤ lim) : F_Reading_take [.l 0] (rst S k c rest) = .ok (.d (sgAt S k)) (rst S (k + 1) c rest) := by
  have e := rsign_eq (k := k) (c := c) (rest := rest) hl
  show closeT true (rest.length + 1) true (b_Reading_take [some (.l 0), none] (rst S k c rest)) = _
  have s1 : sSet 1 (xMeth "Reading" "sign" F_Reading_sign (xVar 0) xNil) [some (.l 0), none] (rst S k c rest) = .nx [some (.l 0), some (.d (sgAt S k))] (rst S k c rest) := by
    have n1 : (Str.ofString "sign" == Str.ofString "signs") = false := by decide +kernel
    have n2 : (Str.ofString "sign" == Str.ofString "at") = false := by decide +kernel
    have n3 : (Str.ofString "sign" == Str.ofString "calls") = false := by decide +kernel
    simp [xMeth, insOf, List.lookup, n1, n2, n3, e]
  have s2 : sAugF "Reading" "at" fAddI (xVar 0) (xC (.int 1)) [some (.l 0), some (.d (sgAt S k))] (rst S k c rest) = .nx [some (.l 0), some (.d (sgAt S k))] (rst S (k + 1) c rest) := by
    simp [sAugF, insOf, List.lookup, n_as, n_sa, fSetF, putS]
  unfold b_Reading_take
  rw [seq_nx s1, seq_nx s2]
  simp
theorem mk_dec {m : Nat} : D.eq (sgAt S k) (.tup [.str "mark", .str (Xs.mk [m])]) = decide (S[k]? = some (.mk m)) := by
  have z1 : (Str.ofString "name" == Str.ofString "mark") = false := by decide +kernel
  have z2 : (Str.ofString "number" == Str.ofString "mark") = false := by decide +kernel
  have z3 : (Str.ofString "quoted" == Str.ofString "mark") = false := by decide +kernel
  have z4 : (Str.ofString "end" == Str.ofString "mark") = false := by decide +kernel
  cases e : S[k]? with
  | none => simp [sgAt_none e, D.eq, z4]
  | some s =>
    rw [sgAt_some e]
    cases s with
    | mk x => simp [Sg.d, D.eq]
    | nm x => simp [Sg.d, D.eq, z1]
    | nu x => simp [Sg.d, D.eq, z2]
    | qu x => simp [Sg.d, D.eq, z3]
theorem sgAt_shal {m : Nat} : shal (sgAt S k) (.tup [.str "mark", .str (Xs.mk [m])]) = true := by simp [shal]
theorem rexpect_eq {m : Nat} (hl : S.length ≤ lim) : F_Reading_expect [.l 0, wT [m]] (rst S k c rest) = if S[k]? = some (.mk m) then .ok (.d .non) (rst S (k + 1) c rest) else .exc badX (rst S (k + 1) c rest) := by
  have e := rtake_eq (k := k) (c := c) (rest := rest) hl
  show closeT true (rest.length + 1) true (b_Reading_expect [some (.l 0), some (wT [m])] (rst S k c rest)) = _
  have n1 : (Str.ofString "take" == Str.ofString "signs") = false := by decide +kernel
  have n2 : (Str.ofString "take" == Str.ofString "at") = false := by decide +kernel
  have n3 : (Str.ofString "take" == Str.ofString "calls") = false := by decide +kernel
  have tt : xTest (xBin fNe (xMeth "Reading" "take" F_Reading_take (xVar 0) xNil) (xApp mkTup (xCons (xC (.str "mark")) (xCons (xVar 1) xNil)))) [some (.l 0), some (wT [m])] (rst S k c rest) = .ok (!decide (S[k]? = some (.mk m))) (rst S (k + 1) c rest) := by
    rw [← mk_dec]
    have sh := sgAt_shal (S := S) (k := k) (m := m)
    simp [xMeth, insOf, List.lookup, n1, n2, n3, e, sh]
  unfold b_Reading_expect
  simp only [sIf, tt, Re.then]
  by_cases h : S[k]? = some (.mk m)
  · simp [h]
  · simp [h, sRaise0]
theorem rpassed_eq {m : Nat} (hl : S.length ≤ lim) : F_Reading_passed [.l 0, wT [m]] (rst S k c rest) = .ok (.d (.bl (decide (S[k]? = some (.mk m))))) (rst S (if S[k]? = some (.mk m) then k + 1 else k) c rest) := by
  have e := rsign_eq (k := k) (c := c) (rest := rest) hl
  show closeT true (rest.length + 1) true (b_Reading_passed [some (.l 0), some (wT [m])] (rst S k c rest)) = _
  have n1 : (Str.ofString "sign" == Str.ofString "signs") = false := by decide +kernel
  have n2 : (Str.ofString "sign" == Str.ofString "at") = false := by decide +kernel
  have n3 : (Str.ofString "sign" == Str.ofString "calls") = false := by decide +kernel
  have tt : xTest (xBin fEq (xMeth "Reading" "sign" F_Reading_sign (xVar 0) xNil) (xApp mkTup (xCons (xC (.str "mark")) (xCons (xVar 1) xNil)))) [some (.l 0), some (wT [m])] (rst S k c rest) = .ok (decide (S[k]? = some (.mk m))) (rst S k c rest) := by
    rw [← mk_dec]
    have sh := sgAt_shal (S := S) (k := k) (m := m)
    simp [xMeth, insOf, List.lookup, n1, n2, n3, e, sh]
  have s2 : sAugF "Reading" "at" fAddI (xVar 0) (xC (.int 1)) [some (.l 0), some (wT [m])] (rst S k c rest) = .nx [some (.l 0), some (wT [m])] (rst S (k + 1) c rest) := by
    simp [sAugF, insOf, List.lookup, n_as, n_sa, fSetF, putS]
  unfold b_Reading_passed
  by_cases h : S[k]? = some (.mk m)
  · simp only [sSeq, sIf, tt, Re.then, h, decide_true, if_true, s2]
    simp
  · simp only [sSeq, sIf, tt, Re.then, h, decide_false, Bool.false_eq_true, if_false]
    simp
theorem rcall_eq {d : Nat} : F_Reading_call [.l 0, .d (.int d)] (rst S k c rest) = if 5 ≤ d ∨ 10 ≤ c then .exc badX (rst S k (c + 1) rest) else .ok (.d .non) (rst S k (c + 1) rest) := by
  show closeT true (rest.length + 1) true (b_Reading_call [some (.l 0), some (.d (.int d))] (rst S k c rest)) = _
  have s2 : sAugF "Reading" "calls" fAddI (xVar 0) (xC (.int 1)) [some (.l 0), some (.d (.int d))] (rst S k c rest) = .nx [some (.l 0), some (.d (.int d))] (rst S k (c + 1) rest) := by
    simp [sAugF, insOf, List.lookup, n_as, n_sa, n_cs, n_ca, fSetF, putS]
  unfold b_Reading_call
  rw [seq_nx s2]
  by_cases h1 : 5 ≤ d
  · have h1' : (5 : Int) ≤ d := by omega
    simp [h1, h1', sRaise0]
  · have h1' : ¬ (5 : Int) ≤ d := by omega
    by_cases h2 : 10 ≤ c
    · have h2' : (10 : Int) < c + 1 := by omega
      simp [h1, h1', h2, h2', insOf, List.lookup, n_cs, n_ca, sRaise0]
    · have h2' : ¬ (10 : Int) < c + 1 := by omega
      simp [h1, h1', h2, h2', insOf, List.lookup, n_cs, n_ca]
end

/-! ### values, expressions; how they are read -/
inductive Vl where
  | sc (x : Scl) | mp (es : List (List Nat × Scl))
  deriving DecidableEq
def enD (p : List Nat × Scl) : D := .tup [.str (Xs.mk p.1), p.2.d]
def Vl.d : Vl → D
  | .sc x => x.d
  | .mp es => .tup [.str "map", .tup (es.map enD)]
inductive Exp where
  | lit (v : Vl) | var (z : List Nat) | inj (z : List Nat) (e : Exp) | call (f : List Nat) (as : List Exp)
mutual
def Exp.d : Exp → D
  | .lit v => .tup [.str "literal", v.d]
  | .var z => .tup [.str "variable", .str (Xs.mk z)]
  | .inj z e => .tup [.str "inject", .str (Xs.mk z), e.d]
  | .call f as => .tup [.str "call", .str (Xs.mk f), .tup (Exp.ds as)]
def Exp.ds : List Exp → List D
  | [] => []
  | a :: r => a.d :: Exp.ds r
end
def keyB (s : List Nat) : Bool := decide (1 ≤ s.length) && decide (s.length ≤ 12) && s.all chsB
def txB (s : List Nat) : Bool := decide (s.length ≤ 40) && s.all chsB
def scal : Sg → Option Scl
  | .nm w => if w = w_none then some .non else if w = w_true then some (.bl true) else if w = w_false then some (.bl false) else none
  | .nu n => if n ≤ 999999 then some (.int n) else none
  | .qu s => if txB s = true then some (.tx s) else none
  | .mk _ => none
theorem scal_ok {s : Sg} {x : Scl} (h : scal s = some x) : x.ok := by
  cases s with
  | nm w =>
    simp only [scal] at h
    split at h
    · cases h; trivial
    · split at h
      · cases h; trivial
      · split at h
        · cases h; trivial
        · cases h
  | nu n =>
    simp only [scal] at h
    split at h
    · rename_i q; cases h; exact q
    · cases h
  | qu z =>
    simp only [scal] at h
    split at h
    · rename_i q
      cases h
      simp only [txB, Bool.and_eq_true, decide_eq_true_eq, List.all_eq_true] at q
      exact q
    · cases h
  | mk c => cases h
theorem scal_sg {x : Scl} (ok : x.ok) : scal x.sg = some x := by
  cases x with
  | non => rfl
  | bl b =>
    have z1 : ¬ w_false = w_none := by decide
    have z2 : ¬ w_false = w_true := by decide
    have z3 : ¬ w_true = w_none := by decide
    cases b <;> simp [Scl.sg, scal, z1, z2, z3]
  | int n => exact if_pos ok
  | tx s =>
    have : txB s = true := by simp only [txB, Bool.and_eq_true, decide_eq_true_eq, List.all_eq_true]; exact ok
    exact if_pos this
/-- the value that a sign says, or None -/
def optD : Option Scl → D
  | some x => x.d
  | none => .non
theorem words_lookup (w : List Nat) : (D_WORDS.lookup (Xs.mk w)) = if w = w_none then some (.tup [.str "none"]) else if w = w_true then some (.tup [.str "bool", .bl true]) else if w = w_false then some (.tup [.str "bool", .bl false]) else none := by
  unfold D_WORDS
  rw [q_none, q_true, q_false]
  simp only [List.lookup]
  have b : ∀ u : List Nat, (Xs.mk w == Xs.mk u) = decide (w = u) := fun u => by
    by_cases h : w = u
    · simp [h]
    · have : ¬ Xs.mk w = Xs.mk u := fun e => h (by have := congrArg Tx e; simpa using this)
      simp [h, this]
  rw [b, b, b]
  by_cases h1 : w = w_none
  · simp [h1]
  · by_cases h2 : w = w_true
    · simp [h1, h2]
      have : ¬ w_true = w_none := by decide
      simp [this]
    · by_cases h3 : w = w_false
      · simp [h1, h2, h3]
        have z1 : ¬ w_false = w_none := by decide
        have z2 : ¬ w_false = w_true := by decide
        simp [z1, z2]
      · simp [h1, h2, h3]
theorem number_gen {n : Nat} {h : Sto} : F_is_number [.d (.int n), .d (.int 999999)] h = .ok (.d (.bl (decide (n ≤ 999999)))) h := by
  refine fnI_go rfl rfl ?_
  show closeI h (b_is_number [some (.d (.int n)), some (.d (.int 999999))] ⟨[], true⟩) = _
  have h0 : (0 : Int) ≤ n := by omega
  by_cases h1 : n ≤ 999999
  · have h1' : (n : Int) ≤ 999999 := by omega
    simp [b_is_number, tyName, tns, isA, h0, h1, h1']
  · have h1' : ¬ (n : Int) ≤ 999999 := by omega
    simp [b_is_number, tyName, tns, isA, h0, h1, h1']
theorem sc_num {n : Nat} {h : Sto} : F_is_scalar [.d (.tup [.str "int", .int n])] h = .ok (.d (.bl (decide (n ≤ 999999)))) h := by
  refine fnI_go rfl rfl ?_
  have z2 : (Str.ofString "int" == Str.ofString "none") = false := by decide +kernel
  have z3 : (Str.ofString "int" == Str.ofString "bool") = false := by decide +kernel
  have e := number_gen (n := n) (h := ⟨[], true⟩)
  simp [b_is_scalar, D_NONE, D.eq, z2, z3, tyName, tns, isA]
  exact e ▸ rfl
theorem sc_txt {s : List Nat} {h : Sto} (hl : s.length ≤ lim) : F_is_scalar [.d (.tup [.str "text", .str (Xs.mk s)])] h = .ok (.d (.bl (txB s))) h := by
  refine fnI_go rfl rfl ?_
  have z4 : (Str.ofString "text" == Str.ofString "none") = false := by decide +kernel
  have z5 : (Str.ofString "text" == Str.ofString "bool") = false := by decide +kernel
  have z6 : (Str.ofString "text" == Str.ofString "int") = false := by decide +kernel
  have e := is_text_eq (s := s) (a := 0) (b := 40) (h := ⟨[], true⟩) hl
  rw [decide_eq_true (Nat.zero_le _), Bool.true_and] at e
  simp [b_is_scalar, D_NONE, D.eq, z4, z5, z6, tyName, tns, isA]
  exact e ▸ rfl
theorem scalar_of_gen {s : Sg} {h : Sto} (sh : shortS s) : F_scalar_of [.d s.d] h = .ok (.d (optD (scal s))) h := by
  refine fnI_go rfl rfl ?_
  show closeI h (b_scalar_of [some (.d s.d), none, none, none] ⟨[], true⟩) = _
  have z1 : ¬ (Str.ofString "number" = Str.ofString "name") := by decide +kernel
  have z2 : ¬ (Str.ofString "quoted" = Str.ofString "name") := by decide +kernel
  have z3 : ¬ (Str.ofString "quoted" = Str.ofString "number") := by decide +kernel
  have z4 : ¬ (Str.ofString "mark" = Str.ofString "name") := by decide +kernel
  have z5 : ¬ (Str.ofString "mark" = Str.ofString "number") := by decide +kernel
  have z6 : ¬ (Str.ofString "mark" = Str.ofString "quoted") := by decide +kernel
  cases s with
  | nm w =>
    have l := words_lookup w
    have e1 := is_scalar_eq (x := .non) (h := ⟨[], true⟩) trivial
    have e2 := is_scalar_eq (x := .bl true) (h := ⟨[], true⟩) trivial
    have e3 := is_scalar_eq (x := .bl false) (h := ⟨[], true⟩) trivial
    simp only [Scl.d] at e1 e2 e3
    by_cases h1 : w = w_none
    · subst h1
      rw [if_pos rfl] at l
      simp [b_scalar_of, Sg.d, D.eq, l, Xs.isNon, e1, scal, optD, Scl.d]
    · rw [if_neg h1] at l
      by_cases h2 : w = w_true
      · subst h2
        rw [if_pos rfl] at l
        simp [b_scalar_of, Sg.d, D.eq, l, Xs.isNon, e2, scal, h1, optD, Scl.d]
      · rw [if_neg h2] at l
        by_cases h3 : w = w_false
        · subst h3
          rw [if_pos rfl] at l
          simp [b_scalar_of, Sg.d, D.eq, l, Xs.isNon, e3, scal, h1, optD, Scl.d, h2]
        · rw [if_neg h3] at l
          simp [b_scalar_of, Sg.d, D.eq, l, Xs.isNon, scal, h1, optD, h2, h3]
  | nu n =>
    have e := sc_num (n := n) (h := ⟨[], true⟩)
    by_cases hn : n ≤ 999999
    · simp [b_scalar_of, Sg.d, D.eq, z1, Xs.isNon, e, scal, hn, optD, Scl.d]
    · simp [b_scalar_of, Sg.d, D.eq, z1, Xs.isNon, e, scal, hn, optD]
  | qu z =>
    have e := sc_txt (s := z) (h := ⟨[], true⟩) (lim_of (Nat.le_trans sh (by decide)))
    cases hz : txB z with
    | true => rw [hz] at e; simp [b_scalar_of, Sg.d, D.eq, z2, z3, Xs.isNon, e, scal, hz, optD, Scl.d]
    | false => rw [hz] at e; simp [b_scalar_of, Sg.d, D.eq, z2, z3, Xs.isNon, e, scal, hz, optD]
  | mk c => simp [b_scalar_of, Sg.d, D.eq, z4, z5, z6, Xs.isNon, scal, optD]
theorem scalar_of_end {h : Sto} : F_scalar_of [.d (.tup [.str "end", .str ""])] h = .ok (.d .non) h := by
  refine fnI_go rfl rfl ?_
  have z1 : (Str.ofString "end" == Str.ofString "name") = false := by decide +kernel
  have z2 : (Str.ofString "end" == Str.ofString "number") = false := by decide +kernel
  have z3 : (Str.ofString "end" == Str.ofString "quoted") = false := by decide +kernel
  simp [b_scalar_of, D.eq, z1, z2, z3, Xs.isNon]

/-! ### maps told -/
theorem iskey_eq {s : List Nat} {h : Sto} (hl : s.length ≤ lim) : F_is_key [wT s] h = .ok (.d (.bl (keyB s))) h := by
  refine fnI_go rfl rfl ?_
  show closeI h (b_is_key [some (wT s)] ⟨[], true⟩) = _
  have e := is_text_eq (s := s) (a := 1) (b := 12) (h := ⟨[], true⟩) hl
  have e' : F_is_text [.d (.str (Xs.mk s)), .d (.int 1), .d (.int 12)] ⟨[], true⟩ = .ok (.d (.bl (keyB s))) ⟨[], true⟩ := e
  simp [b_is_key, e']
def entB (p : List Nat × Scl) : Prop := keyB p.1 = true ∧ p.2.ok
theorem keyB_len {s : List Nat} (h : keyB s = true) : 1 ≤ s.length ∧ s.length ≤ 12 ∧ ∀ c ∈ s, chsB c = true := by
  simp only [keyB, Bool.and_eq_true, decide_eq_true_eq, List.all_eq_true] at h
  exact ⟨h.1.1, h.1.2, h.2⟩
theorem entry_told {p : List Nat × Scl} {h : Sto} (hp : entB p) : F_is_entry [.d (enD p)] h = .ok (.d (.bl true)) h := by
  refine fnI_go rfl rfl ?_
  have e1 := iskey_eq (s := p.1) (h := ⟨[], true⟩) (lim_of (by have := keyB_len hp.1; omega))
  rw [hp.1] at e1
  have e3 := is_scalar_eq (h := ⟨[], true⟩) hp.2
  simp [b_is_entry, enD, tns, isA, e1, e3]
def mapB (es : List (List Nat × Scl)) : Bool := decide (es.length ≤ 8) && decide ((es.map (·.1)).Nodup)
theorem nodup_all {l : List Str} : (l.all fun k => (l.countP (· == k) : Nat) == 1) = decide l.Nodup := by
  by_cases h : l.Nodup
  · rw [decide_eq_true h, List.all_eq_true]
    intro k hk
    have h1 := List.nodup_iff_count.mp h k
    have h2 : 0 < l.count k := List.count_pos_iff.mpr hk
    have : l.count k = 1 := by omega
    simpa [List.count] using this
  · rw [decide_eq_false h, List.all_eq_false]
    have : ¬ ∀ k ∈ l, l.count k = 1 := fun z => h (List.nodup_iff_count.mpr fun a => by
      by_cases ha : a ∈ l
      · exact Nat.le_of_eq (z a ha)
      · rw [List.count_eq_zero_of_not_mem ha]; exact Nat.zero_le _)
    obtain ⟨k, hk⟩ := Classical.not_forall.mp this
    obtain ⟨hk, hc⟩ := Classical.not_imp.mp hk
    refine ⟨k, hk, ?_⟩
    simpa [List.count] using hc
theorem nodup_mk {es : List (List Nat × Scl)} : (es.map fun p => Xs.mk p.1).Nodup ↔ (es.map (·.1)).Nodup := by
  rw [show (es.map fun p => Xs.mk p.1) = (es.map (·.1)).map Xs.mk by simp [Function.comp_def]]
  refine ⟨fun h => List.Pairwise.of_map Xs.mk (fun a b hab z => hab (by rw [z])) h, fun h => ?_⟩
  refine List.Pairwise.map _ (fun a b hab z => hab ?_) h
  have := congrArg Tx z
  simpa using this
abbrev ivR (es : List (List Nat × Scl)) (a b c : Option W) : Xs.Env := [some (.d (Vl.mp es).d), some (.d (.tup (es.map enD))), a, b, c]
theorem map_told {es : List (List Nat × Scl)} {h : Sto} (hm : ∀ p ∈ es, entB p) (hl : es.length ≤ 1000) : F_is_value [.d (Vl.mp es).d] h = .ok (.d (.bl (mapB es))) h := by
  refine fnI_go rfl rfl ?_
  show closeI h (b_is_value [some (.d (Vl.mp es).d), none, none, none, none] ⟨[], true⟩) = _
  have ll : es.length ≤ lim := lim_of (by omega)
  have s1 : (sIf (xOr (xNot (xTest (xApp (f2 fIsi) (xCons (xVar 0) (xCons (xTy "tuple") xNil))))) (xOr (xTest (xBin fNe (xApp (f1 fLen) (xCons (xVar 0) xNil)) (xC (.int 2)))) (xTest (xBin fNe (xBin fIx (xVar 0) (xC (.int 0))) (xC (.str "map")))))) (sRet (xApp F_is_scalar (xCons (xVar 0) xNil))) sSkip) [some (.d (Vl.mp es).d), none, none, none, none] ⟨[], true⟩ = .nx [some (.d (Vl.mp es).d), none, none, none, none] ⟨[], true⟩ := by
    simp [tns, isA, Vl.d]
  have s2 : sSet 1 (xBin fIx (xVar 0) (xC (.int 1))) [some (.d (Vl.mp es).d), none, none, none, none] ⟨[], true⟩ = .nx (ivR es none none none) ⟨[], true⟩ := by simp [Vl.d]
  have g1 : xGen true (iSeq (xVar 1)) (gN 3) (xApp F_is_entry (xCons (xVar 3) xNil)) [3] (ivR es none none none) ⟨[], true⟩ = .ok (.d (.bl true)) ⟨[], true⟩ := by
    have e := gen_allL (tg := gN 3) (e := xApp F_is_entry (xCons (xVar 3) xNil)) (xs := es) (inj := fun p => W.d (enD p)) (p := fun _ => true) (r := ivR es none none none) (h := ⟨[], true⟩) (by
      intro p hp
      refine ⟨_, rfl, ?_⟩
      simp [entry_told (hm p hp)])
    have e3 : (iSeq (xVar 1)) (ivR es none none none) ⟨[], true⟩ = .ok (es.length + 1, nL (es.map fun p => W.d (enD p))) ⟨[], true⟩ := by
      simp
      rfl
    unfold xGen
    rw [e3]
    simp only [Re.bind]
    rw [show wipeR (ivR es none none none) [3] = ivR es none none none from rfl, e]
    simp
  have s3 : ∀ (b8 : Bool), b8 = decide (es.length ≤ 8) → (sIf (xOr (xNot (xTest (xApp (f2 fIsi) (xCons (xVar 1) (xCons (xTy "tuple") xNil))))) (xOr (xTest (xBin fGt (xApp (f1 fLen) (xCons (xVar 1) xNil)) (xC (.int 8)))) (xNot (xTest (xGen true (iSeq (xVar 1)) (gN 3) (xApp F_is_entry (xCons (xVar 3) xNil)) [3]))))) (sRet (xC (.bl false))) sSkip) (ivR es none none none) ⟨[], true⟩ = if b8 = true then .nx (ivR es none none none) ⟨[], true⟩ else .rt (.d (.bl false)) ⟨[], true⟩ := by
    intro b8 h8
    generalize hG : xGen true (iSeq (xVar 1)) (gN 3) (xApp F_is_entry (xCons (xVar 3) xNil)) [3] = G at g1
    by_cases z : es.length ≤ 8
    · have l8 : ¬ (8 : Int) < es.length := by omega
      rw [h8, decide_eq_true z]
      simp [tns, isA, g1, l8, ll]
    · have l8 : (8 : Int) < es.length := by omega
      rw [h8, decide_eq_false z]
      simp [tns, isA, l8, ll]
  unfold b_is_value
  rw [seq_nx s1, seq_nx s2]
  by_cases z : es.length ≤ 8
  · have c1 : sSet 2 (xLc (iSeq (xVar 1)) (gN 3) xYes (xBin fIx (xVar 3) (xC (.int 0))) [3]) (ivR es none none none) ⟨[], true⟩ = .nx (ivR es (some (.d (.lst (es.map fun p => D.str (Xs.mk p.1))))) none none) ⟨[], true⟩ := by
      have e := lc_exact (tg := gN 3) (c := xYes) (e := xBin fIx (xVar 3) (xC (.int 0))) (xs := es) (inj := fun p => W.d (enD p)) (p := fun _ => true) (f := fun p => W.d (.str (Xs.mk p.1))) (r := ivR es none none none) (h := ⟨[], true⟩) (by omega) (by
        intro p hp
        refine ⟨_, rfl, rfl, fun _ => ?_⟩
        simp [enD])
      have e3 : (iSeq (xVar 1)) (ivR es none none none) ⟨[], true⟩ = .ok (es.length + 1, nL (es.map fun p => W.d (enD p))) ⟨[], true⟩ := by
        simp
        rfl
      unfold sSet xLc xLcs
      rw [e3]
      simp only [Re.bind]
      rw [show wipeR (ivR es none none none) [3] = ivR es none none none from rfl, e]
      have : pureL ((es.filter fun _ => true).map fun p => W.d (.str (Xs.mk p.1))) = some (es.map fun p => D.str (Xs.mk p.1)) := by
        rw [List.filter_eq_self.mpr (by simp), show (es.map fun p => W.d (.str (Xs.mk p.1))) = (es.map fun p => D.str (Xs.mk p.1)).map .d by simp [Function.comp_def], pureL_map]
      simp only [this]
      rfl
    have g2 : xGen true (iSeq (xVar 2)) (gN 4) (xBin fEq (xBm "list" fCountS (xVar 2) (xCons (xVar 4) xNil)) (xC (.int 1))) [4] (ivR es (some (.d (.lst (es.map fun p => D.str (Xs.mk p.1))))) none none) ⟨[], true⟩ = .ok (.d (.bl (decide ((es.map (·.1)).Nodup)))) ⟨[], true⟩ := by
      have sD : strsD (es.map fun p => D.str (Xs.mk p.1)) = some (es.map fun p => Xs.mk p.1) := by
        rw [show (es.map fun p => D.str (Xs.mk p.1)) = (es.map fun p => Xs.mk p.1).map .str by simp [Function.comp_def], strsD_map]
      generalize hK : (es.map fun p => Xs.mk p.1) = K at sD
      have hKD : (es.map fun p => D.str (Xs.mk p.1)) = K.map .str := by rw [← hK]; simp [Function.comp_def]
      have e := gen_allL (tg := gN 4) (e := xBin fEq (xBm "list" fCountS (xVar 2) (xCons (xVar 4) xNil)) (xC (.int 1))) (xs := K) (inj := fun z => W.d (.str z)) (p := fun z => (K.countP (· == z) : Nat) == 1) (r := ivR es (some (.d (.lst (es.map fun p => D.str (Xs.mk p.1))))) none none) (h := ⟨[], true⟩) (by
        intro z hz
        refine ⟨_, rfl, ?_⟩
        have dd : (((K.countP (· == z) : Nat) : Int) == 1) = ((K.countP (· == z) : Nat) == 1) := by
          by_cases q : K.countP (· == z) = 1
          · simp [q]
          · have : ¬ ((K.countP (· == z) : Nat) : Int) = 1 := by omega
            rw [beq_eq_false_iff_ne.mpr this, beq_eq_false_iff_ne.mpr q]
        simp [sD, D.eq, dd])
      have e3 : (iSeq (xVar 2)) (ivR es (some (.d (.lst (es.map fun p => D.str (Xs.mk p.1))))) none none) ⟨[], true⟩ = .ok (K.length + 1, nL (K.map fun z => W.d (.str z))) ⟨[], true⟩ := by
        rw [hKD]
        simp [Function.comp_def]
      unfold xGen
      rw [e3]
      simp only [Re.bind]
      rw [show wipeR (ivR es (some (.d (.lst (es.map fun p => D.str (Xs.mk p.1))))) none none) [4] = ivR es (some (.d (.lst (es.map fun p => D.str (Xs.mk p.1))))) none none from rfl, e, nodup_all, ← hK]
      congr 3
      exact decide_eq_decide.mpr nodup_mk
    have s3' := s3 true (decide_eq_true z).symm
    rw [if_pos rfl] at s3'
    rw [seq_nx s3', seq_nx c1]
    simp only [sRet, g2, Re.then]
    simp [mapB, z]
  · have s3' := s3 false (decide_eq_false z).symm
    rw [if_neg Bool.false_ne_true] at s3'
    rw [seq_rt s3']
    simp [mapB, z]

/-! ### scalars, maps read -/
def rdEnts : Nat → List Sg → Option (List (List Nat × Scl) × List Sg)
  | 0, _ => none
  | n + 1, .qu key :: m1 :: s :: R => if keyB key = true ∧ m1 = .mk 44 then (match scal s with
      | none => none
      | some x => (match R with
        | [] => some ([(key, x)], [])
        | m2 :: R2 => if m2 = .mk 44 then (rdEnts n R2).map fun p => ((key, x) :: p.1, p.2) else some ([(key, x)], m2 :: R2))) else none
  | _, _ => none
def mapEnd (es : List (List Nat × Scl)) : List Sg → Option (List (List Nat × Scl) × List Sg)
  | [] => none
  | m3 :: R4 => if m3 = .mk 41 ∧ mapB es = true then some (es, R4) else none
def rdMap : List Sg → Option (List (List Nat × Scl) × List Sg)
  | [] => none
  | m :: R1 => if m = .mk 40 then (match R1 with
      | [] => none
      | m2 :: R2 => if m2 = .mk 41 then some ([], R2) else (match rdEnts (m2 :: R2).length (m2 :: R2) with
        | none => none
        | some (es, R3) => mapEnd es R3)) else none
section
variable {S : List Sg} {k c : Nat} {rest : List O}
theorem at_drop {s : Sg} {r : List Sg} (h : S.drop k = s :: r) : S[k]? = some s ∧ S.drop (k + 1) = r ∧ k < S.length := by
  have hk : k < S.length := by
    rcases Nat.lt_or_ge k S.length with z | z
    · exact z
    · rw [List.drop_eq_nil_of_le z] at h; cases h
  rw [List.drop_eq_getElem_cons hk] at h
  cases h
  exact ⟨List.getElem?_eq_getElem hk, rfl, hk⟩
theorem at_nil (h : S.drop k = []) : S[k]? = none := by
  have := congrArg List.length h
  simp at this
  simp; omega
theorem rscalar_eq (hl : S.length ≤ lim) (sh : ∀ s ∈ S, shortS s) : F_read_scalar [.l 0] (rst S k c rest) = match S[k]?.bind scal with
    | some x => .ok (.d x.d) (rst S (k + 1) c rest)
    | none => .exc badX (rst S (k + 1) c rest) := by
  have e := rtake_eq (k := k) (c := c) (rest := rest) hl
  have n1 : (Str.ofString "take" == Str.ofString "signs") = false := by decide +kernel
  have n2 : (Str.ofString "take" == Str.ofString "at") = false := by decide +kernel
  have n3 : (Str.ofString "take" == Str.ofString "calls") = false := by decide +kernel
  have so : F_scalar_of [.d (sgAt S k)] (rst S (k + 1) c rest) = .ok (.d (optD (S[k]?.bind scal))) (rst S (k + 1) c rest) := by
    cases hs : S[k]? with
    | none => rw [sgAt_none hs]; exact scalar_of_end
    | some s => rw [sgAt_some hs]; exact scalar_of_gen (sh s (List.mem_of_getElem? hs))
  have s1 : sSet 1 (xApp F_scalar_of (xCons (xMeth "Reading" "take" F_Reading_take (xVar 0) xNil) xNil)) [some (.l 0), none] (rst S k c rest) = .nx [some (.l 0), some (.d (optD (S[k]?.bind scal)))] (rst S (k + 1) c rest) := by
    generalize sgAt S k = X at e so
    generalize optD (S[k]?.bind scal) = Y at so
    simp [xMeth, insOf, List.lookup, n1, n2, n3, e, so]
  show closeT true (rest.length + 1) true (b_read_scalar [some (.l 0), none] (rst S k c rest)) = _
  unfold b_read_scalar
  rw [seq_nx s1]
  cases S[k]?.bind scal with
  | none => simp [optD, Xs.isNon, sRaise0]
  | some x =>
    cases x <;> simp [optD, Scl.d, Xs.isNon]
abbrev mpS (es : List (List Nat × Scl)) : O := .lst (es.map fun p => W.d (enD p))
abbrev mpR (rest : List O) (a b v : Option W) : Xs.Env := [some (.l 0), some (.l (rest.length + 1)), a, b, v]
abbrev rm1 : XS := (sAsg (gT 2 (gsCons (gN 2) (gsCons (gN 3) gsNil))) (xMeth "Reading" "take" F_Reading_take (xVar 0) xNil))
abbrev rm2 : XS := (sIf (xOr (xTest (xBin fNe (xVar 2) (xC (.str "quoted")))) (xNot (xTest (xApp F_is_key (xCons (xVar 3) xNil))))) (sRaise0 "BadExpression") sSkip)
abbrev rm3 : XS := (sDrop (xMeth "Reading" "expect" F_Reading_expect (xVar 0) (xCons (xC (.str ",")) xNil)))
abbrev rm4 : XS := (sDrop (xBm "list" fAppend (xVar 1) (xCons (xApp mkTup (xCons (xVar 3) (xCons (xApp F_read_scalar (xCons (xVar 0) xNil)) xNil))) xNil)))
abbrev rm5 : XS := (sIf (xNot (xTest (xMeth "Reading" "passed" F_Reading_passed (xVar 0) (xCons (xC (.str ",")) xNil)))) sBrk sSkip)
theorem rm_def : l1_read_map = sSeq rm1 (sSeq rm2 (sSeq rm3 (sSeq rm4 rm5))) := rfl
def kvOf : Option Sg → D × D
  | some s => (wkD s, wvD s)
  | none => (.str "end", .str "")
theorem sgAt_pair : sgAt S k = .tup [(kvOf S[k]?).1, (kvOf S[k]?).2] := by
  cases e : S[k]? with
  | none => rw [sgAt_none e]; rfl
  | some s => rw [sgAt_some e, Sg.d_pair]; rfl
theorem rm1_eq {ex : List O} {a b v : Option W} (hl : S.length ≤ lim) : rm1 (mpR rest a b v) (rst S k c ex) = .nx (mpR rest (some (.d (kvOf S[k]?).1)) (some (.d (kvOf S[k]?).2)) v) (rst S (k + 1) c ex) := by
  have e := rtake_eq (k := k) (c := c) (rest := ex) hl
  have n1 : (Str.ofString "take" == Str.ofString "signs") = false := by decide +kernel
  have n2 : (Str.ofString "take" == Str.ofString "at") = false := by decide +kernel
  have n3 : (Str.ofString "take" == Str.ofString "calls") = false := by decide +kernel
  rw [sgAt_pair] at e
  generalize kvOf S[k]? = P at e
  simp [xMeth, insOf, List.lookup, n1, n2, n3, e, sAsg]
theorem kd_ne : (Str.ofString "end" == Str.ofString "quoted") = false ∧ (Str.ofString "name" == Str.ofString "quoted") = false ∧ (Str.ofString "number" == Str.ofString "quoted") = false ∧ (Str.ofString "mark" == Str.ofString "quoted") = false := by decide +kernel
/-- the key that is next -/
def keyAt : Option Sg → Option (List Nat)
  | some (.qu z) => if keyB z = true then some z else none
  | _ => none
theorem rm2_eq {ex : List O} {v : Option W} {o : Option Sg} (sh : ∀ s, o = some s → shortS s) : rm2 (mpR rest (some (.d (kvOf o).1)) (some (.d (kvOf o).2)) v) (rst S k c ex) = match keyAt o with
    | some _ => .nx (mpR rest (some (.d (kvOf o).1)) (some (.d (kvOf o).2)) v) (rst S k c ex)
    | none => .exc badX (mpR rest (some (.d (kvOf o).1)) (some (.d (kvOf o).2)) v) (rst S k c ex) := by
  obtain ⟨z1, z2, z3, z4⟩ := kd_ne
  cases o with
  | none => simp [kvOf, keyAt, D.eq, z1, sRaise0]
  | some s =>
    cases s with
    | nm w => simp [kvOf, keyAt, D.eq, z2, sRaise0]
    | nu w => simp [kvOf, keyAt, D.eq, z3, sRaise0]
    | mk w => simp [kvOf, keyAt, D.eq, z4, sRaise0]
    | qu z =>
      have hz : z.length ≤ 1000 := sh _ rfl
      have e := iskey_eq (s := z) (h := rst S k c ex) (lim_of (by omega))
      cases hk : keyB z with
      | true => rw [hk] at e; simp [kvOf, keyAt, D.eq, e, hk]
      | false => rw [hk] at e; simp [kvOf, keyAt, D.eq, e, hk, sRaise0]
theorem q44 : (("," : Str) : Str) = Xs.mk [44] := by decide +kernel
theorem q40 : (("(" : Str) : Str) = Xs.mk [40] := by decide +kernel
theorem q41 : ((")" : Str) : Str) = Xs.mk [41] := by decide +kernel
theorem n_exp : (Str.ofString "expect" == Str.ofString "signs") = false ∧ (Str.ofString "expect" == Str.ofString "at") = false ∧ (Str.ofString "expect" == Str.ofString "calls") = false := by decide +kernel
theorem n_pas : (Str.ofString "passed" == Str.ofString "signs") = false ∧ (Str.ofString "passed" == Str.ofString "at") = false ∧ (Str.ofString "passed" == Str.ofString "calls") = false := by decide +kernel
/-- reading.expect(m) as a statement -/
theorem exp_st {ex : List O} {r : Xs.Env} {m : Nat} {z : Str} (hz : z = Xs.mk [m]) (h0 : r[0]? = some (some (.l 0))) (hl : S.length ≤ lim) : sDrop (xMeth "Reading" "expect" F_Reading_expect (xVar 0) (xCons (xC (.str z)) xNil)) r (rst S k c ex) = if S[k]? = some (.mk m) then .nx r (rst S (k + 1) c ex) else .exc badX r (rst S (k + 1) c ex) := by
  subst hz
  have e := rexpect_eq (k := k) (c := c) (rest := ex) (m := m) hl
  obtain ⟨n1, n2, n3⟩ := n_exp
  by_cases h : S[k]? = some (.mk m)
  · rw [if_pos h] at e ⊢
    simp [xMeth, insOf, List.lookup, n1, n2, n3, e, h0]
  · rw [if_neg h] at e ⊢
    simp [xMeth, insOf, List.lookup, n1, n2, n3, e, h0]
/-- reading.passed(m) as a test -/
theorem pas_te {ex : List O} {r : Xs.Env} {m : Nat} {z : Str} (hz : z = Xs.mk [m]) (h0 : r[0]? = some (some (.l 0))) (hl : S.length ≤ lim) : xTest (xMeth "Reading" "passed" F_Reading_passed (xVar 0) (xCons (xC (.str z)) xNil)) r (rst S k c ex) = .ok (decide (S[k]? = some (.mk m))) (rst S (if S[k]? = some (.mk m) then k + 1 else k) c ex) := by
  subst hz
  have e := rpassed_eq (k := k) (c := c) (rest := ex) (m := m) hl
  obtain ⟨n1, n2, n3⟩ := n_pas
  by_cases h : S[k]? = some (.mk m)
  · rw [if_pos h] at e ⊢
    simp [xMeth, insOf, List.lookup, n1, n2, n3, e, h0]
  · rw [if_neg h] at e ⊢
    simp [xMeth, insOf, List.lookup, n1, n2, n3, e, h0]
theorem rm4_eq {es : List (List Nat × Scl)} {key : List Nat} {a v : Option W} (hl : S.length ≤ lim) (sh : ∀ s ∈ S, shortS s) (he : es.length < lim) : rm4 (mpR rest a (some (wT key)) v) (rst S k c (rest ++ [mpS es])) = match S[k]?.bind scal with
    | some x => .nx (mpR rest a (some (wT key)) v) (rst S (k + 1) c (rest ++ [mpS (es ++ [(key, x)])]))
    | none => .exc badX (mpR rest a (some (wT key)) v) (rst S (k + 1) c (rest ++ [mpS es])) := by
  have e := rscalar_eq (k := k) (c := c) (rest := rest ++ [mpS es]) hl sh
  cases hs : S[k]?.bind scal with
  | none => rw [hs] at e; simp only at e; simp [e]
  | some x =>
    rw [hs] at e
    simp only at e
    simp only [enD] at e ⊢
    generalize hX : x.d = X at e ⊢
    simp [e, he, hX]
    rw [← hX]
    rfl
theorem keyAt_some {o : Option Sg} {z : List Nat} (h : keyAt o = some z) : o = some (.qu z) ∧ keyB z = true := by
  cases o with
  | none => cases h
  | some s =>
    cases s with
    | qu w =>
      simp only [keyAt] at h
      split at h
      · rename_i q; cases h; exact ⟨rfl, q⟩
      · cases h
    | _ => cases h
/-- the loop of entries -/
theorem ents_go (hl : S.length ≤ lim) (sh : ∀ s ∈ S, shortS s) : ∀ (m n : Nat) (es : List (List Nat × Scl)) (k : Nat) (a b : Option W), m < n → es.length + m ≤ 1000000 → (S.drop k).length ≤ m → match rdEnts m (S.drop k) with
    | some (es', R') => ∃ k' a' b', S.drop k' = R' ∧ k' ≤ S.length ∧ whileLoop (xTest (xC (.bl true))) l1_read_map n (mpR rest a b none) (rst S k c (rest ++ [mpS es])) = .nx (mpR rest a' b' none) (rst S k' c (rest ++ [mpS (es ++ es')]))
    | none => ∃ k' r' ex, whileLoop (xTest (xC (.bl true))) l1_read_map n (mpR rest a b none) (rst S k c (rest ++ [mpS es])) = .exc badX r' (rst S k' c (rest ++ ex)) := by
  intro m
  induction m with
  | zero =>
    intro n es k a b hn he hR
    obtain ⟨n, rfl⟩ : ∃ n', n = n' + 1 := ⟨n - 1, by omega⟩
    have hk : S[k]? = none := by simp at hR; simp; omega
    refine ⟨k + 1, mpR rest (some (.d (kvOf S[k]?).1)) (some (.d (kvOf S[k]?).2)) none, [mpS es], ?_⟩
    have t1 := rm1_eq (k := k) (c := c) (rest := rest) (ex := rest ++ [mpS es]) (a := a) (b := b) (v := none) hl
    have t2 := rm2_eq (S := S) (k := k + 1) (c := c) (rest := rest) (ex := rest ++ [mpS es]) (v := none) (o := S[k]?) (fun s e => sh s (List.mem_of_getElem? e))
    rw [hk] at t1 t2
    rw [whileLoop]
    rw [rm_def, hk]
    simp only [xTest, xC, Re.bind, Re.then, if_true, sSeq, t1, Fl.seq, t2, keyAt]
  | succ m ih =>
    intro n es k a b hn he hR
    obtain ⟨n, rfl⟩ : ∃ n', n = n' + 1 := ⟨n - 1, by omega⟩
    have t1 := rm1_eq (k := k) (c := c) (rest := rest) (ex := rest ++ [mpS es]) (a := a) (b := b) (v := none) hl
    have t2 := rm2_eq (S := S) (k := k + 1) (c := c) (rest := rest) (ex := rest ++ [mpS es]) (v := none) (o := S[k]?) (fun s e => sh s (List.mem_of_getElem? e))
    have t3 := exp_st (S := S) (k := k + 1) (c := c) (ex := rest ++ [mpS es]) (r := mpR rest (some (.d (kvOf S[k]?).1)) (some (.d (kvOf S[k]?).2)) none) q44 rfl hl
    have bad : ∀ {f : Fl} {k' r' ex}, l1_read_map (mpR rest a b none) (rst S k c (rest ++ [mpS es])) = .exc badX r' (rst S k' c (rest ++ ex)) → whileLoop (xTest (xC (.bl true))) l1_read_map (n + 1) (mpR rest a b none) (rst S k c (rest ++ [mpS es])) = .exc badX r' (rst S k' c (rest ++ ex)) := fun {f k' r' ex} e => by
      rw [whileLoop]
      simp only [xTest, xC, Re.bind, Re.then, if_true, e]
    cases hk : keyAt S[k]? with
    | none =>
      have hm : rdEnts (m + 1) (S.drop k) = none := by
        cases hd : S.drop k with
        | nil => rfl
        | cons s r =>
          obtain ⟨h1, _, _⟩ := at_drop hd
          rw [h1] at hk
          cases s with
          | qu z =>
            cases hz : keyB z with
            | true => simp [keyAt, hz] at hk
            | false =>
              match r with
              | [] => rfl
              | [_] => rfl
              | _ :: _ :: _ => simp [rdEnts, hz]
          | _ => rfl
      rw [hm]
      rw [hk] at t2
      refine ⟨k + 1, mpR rest (some (.d (kvOf S[k]?).1)) (some (.d (kvOf S[k]?).2)) none, [mpS es], bad (f := .stuck) ?_⟩
      rw [rm_def]
      simp only [sSeq, t1, Fl.seq, t2]
    | some key =>
      obtain ⟨ok, hkey⟩ := keyAt_some hk
      rw [hk] at t2
      simp only at t2
      rw [ok] at t1 t2 t3
      obtain ⟨hkl, hd0⟩ : k < S.length ∧ S.drop k = .qu key :: S.drop (k + 1) := by
        obtain ⟨hlt, hx⟩ := List.getElem?_eq_some_iff.mp ok
        exact ⟨hlt, by rw [List.drop_eq_getElem_cons hlt, hx]⟩
      by_cases h3 : S[k + 1]? = some (.mk 44)
      · rw [if_pos h3] at t3
        obtain ⟨hkl1, hd1⟩ : k + 1 < S.length ∧ S.drop (k + 1) = .mk 44 :: S.drop (k + 2) := by
          obtain ⟨hlt, hx⟩ := List.getElem?_eq_some_iff.mp h3
          exact ⟨hlt, by rw [List.drop_eq_getElem_cons hlt, hx]⟩
        have t4 := rm4_eq (S := S) (k := k + 2) (c := c) (rest := rest) (es := es) (key := key) (a := some (.d (.str "quoted"))) (v := none) hl sh (lt_lim (by omega))
        cases hx : S[k + 2]?.bind scal with
        | none =>
          have hm : rdEnts (m + 1) (S.drop k) = none := by
            rw [hd0, hd1]
            cases hd2 : S.drop (k + 2) with
            | nil => rfl
            | cons s r =>
              obtain ⟨h1, _, _⟩ := at_drop hd2
              rw [h1] at hx
              simp only [Option.bind_some] at hx
              simp [rdEnts, hkey, hx]
          rw [hm]
          rw [hx] at t4
          refine ⟨k + 2 + 1, mpR rest (some (.d (.str "quoted"))) (some (wT key)) none, [mpS es], bad (f := .stuck) ?_⟩
          rw [rm_def]
          simp only [sSeq, t1, Fl.seq, t2]
          rw [show k + 1 + 1 = k + 2 from rfl] at t3
          simp only [kvOf, wkD, wvD] at t3 ⊢
          simp only [t3, t4]
        | some x =>
          obtain ⟨s2, hs2, hxs⟩ := Option.bind_eq_some_iff.mp hx
          obtain ⟨hkl2, hd2⟩ : k + 2 < S.length ∧ S.drop (k + 2) = s2 :: S.drop (k + 3) := by
            obtain ⟨hlt, hx⟩ := List.getElem?_eq_some_iff.mp hs2
            exact ⟨hlt, by rw [List.drop_eq_getElem_cons hlt, hx]⟩
          rw [hx] at t4
          simp only at t4
          have t5 := pas_te (S := S) (k := k + 3) (c := c) (ex := rest ++ [mpS (es ++ [(key, x)])]) (r := mpR rest (some (.d (.str "quoted"))) (some (wT key)) none) q44 rfl hl
          have run : ∀ f, rm5 (mpR rest (some (.d (.str "quoted"))) (some (wT key)) none) (rst S (k + 3) c (rest ++ [mpS (es ++ [(key, x)])])) = f → l1_read_map (mpR rest a b none) (rst S k c (rest ++ [mpS es])) = f := fun f e => by
            rw [rm_def]
            simp only [sSeq, t1, Fl.seq, t2]
            rw [show k + 1 + 1 = k + 2 from rfl] at t3
            simp only [kvOf, wkD, wvD] at t3 ⊢
            simp only [t3, t4]
            exact e
          by_cases h5 : S[k + 3]? = some (.mk 44)
          · rw [if_pos h5] at t5
            obtain ⟨hkl3, hd3⟩ : k + 3 < S.length ∧ S.drop (k + 3) = .mk 44 :: S.drop (k + 4) := by
              obtain ⟨hlt, hx⟩ := List.getElem?_eq_some_iff.mp h5
              exact ⟨hlt, by rw [List.drop_eq_getElem_cons hlt, hx]⟩
            have e0 := run (.nx (mpR rest (some (.d (.str "quoted"))) (some (wT key)) none) (rst S (k + 4) c (rest ++ [mpS (es ++ [(key, x)])]))) (by
              simp only [rm5, sIf, xNot, t5, h5, decide_true, Re.bind, Bool.not_true, Re.then, Bool.false_eq_true, if_false, sSkip])
            have i := ih n (es ++ [(key, x)]) (k + 4) (some (.d (.str "quoted"))) (some (wT key)) (by omega) (by simp; omega) (by simp at hR ⊢; omega)
            have wl : whileLoop (xTest (xC (.bl true))) l1_read_map (n + 1) (mpR rest a b none) (rst S k c (rest ++ [mpS es])) = whileLoop (xTest (xC (.bl true))) l1_read_map n (mpR rest (some (.d (.str "quoted"))) (some (wT key)) none) (rst S (k + 4) c (rest ++ [mpS (es ++ [(key, x)])])) := by
              rw [whileLoop]
              simp only [xTest, xC, Re.bind, Re.then, if_true, e0]
            have hm : rdEnts (m + 1) (S.drop k) = (rdEnts m (S.drop (k + 4))).map fun p => ((key, x) :: p.1, p.2) := by
              rw [hd0, hd1, hd2, hd3]
              simp [rdEnts, hkey, hxs]
            rw [hm, wl]
            cases hr : rdEnts m (S.drop (k + 4)) with
            | none =>
              rw [hr] at i
              exact i
            | some p =>
              rw [hr] at i
              obtain ⟨es', R'⟩ := p
              obtain ⟨k', a', b', i1, i2, i3⟩ := i
              refine ⟨k', a', b', i1, i2, ?_⟩
              rw [i3]
              simp
          · rw [if_neg h5] at t5
            have e0 := run (.bk (mpR rest (some (.d (.str "quoted"))) (some (wT key)) none) (rst S (k + 3) c (rest ++ [mpS (es ++ [(key, x)])]))) (by
              simp only [rm5, sIf, xNot, t5, h5, decide_false, Re.bind, Bool.not_false, Re.then, if_true, sBrk])
            have wl : whileLoop (xTest (xC (.bl true))) l1_read_map (n + 1) (mpR rest a b none) (rst S k c (rest ++ [mpS es])) = .nx (mpR rest (some (.d (.str "quoted"))) (some (wT key)) none) (rst S (k + 3) c (rest ++ [mpS (es ++ [(key, x)])])) := by
              rw [whileLoop]
              simp only [xTest, xC, Re.bind, Re.then, if_true, e0]
            have hm : rdEnts (m + 1) (S.drop k) = some ([(key, x)], S.drop (k + 3)) := by
              rw [hd0, hd1, hd2]
              cases hd3 : S.drop (k + 3) with
              | nil => simp [rdEnts, hkey, hxs]
              | cons s r =>
                obtain ⟨h1, _, _⟩ := at_drop hd3
                have : ¬ s = .mk 44 := fun z => h5 (by rw [h1, z])
                simp [rdEnts, hkey, hxs, this]
            rw [hm]
            exact ⟨k + 3, _, _, rfl, by omega, wl⟩
      · rw [if_neg h3] at t3
        have hm : rdEnts (m + 1) (S.drop k) = none := by
          rw [hd0]
          cases hd1 : S.drop (k + 1) with
          | nil => rfl
          | cons s r =>
            obtain ⟨h1, _, _⟩ := at_drop hd1
            have : ¬ s = .mk 44 := fun z => h3 (by rw [h1, z])
            cases r with
            | nil => rfl
            | cons _ _ => simp [rdEnts, this]
        rw [hm]
        refine ⟨k + 1 + 1, mpR rest (some (.d (.str "quoted"))) (some (wT key)) none, [mpS es], bad (f := .stuck) ?_⟩
        rw [rm_def]
        simp only [sSeq, t1, Fl.seq, t2, t3]
        rfl
end

theorem ents_ok : ∀ (m : Nat) (R : List Sg) (es : List (List Nat × Scl)) (R' : List Sg), rdEnts m R = some (es, R') → (∀ p ∈ es, entB p) ∧ es.length ≤ R.length
  | 0, _, _, _, h => by cases h
  | n + 1, [], _, _, h => by cases h
  | n + 1, [_], _, _, h => by cases ‹Sg› <;> cases h
  | n + 1, [a, b], _, _, h => by cases a <;> cases h
  | n + 1, a :: m1 :: s :: R, es, R', h => by
    cases a with
    | qu key =>
      simp only [rdEnts] at h
      split at h
      · rename_i q
        cases hx : scal s with
        | none => rw [hx] at h; cases h
        | some x =>
          rw [hx] at h
          have e : entB (key, x) := ⟨q.1, scal_ok hx⟩
          cases R with
          | nil =>
            cases h
            exact ⟨fun p hp => by rw [List.mem_singleton.mp hp]; exact e, by simp⟩
          | cons m2 R2 =>
            simp only at h
            split at h
            · cases hr : rdEnts n R2 with
              | none => rw [hr] at h; cases h
              | some p =>
                rw [hr] at h
                cases h
                obtain ⟨i1, i2⟩ := ents_ok n R2 p.1 p.2 hr
                exact ⟨fun q hq => (List.mem_cons.mp hq).elim (fun z => by rw [z]; exact e) (i1 q), by simp; omega⟩
            · cases h
              exact ⟨fun p hp => by rw [List.mem_singleton.mp hp]; exact e, by simp⟩
      · cases h
    | _ => cases h
section
variable {S : List Sg} {k c : Nat} {rest : List O}
theorem drop_of {s : Sg} (h : S[k]? = some s) : k < S.length ∧ S.drop k = s :: S.drop (k + 1) := by
  obtain ⟨hlt, hx⟩ := List.getElem?_eq_some_iff.mp h
  exact ⟨hlt, by rw [List.drop_eq_getElem_cons hlt, hx]⟩
theorem head_ne {s : Sg} (h : ¬ S[k]? = some s) : S.drop k = [] ∨ ∃ t r, S.drop k = t :: r ∧ t ≠ s := by
  cases hd : S.drop k with
  | nil => exact .inl rfl
  | cons t r => exact .inr ⟨t, r, rfl, fun z => h (by rw [(at_drop hd).1, z])⟩
abbrev mv1 : XS := (sDrop (xMeth "Reading" "expect" F_Reading_expect (xVar 0) (xCons (xC (.str "(")) xNil)))
abbrev mv2 : XS := (sIf (xNot (xTest (xMeth "Reading" "passed" F_Reading_passed (xVar 0) (xCons (xC (.str ")")) xNil)))) (sSeq (sWhile 1000 (xTest (xC (.bl true))) l1_read_map)
    (sDrop (xMeth "Reading" "expect" F_Reading_expect (xVar 0) (xCons (xC (.str ")")) xNil)))) sSkip)
abbrev mv3 : XS := (sSet 4 (xApp mkTup (xCons (xC (.str "map")) (xCons (xApp (f1 fTuple) (xCons (xVar 1) xNil)) xNil))))
abbrev mv4 : XS := (sIf (xNot (xTest (xApp F_is_value (xCons (xVar 4) xNil)))) (sRaise0 "BadExpression") sSkip)
theorem mv_def : b_read_map = sSeq (sSet 1 (xApp mkNew xNil)) (sSeq mv1 (sSeq mv2 (sSeq mv3 (sSeq mv4 (sRet (xVar 4)))))) := rfl
theorem mv3_eq {es : List (List Nat × Scl)} {a b : Option W} : mv3 (mpR rest a b none) (rst S k c (rest ++ [mpS es])) = .nx (mpR rest a b (some (.d (Vl.mp es).d))) (rst S k c (rest ++ [mpS es])) := by
  have p : pureL (es.map fun p => W.d (enD p)) = some (es.map enD) := by rw [show (es.map fun p => W.d (enD p)) = (es.map enD).map .d by simp [Function.comp_def], pureL_map]
  simp [p, Vl.d]
theorem mv4_eq {es : List (List Nat × Scl)} {a b : Option W} (hm : ∀ p ∈ es, entB p) (hl : es.length ≤ 1000) : mv4 (mpR rest a b (some (.d (Vl.mp es).d))) (rst S k c (rest ++ [mpS es])) = if mapB es = true then .nx (mpR rest a b (some (.d (Vl.mp es).d))) (rst S k c (rest ++ [mpS es])) else .exc badX (mpR rest a b (some (.d (Vl.mp es).d))) (rst S k c (rest ++ [mpS es])) := by
  have e := map_told (h := rst S k c (rest ++ [mpS es])) hm hl
  generalize (Vl.mp es).d = X at e
  cases hb : mapB es with
  | true => rw [hb] at e; simp [e]
  | false => rw [hb] at e; simp [e, sRaise0]
/-- what reading a map does: the end of the run -/
theorem rmap_eq (hS : S.length < 1000) (sh : ∀ s ∈ S, shortS s) : match rdMap (S.drop k) with
    | some (es, R') => ∃ k', S.drop k' = R' ∧ k' ≤ S.length ∧ F_read_map [.l 0] (rst S k c rest) = .ok (.d (Vl.mp es).d) (rst S k' c rest)
    | none => ∃ k', F_read_map [.l 0] (rst S k c rest) = .exc badX (rst S k' c rest) := by
  have hl : S.length ≤ lim := lim_of (by omega)
  have goR : ∀ x k' ex, b_read_map [some (.l 0), none, none, none, none] (rst S k c rest) = .rt (.d x) (rst S k' c (rest ++ ex)) → F_read_map [.l 0] (rst S k c rest) = .ok (.d x) (rst S k' c rest) := fun x k' ex e => by
    show closeT true (rest.length + 1) true (b_read_map [some (.l 0), none, none, none, none] (rst S k c rest)) = _
    rw [e]
    simp
  have goX : ∀ r' k' ex, b_read_map [some (.l 0), none, none, none, none] (rst S k c rest) = .exc badX r' (rst S k' c (rest ++ ex)) → F_read_map [.l 0] (rst S k c rest) = .exc badX (rst S k' c rest) := fun r' k' ex e => by
    show closeT true (rest.length + 1) true (b_read_map [some (.l 0), none, none, none, none] (rst S k c rest)) = _
    rw [e]
    simp
  have s1 : sSet 1 (xApp mkNew xNil) [some (.l 0), none, none, none, none] (rst S k c rest) = .nx (mpR rest none none none) (rst S k c (rest ++ [mpS []])) := by simp
  have t1 := exp_st (S := S) (k := k) (c := c) (ex := rest ++ [mpS []]) (r := mpR rest none none none) q40 rfl hl
  have t2 := pas_te (S := S) (k := k + 1) (c := c) (ex := rest ++ [mpS []]) (r := mpR rest none none none) q41 rfl hl
  -- behind the entries
  have tail : ∀ (es : List (List Nat × Scl)) (k1 : Nat) (a b : Option W), (∀ p ∈ es, entB p) → es.length ≤ 1000 → sSeq mv3 (sSeq mv4 (sRet (xVar 4))) (mpR rest a b none) (rst S k1 c (rest ++ [mpS es])) = if mapB es = true then .rt (.d (Vl.mp es).d) (rst S k1 c (rest ++ [mpS es])) else .exc badX (mpR rest a b (some (.d (Vl.mp es).d))) (rst S k1 c (rest ++ [mpS es])) := by
    intro es k1 a b hm hes
    have e4 := mv4_eq (S := S) (k := k1) (c := c) (rest := rest) (a := a) (b := b) hm hes
    rw [seq_nx mv3_eq]
    by_cases hb : mapB es = true
    · rw [if_pos hb] at e4 ⊢
      rw [seq_nx e4]
      simp
    · rw [if_neg hb] at e4 ⊢
      rw [seq_exc e4]
  by_cases h1 : S[k]? = some (.mk 40)
  · rw [if_pos h1] at t1
    obtain ⟨hk, hd⟩ := drop_of h1
    by_cases h2 : S[k + 1]? = some (.mk 41)
    · obtain ⟨hk2, hd2⟩ := drop_of h2
      have hm : rdMap (S.drop k) = some ([], S.drop (k + 2)) := by rw [hd, hd2]; simp [rdMap]
      rw [hm]
      refine ⟨k + 2, rfl, by omega, goR _ (k + 2) [mpS []] ?_⟩
      rw [if_pos h2] at t2
      have e2 : mv2 (mpR rest none none none) (rst S (k + 1) c (rest ++ [mpS []])) = .nx (mpR rest none none none) (rst S (k + 2) c (rest ++ [mpS []])) := by
        simp only [mv2, sIf, xNot, t2, h2, decide_true, Re.bind, Bool.not_true, Re.then, Bool.false_eq_true, if_false, sSkip]
      rw [mv_def, seq_nx s1, seq_nx t1, seq_nx e2, tail [] _ none none (by simp) (by simp), if_pos (by decide)]
    · rw [if_neg h2] at t2
      have e2 : ∀ f, sSeq (sWhile 1000 (xTest (xC (.bl true))) l1_read_map) (sDrop (xMeth "Reading" "expect" F_Reading_expect (xVar 0) (xCons (xC (.str ")")) xNil))) (mpR rest none none none) (rst S (k + 1) c (rest ++ [mpS []])) = f → mv2 (mpR rest none none none) (rst S (k + 1) c (rest ++ [mpS []])) = f := fun f e => by
        rw [← e]
        simp only [mv2, sIf, xNot, t2, h2, decide_false, Re.bind, Bool.not_false, Re.then, if_true]
      have en := ents_go (S := S) (c := c) (rest := rest) hl sh (S.drop (k + 1)).length 1000 [] (k + 1) none none (by simp; omega) (by simp; omega) (Nat.le_refl _)
      cases hr : rdEnts (S.drop (k + 1)).length (S.drop (k + 1)) with
      | none =>
        have hm : rdMap (S.drop k) = none := by
          rw [hd]
          rcases head_ne h2 with z | ⟨t, r, z, nz⟩
          · rw [z]; simp [rdMap]
          · rw [z] at hr ⊢
            simp only [rdMap, if_true, if_neg nz, hr]
        rw [hm]
        rw [hr] at en
        obtain ⟨k', r', ex, en⟩ := en
        refine ⟨k', goX r' k' ex ?_⟩
        rw [mv_def, seq_nx s1, seq_nx t1, seq_exc (e2 _ (seq_exc (show sWhile 1000 _ _ _ _ = _ from en)))]
      | some p =>
        obtain ⟨es, R3⟩ := p
        rw [hr] at en
        obtain ⟨k3, a3, b3, i1, i2, i3⟩ := en
        obtain ⟨o1, o2⟩ := ents_ok _ _ _ _ hr
        have hes : es.length ≤ 1000 := by simp at o2; omega
        rw [List.nil_append] at i3
        have t3 := exp_st (S := S) (k := k3) (c := c) (ex := rest ++ [mpS es]) (r := mpR rest a3 b3 none) q41 rfl hl
        have hm0 : rdMap (S.drop k) = mapEnd es R3 := by
          rw [hd]
          rcases head_ne h2 with z | ⟨t, r, z, nz⟩
          · rw [z] at hr; cases hr
          · rw [z] at hr ⊢
            simp only [rdMap, if_true, if_neg nz, hr]
        by_cases h3 : S[k3]? = some (.mk 41)
        · rw [if_pos h3] at t3
          obtain ⟨hk3, hd3⟩ := drop_of h3
          have e2' := e2 _ ((seq_nx (show sWhile 1000 _ _ _ _ = _ from i3)).trans t3)
          rw [hm0, ← i1, hd3]
          by_cases hb : mapB es = true
          · simp only [mapEnd, hb, and_self, if_true]
            refine ⟨k3 + 1, rfl, by omega, goR _ _ [mpS es] ?_⟩
            rw [mv_def, seq_nx s1, seq_nx t1, seq_nx e2', tail es _ a3 b3 o1 hes, if_pos hb]
          · simp only [mapEnd, hb, and_false, if_false]
            refine ⟨k3 + 1, goX (mpR rest a3 b3 (some (.d (Vl.mp es).d))) _ [mpS es] ?_⟩
            rw [mv_def, seq_nx s1, seq_nx t1, seq_nx e2', tail es _ a3 b3 o1 hes, if_neg hb]
        · rw [if_neg h3] at t3
          have e2' := e2 _ ((seq_nx (show sWhile 1000 _ _ _ _ = _ from i3)).trans t3)
          have hm : rdMap (S.drop k) = none := by
            rw [hm0, ← i1]
            rcases head_ne h3 with z | ⟨t, r, z, nz⟩
            · rw [z]; rfl
            · rw [z]; simp [mapEnd, nz]
          rw [hm]
          refine ⟨k3 + 1, goX (mpR rest a3 b3 none) _ [mpS es] ?_⟩
          rw [mv_def, seq_nx s1, seq_nx t1, seq_exc e2']
  · rw [if_neg h1] at t1
    have hm : rdMap (S.drop k) = none := by
      rcases head_ne h1 with z | ⟨t, r, z, nz⟩
      · rw [z]; rfl
      · rw [z]; simp [rdMap, nz]
    rw [hm]
    refine ⟨k + 1, goX (mpR rest none none none) _ [mpS []] ?_⟩
    rw [mv_def, seq_nx s1, seq_exc t1]
end

/-! ### expressions read -/
abbrev Rr := Exp × List Sg × Nat
abbrev Rd := Nat → List Sg → Option Rr
def eat (m : Nat) : List Sg → Option (List Sg)
  | [] => none
  | s :: r => if s = .mk m then some r else none
def rdA (f : Rd) : Nat → Bool → Nat → List Sg → Option (List Exp × List Sg × Nat)
  | 0, _, c, R => some ([], R, c)
  | m + 1, b, c, R => match (if b = true then some R else eat 44 R) with
    | none => none
    | some R1 => match f c R1 with
      | none => none
      | some (e, R2, c2) => match rdA f m false c2 R2 with
        | none => none
        | some (as, R3, c3) => some (e :: as, R3, c3)
def rdEnd (as : List Exp) (c : Nat) (R : List Sg) : Option (List Exp × List Sg × Nat) := (eat 41 R).map fun R3 => (as, R3, c)
def rdArgs (f : Rd) (m c : Nat) (R : List Sg) : Option (List Exp × List Sg × Nat) := match eat 40 R with
  | none => none
  | some R1 => match rdA f m true c R1 with
    | none => none
    | some (as, R2, c2) => rdEnd as c2 R2
theorem eat_some {S : List Sg} {k m : Nat} (h : S[k]? = some (.mk m)) : eat m (S.drop k) = some (S.drop (k + 1)) ∧ k < S.length := by
  obtain ⟨a, b⟩ := drop_of h
  rw [b]
  exact ⟨by simp [eat], a⟩
theorem eat_none {S : List Sg} {k m : Nat} (h : ¬ S[k]? = some (.mk m)) : eat m (S.drop k) = none := by
  rcases head_ne h with z | ⟨t, r, z, nz⟩
  · rw [z]; rfl
  · rw [z]; simp [eat, nz]
/-- a def that reads as f does, at a depth -/
def RunsAs (S : List Sg) (d : Nat) (F : List W → Sto → Re W) (f : Rd) : Prop := ∀ (k c : Nat) (rest : List O), k ≤ S.length → match f c (S.drop k) with
  | some (e, R', c') => ∃ k', S.drop k' = R' ∧ k' ≤ S.length ∧ F [.l 0, .d (.int d)] (rst S k c rest) = .ok (.d e.d) (rst S k' c' rest)
  | none => ∃ k' c', F [.l 0, .d (.int d)] (rst S k c rest) = .exc badX (rst S k' c' rest)
abbrev exO (as : List Exp) : O := .lst (as.map fun e => W.d e.d)
abbrev arR (rest : List O) (m d : Nat) (a : Option W) : Xs.Env := [some (.l 0), some (.d (.int m)), some (.d (.int d)), some (.l (rest.length + 1)), a]
section
variable {S : List Sg} {rest : List O} {ci ca cN : List W → Sto → Re W} {f : Rd} {d : Nat}
abbrev ra1 : XS := (sIf (xTest (xBin fGt (xVar 4) (xC (.int 0)))) (sDrop (xMeth "Reading" "expect" F_Reading_expect (xVar 0) (xCons (xC (.str ",")) xNil))) sSkip)
abbrev ra2 (cN : List W → Sto → Re W) : XS := (sDrop (xBm "list" fAppend (xVar 3) (xCons (xApp cN (xCons (xVar 0) (xCons (xBin fAddI (xVar 2) (xC (.int 1))) xNil))) xNil)))
theorem ra_def : l1_read_arguments ci ca cN = sSeq ra1 (ra2 cN) := rfl
theorem args_go (hl : S.length ≤ lim) (hN : RunsAs S (d + 1) cN f) {m : Nat} (hm : m ≤ 1000) : ∀ (j i : Nat) (k c : Nat) (as : List Exp) (a : Option W), i + j = m → k ≤ S.length → as.length ≤ i → match rdA f j (decide (i = 0)) c (S.drop k) with
    | some (as', R', c') => ∃ k' a', S.drop k' = R' ∧ k' ≤ S.length ∧ forLoop (nL (upInts 0 m)) (gN 4) (l1_read_arguments ci ca cN) (j + 1) i (arR rest m d a) (rst S k c (rest ++ [exO as])) = .nx (arR rest m d a') (rst S k' c' (rest ++ [exO (as ++ as')]))
    | none => ∃ k' c' r' ex, forLoop (nL (upInts 0 m)) (gN 4) (l1_read_arguments ci ca cN) (j + 1) i (arR rest m d a) (rst S k c (rest ++ [exO as])) = .exc badX r' (rst S k' c' (rest ++ ex)) := by
  intro j
  induction j with
  | zero =>
    intro i k c as a hi hk ha
    have e : (upInts 0 m)[i]? = none := by simp; omega
    refine ⟨k, a, rfl, hk, ?_⟩
    simp [forLoop, nL, e]
  | succ j ih =>
    intro i k c as a hi hk ha
    have e : (upInts 0 m)[i]? = some (.d (.int (0 + (i : Nat)))) := by
      unfold upInts
      rw [List.getElem?_map, List.getElem?_range (by omega)]
      rfl
    have e0 : (0 : Int) + (i : Nat) = i := Int.zero_add _
    rw [e0] at e
    have fl : ∀ F, (l1_read_arguments ci ca cN) (arR rest m d (some (.d (.int i)))) (rst S k c (rest ++ [exO as])) = F → forLoop (nL (upInts 0 m)) (gN 4) (l1_read_arguments ci ca cN) (j + 1 + 1) i (arR rest m d a) (rst S k c (rest ++ [exO as])) = (match F with
        | .nx r2 h2 => forLoop (nL (upInts 0 m)) (gN 4) (l1_read_arguments ci ca cN) (j + 1) (i + 1) r2 h2
        | .ct r2 h2 => forLoop (nL (upInts 0 m)) (gN 4) (l1_read_arguments ci ca cN) (j + 1) (i + 1) r2 h2
        | .bk r2 h2 => .nx r2 h2
        | .rt w h2 => .rt w h2
        | .exc e r2 h2 => .exc e r2 h2
        | .stuck => .stuck) := fun F eF => by
      rw [← eF, forLoop]
      simp only [nL, e, gN]
      rfl
    -- the comma
    obtain ⟨k1, hs1⟩ : ∃ k1, ((if decide (i = 0) = true then some (S.drop k) else eat 44 (S.drop k)) = some (S.drop k1) ∧ k1 ≤ S.length ∧ ra1 (arR rest m d (some (.d (.int i)))) (rst S k c (rest ++ [exO as])) = .nx (arR rest m d (some (.d (.int i)))) (rst S k1 c (rest ++ [exO as]))) ∨
        ((if decide (i = 0) = true then some (S.drop k) else eat 44 (S.drop k)) = none ∧ ra1 (arR rest m d (some (.d (.int i)))) (rst S k c (rest ++ [exO as])) = .exc badX (arR rest m d (some (.d (.int i)))) (rst S k1 c (rest ++ [exO as]))) := by
      by_cases hi0 : i = 0
      · refine ⟨k, .inl ⟨by simp [hi0], hk, ?_⟩⟩
        subst hi0
        simp
      · have hi0' : (0 : Int) < i := by omega
        have t := exp_st (S := S) (k := k) (c := c) (ex := rest ++ [exO as]) (r := arR rest m d (some (.d (.int i)))) q44 rfl hl
        have tt : xTest (xBin fGt (xVar 4) (xC (.int 0))) (arR rest m d (some (.d (.int i)))) (rst S k c (rest ++ [exO as])) = .ok true (rst S k c (rest ++ [exO as])) := by
          simp
          omega
        refine ⟨k + 1, ?_⟩
        by_cases h : S[k]? = some (.mk 44)
        · obtain ⟨z1, z2⟩ := eat_some h
          rw [if_pos h] at t
          refine .inl ⟨by simp [hi0, z1], by omega, ?_⟩
          simp only [ra1, sIf, tt, Re.then, if_true, t]
        · rw [if_neg h] at t
          refine .inr ⟨by simp [hi0, eat_none h], ?_⟩
          simp only [ra1, sIf, tt, Re.then, if_true, t]
    rcases hs1 with ⟨q1, q2, q3⟩ | ⟨q1, q3⟩
    · have hn := hN k1 c (rest ++ [exO as]) q2
      rw [rdA, q1]
      simp only
      cases hr : f c (S.drop k1) with
      | none =>
        rw [hr] at hn
        obtain ⟨k', c', hn⟩ := hn
        refine ⟨k', c', arR rest m d (some (.d (.int i))), [exO as], ?_⟩
        have e2 : ra2 cN (arR rest m d (some (.d (.int i)))) (rst S k1 c (rest ++ [exO as])) = .exc badX (arR rest m d (some (.d (.int i)))) (rst S k' c' (rest ++ [exO as])) := by
          have hn' : cN [.l 0, .d (.int ((d : Int) + 1))] (rst S k1 c (rest ++ [exO as])) = .exc badX (rst S k' c' (rest ++ [exO as])) := hn
          simp [hn']
        exact fl _ (by rw [ra_def, seq_nx q3, e2])
      | some p =>
        obtain ⟨e1, R2, c2⟩ := p
        rw [hr] at hn
        obtain ⟨k2, i1, i2, hn⟩ := hn
        have al : as.length < lim := lt_lim (by omega)
        have e2 : ra2 cN (arR rest m d (some (.d (.int i)))) (rst S k1 c (rest ++ [exO as])) = .nx (arR rest m d (some (.d (.int i)))) (rst S k2 c2 (rest ++ [exO (as ++ [e1])])) := by
          have hn' : cN [.l 0, .d (.int ((d : Int) + 1))] (rst S k1 c (rest ++ [exO as])) = .ok (.d e1.d) (rst S k2 c2 (rest ++ [exO as])) := hn
          simp only [exO, List.map_append, List.map_cons, List.map_nil]
          generalize e1.d = X at hn'
          simp [hn', al]
        have ee := fl _ (by rw [ra_def, seq_nx q3, e2])
        simp only at ee
        have hi2 := ih (i + 1) k2 c2 (as ++ [e1]) (some (.d (.int i))) (by omega) i2 (by simp; omega)
        rw [show decide (i + 1 = 0) = false from by simp, i1] at hi2
        rw [ee]
        simp only
        cases hr2 : rdA f j false c2 R2 with
        | none => rw [hr2] at hi2; exact hi2
        | some p =>
          rw [hr2] at hi2
          obtain ⟨as', R3, c3⟩ := p
          obtain ⟨k', a', j1, j2, j3⟩ := hi2
          refine ⟨k', a', j1, j2, ?_⟩
          rw [j3]
          simp
    · rw [rdA, q1]
      simp only
      refine ⟨k1, c, arR rest m d (some (.d (.int i))), [exO as], ?_⟩
      exact fl _ (by rw [ra_def, seq_exc q3])
end

theorem ds_map : ∀ as : List Exp, Exp.ds as = as.map Exp.d
  | [] => rfl
  | a :: r => by rw [Exp.ds, ds_map r]; rfl
def resS : List Str := ["none", "true", "false", "map", "inject", "not", "size", "reverse", "add", "sub", "lt", "eq", "and", "concat", "has", "get", "remove", "take", "put", "cond", "resource"]
def isRes (z : List Nat) : Bool := resS.any fun y => y == Xs.mk z
theorem res_eq {z : List Nat} {r : Xs.Env} {h : Sto} {i : Nat} (hi : r[i]? = some (some (wT z))) : xTest (xBin (fInL false) (xVar i) (xC D_RESERVED)) r h = .ok (isRes z) h := by
  have e : D_RESERVED = .tup (resS.map .str) := rfl
  have a : (resS.map D.str).all D.flat = true := by decide +kernel
  have b : ((resS.map D.str).any fun y => y.eq (.str (Xs.mk z))) = isRes z := by
    rw [List.any_map]
    rfl
  rw [e]
  generalize resS.map D.str = L at a b
  simp [hi, a, b, D.flat]
def argS : List (Str × Nat) := [("not", 1), ("size", 1), ("reverse", 1), ("add", 2), ("sub", 2), ("lt", 2), ("eq", 2), ("and", 2), ("concat", 2), ("has", 2), ("get", 2), ("remove", 2), ("take", 2), ("put", 3), ("cond", 3), ("resource", 1)]
def arity (w : List Nat) : Option Nat := argS.lookup (Xs.mk w)
theorem lookup_map {α β : Type} (g : α → β) (k : Str) : ∀ l : List (Str × α), (l.map fun p => (p.1, g p.2)).lookup k = (l.lookup k).map g
  | [] => rfl
  | (a, b) :: r => by
    simp only [List.map_cons, List.lookup_cons]
    cases k == a with
    | true => rfl
    | false => exact lookup_map g k r
theorem arg_lookup (w : List Nat) : D_ARGUMENTS.lookup (Xs.mk w) = (arity w).map fun n => .int (n : Nat) := by
  rw [show D_ARGUMENTS = argS.map fun p => (p.1, D.int (p.2 : Nat)) from rfl]
  exact lookup_map (fun n : Nat => D.int (n : Nat)) _ _
theorem arity_le {w : List Nat} {m : Nat} (h : arity w = some m) : m ≤ 3 := by
  have key : ∀ l : List (Str × Nat), (∀ p ∈ l, p.2 ≤ 3) → ∀ k m, l.lookup k = some m → m ≤ 3 := by
    intro l
    induction l with
    | nil => intro _ k m h; cases h
    | cons p r ih =>
      intro hp k m h
      obtain ⟨a, b⟩ := p
      simp only [List.lookup_cons] at h
      cases hk : k == a with
      | true => rw [hk] at h; cases h; exact hp (a, m) List.mem_cons_self
      | false => rw [hk] at h; exact ih (fun q hq => hp q (List.mem_cons_of_mem _ hq)) k m h
  exact key argS (by decide) _ _ h
section
variable {S : List Sg} {rest : List O} {ci ca cN : List W → Sto → Re W} {f : Rd} {d : Nat}
theorem args_eq (hl : S.length ≤ lim) (hN : RunsAs S (d + 1) cN f) {m : Nat} (hm : m ≤ 1000) {k c : Nat} (hk : k ≤ S.length) : match rdArgs f m c (S.drop k) with
    | some (as, R', c') => ∃ k', S.drop k' = R' ∧ k' ≤ S.length ∧ fnT 3 5 true (b_read_arguments ci ca cN) [.l 0, .d (.int m), .d (.int d)] (rst S k c rest) = .ok (.d (.tup (Exp.ds as))) (rst S k' c' rest)
    | none => ∃ k' c', fnT 3 5 true (b_read_arguments ci ca cN) [.l 0, .d (.int m), .d (.int d)] (rst S k c rest) = .exc badX (rst S k' c' rest) := by
  have goR : ∀ x k' c' ex, b_read_arguments ci ca cN [some (.l 0), some (.d (.int m)), some (.d (.int d)), none, none] (rst S k c rest) = .rt (.d x) (rst S k' c' (rest ++ ex)) → fnT 3 5 true (b_read_arguments ci ca cN) [.l 0, .d (.int m), .d (.int d)] (rst S k c rest) = .ok (.d x) (rst S k' c' rest) := fun x k' c' ex e => by
    show closeT true (rest.length + 1) true (b_read_arguments ci ca cN [some (.l 0), some (.d (.int m)), some (.d (.int d)), none, none] (rst S k c rest)) = _
    rw [e]
    simp
  have goX : ∀ r' k' c' ex, b_read_arguments ci ca cN [some (.l 0), some (.d (.int m)), some (.d (.int d)), none, none] (rst S k c rest) = .exc badX r' (rst S k' c' (rest ++ ex)) → fnT 3 5 true (b_read_arguments ci ca cN) [.l 0, .d (.int m), .d (.int d)] (rst S k c rest) = .exc badX (rst S k' c' rest) := fun r' k' c' ex e => by
    show closeT true (rest.length + 1) true (b_read_arguments ci ca cN [some (.l 0), some (.d (.int m)), some (.d (.int d)), none, none] (rst S k c rest)) = _
    rw [e]
    simp
  have s1 : sSet 3 (xApp mkNew xNil) [some (.l 0), some (.d (.int m)), some (.d (.int d)), none, none] (rst S k c rest) = .nx (arR rest m d none) (rst S k c (rest ++ [exO []])) := by simp
  have t1 := exp_st (S := S) (k := k) (c := c) (ex := rest ++ [exO []]) (r := arR rest m d none) q40 rfl hl
  unfold b_read_arguments at goR goX
  by_cases h1 : S[k]? = some (.mk 40)
  · rw [if_pos h1] at t1
    obtain ⟨z1, z2⟩ := eat_some h1
    have lp := args_go (ci := ci) (ca := ca) (rest := rest) hl hN hm m 0 (k + 1) c [] none (by omega) (by omega) (by simp)
    have sf : ∀ F, forLoop (nL (upInts 0 m)) (gN 4) (l1_read_arguments ci ca cN) (m + 1) 0 (arR rest m d none) (rst S (k + 1) c (rest ++ [exO []])) = F → sFor (iRange1 (xCons (xVar 1) xNil)) (gN 4) (l1_read_arguments ci ca cN) (arR rest m d none) (rst S (k + 1) c (rest ++ [exO []])) = F := fun F e => by
      rw [← e]
      exact sFor_up1 (by simp) (Nat.lt_of_le_of_lt hm (by decide))
    rw [rdArgs, z1]
    simp only
    rw [show decide ((0 : Nat) = 0) = true from rfl] at lp
    cases hr : rdA f m true c (S.drop (k + 1)) with
    | none =>
      rw [hr] at lp
      obtain ⟨k', c', r', ex, lp⟩ := lp
      refine ⟨k', c', goX r' k' c' ex ?_⟩
      rw [seq_nx s1, seq_nx t1, seq_exc (sf _ lp)]
    | some p =>
      obtain ⟨as, R2, c2⟩ := p
      rw [hr] at lp
      obtain ⟨k2, a2, i1, i2, lp⟩ := lp
      rw [List.nil_append] at lp
      have t3 := exp_st (S := S) (k := k2) (c := c2) (ex := rest ++ [exO as]) (r := arR rest m d a2) q41 rfl hl
      simp only
      rw [← i1, rdEnd]
      by_cases h3 : S[k2]? = some (.mk 41)
      · rw [if_pos h3] at t3
        obtain ⟨y1, y2⟩ := eat_some h3
        rw [y1]
        refine ⟨k2 + 1, rfl, by omega, goR _ _ _ [exO as] ?_⟩
        have p : pureL (as.map fun e => W.d e.d) = some (Exp.ds as) := by rw [ds_map, show (as.map fun e => W.d e.d) = (as.map Exp.d).map .d by simp [Function.comp_def], pureL_map]
        rw [seq_nx s1, seq_nx t1, seq_nx (sf _ lp), seq_nx t3]
        simp [p]
      · rw [if_neg h3] at t3
        rw [eat_none h3]
        refine ⟨k2 + 1, c2, goX (arR rest m d a2) _ _ [exO as] ?_⟩
        rw [seq_nx s1, seq_nx t1, seq_nx (sf _ lp), seq_exc t3]
  · rw [if_neg h1] at t1
    rw [rdArgs, eat_none h1]
    refine ⟨k + 1, c, goX (arR rest m d none) _ _ [exO []] ?_⟩
    rw [seq_nx s1, seq_exc t1]
end

def w_map : List Nat := [109, 97, 112]
theorem q_map : (("map" : Str) : Str) = Xs.mk w_map := by decide +kernel
def w_inject : List Nat := [105, 110, 106, 101, 99, 116]
theorem q_inject : (("inject" : Str) : Str) = Xs.mk w_inject := by decide +kernel
/-- behind the mark: the name, the comma, the expression, the mark -/
def rdInj2 (f : Rd) (z : List Nat) (c : Nat) (R2 : List Sg) : Option Rr := match eat 44 R2 with
  | none => none
  | some R3 => match f c R3 with
    | none => none
    | some (e, R4, c2) => (eat 41 R4).map fun R5 => (.inj z e, R5, c2)
def rdInj1 (f : Rd) (c : Nat) : List Sg → Option Rr
  | .nm z :: R2 => if isRes z = true then none else rdInj2 f z c R2
  | _ => none
def rdInj (f : Rd) (c : Nat) (R : List Sg) : Option Rr := match eat 40 R with
  | none => none
  | some R1 => rdInj1 f c R1
section
variable {S : List Sg} {rest : List O} {ci ca cN : List W → Sto → Re W} {f : Rd} {d : Nat}
abbrev ijR (d : Nat) (a b v : Option W) : Xs.Env := [some (.l 0), some (.d (.int d)), a, b, v]
abbrev ri2 : XS := (sAsg (gT 2 (gsCons (gN 2) (gsCons (gN 3) gsNil))) (xMeth "Reading" "take" F_Reading_take (xVar 0) xNil))
abbrev ri3 : XS := (sIf (xOr (xTest (xBin fNe (xVar 2) (xC (.str "name")))) (xTest (xBin (fInL false) (xVar 3) (xC D_RESERVED)))) (sRaise0 "BadExpression") sSkip)
abbrev ri5 (cN : List W → Sto → Re W) : XS := (sSet 4 (xApp cN (xCons (xVar 0) (xCons (xBin fAddI (xVar 1) (xC (.int 1))) xNil))))
theorem ri2_eq {k c : Nat} {ex : List O} {a b v : Option W} (hl : S.length ≤ lim) : ri2 (ijR d a b v) (rst S k c ex) = .nx (ijR d (some (.d (kvOf S[k]?).1)) (some (.d (kvOf S[k]?).2)) v) (rst S (k + 1) c ex) := by
  have e := rtake_eq (k := k) (c := c) (rest := ex) hl
  have n1 : (Str.ofString "take" == Str.ofString "signs") = false := by decide +kernel
  have n2 : (Str.ofString "take" == Str.ofString "at") = false := by decide +kernel
  have n3 : (Str.ofString "take" == Str.ofString "calls") = false := by decide +kernel
  rw [sgAt_pair] at e
  generalize kvOf S[k]? = P at e
  simp [xMeth, insOf, List.lookup, n1, n2, n3, e, sAsg]
theorem kn_ne : (Str.ofString "end" == Str.ofString "name") = false ∧ (Str.ofString "number" == Str.ofString "name") = false ∧ (Str.ofString "quoted" == Str.ofString "name") = false ∧ (Str.ofString "mark" == Str.ofString "name") = false := by decide +kernel
/-- the free name that is next -/
def freeAt : Option Sg → Option (List Nat)
  | some (.nm z) => if isRes z = true then none else some z
  | _ => none
theorem ri3_eq {k c : Nat} {ex : List O} {v : Option W} {o : Option Sg} : ri3 (ijR d (some (.d (kvOf o).1)) (some (.d (kvOf o).2)) v) (rst S k c ex) = match freeAt o with
    | some _ => .nx (ijR d (some (.d (kvOf o).1)) (some (.d (kvOf o).2)) v) (rst S k c ex)
    | none => .exc badX (ijR d (some (.d (kvOf o).1)) (some (.d (kvOf o).2)) v) (rst S k c ex) := by
  obtain ⟨z1, z2, z3, z4⟩ := kn_ne
  unfold ri3
  generalize hT : xTest (xBin (fInL false) (xVar 3) (xC D_RESERVED)) = T
  cases o with
  | none => simp [kvOf, freeAt, D.eq, z1, sRaise0]
  | some s =>
    cases s with
    | nu w => simp [kvOf, freeAt, D.eq, z2, sRaise0]
    | qu w => simp [kvOf, freeAt, D.eq, z3, sRaise0]
    | mk w => simp [kvOf, freeAt, D.eq, z4, sRaise0]
    | nm z =>
      have e := res_eq (z := z) (r := ijR d (some (.d (.str "name"))) (some (wT z)) v) (h := rst S k c ex) (i := 3) rfl
      rw [hT] at e
      cases hz : isRes z with
      | true => rw [hz] at e; simp [kvOf, freeAt, D.eq, e, hz, sRaise0]
      | false => rw [hz] at e; simp [kvOf, freeAt, D.eq, e, hz]
theorem freeAt_some {o : Option Sg} {z : List Nat} (h : freeAt o = some z) : o = some (.nm z) ∧ isRes z = false := by
  cases o with
  | none => cases h
  | some s =>
    cases s with
    | nm w =>
      simp only [freeAt] at h
      split at h
      · cases h
      · rename_i q; cases h; exact ⟨rfl, by simpa using q⟩
    | _ => cases h
theorem inj_eq (hl : S.length ≤ lim) (hN : RunsAs S (d + 1) cN f) : RunsAs S d (fnT 2 5 true (b_read_inject ci ca cN)) (fun c R => rdInj f c R) := by
  intro k c rest hk
  have goR : ∀ x k' c', b_read_inject ci ca cN (ijR d none none none) (rst S k c rest) = .rt (.d x) (rst S k' c' rest) → fnT 2 5 true (b_read_inject ci ca cN) [.l 0, .d (.int d)] (rst S k c rest) = .ok (.d x) (rst S k' c' rest) := fun x k' c' e => by
    show closeT true (rest.length + 1) true (b_read_inject ci ca cN (ijR d none none none) (rst S k c rest)) = _
    rw [e]
    simp
  have goX : ∀ r' k' c', b_read_inject ci ca cN (ijR d none none none) (rst S k c rest) = .exc badX r' (rst S k' c' rest) → fnT 2 5 true (b_read_inject ci ca cN) [.l 0, .d (.int d)] (rst S k c rest) = .exc badX (rst S k' c' rest) := fun r' k' c' e => by
    show closeT true (rest.length + 1) true (b_read_inject ci ca cN (ijR d none none none) (rst S k c rest)) = _
    rw [e]
    simp
  unfold b_read_inject at goR goX
  have t1 := exp_st (S := S) (k := k) (c := c) (ex := rest) (r := ijR d none none none) q40 rfl hl
  show match rdInj f c (S.drop k) with
    | some (e, R', c') => _
    | none => _
  by_cases h1 : S[k]? = some (.mk 40)
  · rw [if_pos h1] at t1
    obtain ⟨z1, z2⟩ := eat_some h1
    have t2 := ri2_eq (S := S) (d := d) (k := k + 1) (c := c) (ex := rest) (a := none) (b := none) (v := none) hl
    have t3 := ri3_eq (S := S) (d := d) (k := k + 2) (c := c) (ex := rest) (v := none) (o := S[k + 1]?)
    rw [rdInj, z1]
    simp only
    cases hf : freeAt S[k + 1]? with
    | none =>
      have hm : rdInj1 f c (S.drop (k + 1)) = none := by
        cases hd : S.drop (k + 1) with
        | nil => rfl
        | cons s r =>
          obtain ⟨h2, _, _⟩ := at_drop hd
          rw [h2] at hf
          cases s with
          | nm z =>
            cases hz : isRes z with
            | true => simp [rdInj1, hz]
            | false => simp [freeAt, hz] at hf
          | _ => rfl
      rw [hm]
      rw [hf] at t3
      refine ⟨k + 2, c, goX (ijR d (some (.d (kvOf S[k + 1]?).1)) (some (.d (kvOf S[k + 1]?).2)) none) _ _ ?_⟩
      rw [seq_nx t1, seq_nx t2, seq_exc t3]
    | some z =>
      obtain ⟨ok, hz⟩ := freeAt_some hf
      rw [hf] at t3
      simp only at t3
      obtain ⟨hk1, hd1⟩ := drop_of ok
      have hm : rdInj1 f c (S.drop (k + 1)) = rdInj2 f z c (S.drop (k + 2)) := by
        rw [hd1]
        simp [rdInj1, hz]
      rw [hm]
      rw [ok] at t2 t3
      have t4 := exp_st (S := S) (k := k + 2) (c := c) (ex := rest) (r := ijR d (some (.d (.str "name"))) (some (wT z)) none) q44 rfl hl
      have t3' : ri3 (ijR d (some (.d (.str "name"))) (some (wT z)) none) (rst S (k + 2) c rest) = .nx (ijR d (some (.d (.str "name"))) (some (wT z)) none) (rst S (k + 2) c rest) := t3
      have t2' : ri2 (ijR d none none none) (rst S (k + 1) c rest) = .nx (ijR d (some (.d (.str "name"))) (some (wT z)) none) (rst S (k + 2) c rest) := t2
      by_cases h4 : S[k + 2]? = some (.mk 44)
      · rw [if_pos h4] at t4
        obtain ⟨y1, y2⟩ := eat_some h4
        rw [rdInj2, y1]
        simp only
        have hn := hN (k + 3) c rest (by omega)
        cases hr : f c (S.drop (k + 3)) with
        | none =>
          rw [hr] at hn
          obtain ⟨k', c', hn⟩ := hn
          refine ⟨k', c', goX (ijR d (some (.d (.str "name"))) (some (wT z)) none) _ _ ?_⟩
          have e5 : ri5 cN (ijR d (some (.d (.str "name"))) (some (wT z)) none) (rst S (k + 3) c rest) = .exc badX (ijR d (some (.d (.str "name"))) (some (wT z)) none) (rst S k' c' rest) := by
            have hn' : cN [.l 0, .d (.int ((d : Int) + 1))] (rst S (k + 3) c rest) = .exc badX (rst S k' c' rest) := hn
            simp [hn']
          rw [seq_nx t1, seq_nx t2', seq_nx t3', seq_nx t4, seq_exc e5]
        | some p =>
          obtain ⟨e, R4, c2⟩ := p
          rw [hr] at hn
          obtain ⟨k4, i1, i2, hn⟩ := hn
          have e5 : ri5 cN (ijR d (some (.d (.str "name"))) (some (wT z)) none) (rst S (k + 3) c rest) = .nx (ijR d (some (.d (.str "name"))) (some (wT z)) (some (.d e.d))) (rst S k4 c2 rest) := by
            have hn' : cN [.l 0, .d (.int ((d : Int) + 1))] (rst S (k + 3) c rest) = .ok (.d e.d) (rst S k4 c2 rest) := hn
            generalize e.d = X at hn'
            simp [hn']
          have t6 := exp_st (S := S) (k := k4) (c := c2) (ex := rest) (r := ijR d (some (.d (.str "name"))) (some (wT z)) (some (.d e.d))) q41 rfl hl
          simp only
          rw [← i1]
          by_cases h6 : S[k4]? = some (.mk 41)
          · rw [if_pos h6] at t6
            obtain ⟨x1, x2⟩ := eat_some h6
            rw [x1]
            refine ⟨k4 + 1, rfl, by omega, goR _ _ _ ?_⟩
            rw [seq_nx t1, seq_nx t2', seq_nx t3', seq_nx t4, seq_nx e5, seq_nx t6, Exp.d]
            generalize e.d = X
            simp
          · rw [if_neg h6] at t6
            rw [eat_none h6]
            refine ⟨k4 + 1, c2, goX (ijR d (some (.d (.str "name"))) (some (wT z)) (some (.d e.d))) _ _ ?_⟩
            rw [seq_nx t1, seq_nx t2', seq_nx t3', seq_nx t4, seq_nx e5, seq_exc t6]
      · rw [if_neg h4] at t4
        rw [rdInj2, eat_none h4]
        refine ⟨k + 3, c, goX (ijR d (some (.d (.str "name"))) (some (wT z)) none) _ _ ?_⟩
        rw [seq_nx t1, seq_nx t2', seq_nx t3', seq_exc t4]
  · rw [if_neg h1] at t1
    rw [rdInj, eat_none h1]
    refine ⟨k + 1, c, goX (ijR d none none none) _ _ ?_⟩
    rw [seq_exc t1]
end

/-- an expression that is next; g: none at the depth that is too deep -/
def isWord (w : List Nat) : Bool := decide (w = w_none) || decide (w = w_true) || decide (w = w_false)
def rdCall (g : Option Rd) (h : Rd → Nat → Option Rr) (c : Nat) : Option Rr := match g with
  | none => none
  | some f => if 10 ≤ c then none else h f (c + 1)
def rdArg (w : List Nat) (m : Nat) (R : List Sg) (f : Rd) (c : Nat) : Option Rr := (rdArgs f m c R).map fun p => (.call w p.1, p.2.1, p.2.2)
def rdName (g : Option Rd) (c : Nat) (w : List Nat) (r : List Sg) : Option Rr :=
  if w = w_map then (rdMap r).map fun p => (.lit (.mp p.1), p.2, c)
  else if w = w_inject then rdCall g (fun f c => rdInj f c r) c
  else match arity w with
    | some m => rdCall g (rdArg w m r) c
    | none => some (.var w, r, c)
def rdS (g : Option Rd) (c : Nat) : List Sg → Option Rr
  | [] => none
  | s :: r => match s with
    | .nm w => if isWord w = true then (scal (.nm w)).map fun x => (.lit (.sc x), r, c) else rdName g c w r
    | s => (scal s).map fun x => (.lit (.sc x), r, c)
def rdN : Nat → Rd
  | 0 => rdS none
  | k + 1 => rdS (some (rdN k))
theorem word_lookup (w : List Nat) : (D_WORDS.lookup (Xs.mk w)).isSome = isWord w := by
  rw [words_lookup]
  unfold isWord
  by_cases h1 : w = w_none
  · simp [h1]
  · by_cases h2 : w = w_true
    · rw [if_neg h1, if_pos h2]; simp [h1, h2]
    · by_cases h3 : w = w_false
      · rw [if_neg h1, if_neg h2, if_pos h3]; simp [h1, h2, h3]
      · rw [if_neg h1, if_neg h2, if_neg h3]; simp [h1, h2, h3]
section
variable {S : List Sg} {rest : List O} {ci ca cN : List W → Sto → Re W} {d : Nat}
abbrev nxR (d : Nat) (a b : Option W) : Xs.Env := [some (.l 0), some (.d (.int d)), a, b]
abbrev rn1 : XS := (sAsg (gT 2 (gsCons (gN 2) (gsCons (gN 3) gsNil))) (xMeth "Reading" "sign" F_Reading_sign (xVar 0) xNil))
abbrev rnT : XT := (xAnd (xTest (xBin fEq (xVar 2) (xC (.str "name")))) (xTest (xKin true D_WORDS (xVar 3))))
abbrev rnK : XS := (sDrop (xMeth "Reading" "take" F_Reading_take (xVar 0) xNil))
abbrev rnC : XS := (sDrop (xMeth "Reading" "call" F_Reading_call (xVar 0) (xCons (xVar 1) xNil)))
abbrev rnM : XS := (sIf (xTest (xBin fEq (xVar 3) (xC (.str "map")))) (sRet (xApp mkTup (xCons (xC (.str "literal")) (xCons (xApp F_read_map (xCons (xVar 0) xNil)) xNil)))) sSkip)
abbrev rnI (ci : List W → Sto → Re W) : XS := (sIf (xTest (xBin fEq (xVar 3) (xC (.str "inject")))) (sSeq rnC (sRet (xApp ci (xCons (xVar 0) (xCons (xVar 1) xNil))))) sSkip)
abbrev rnA (ca : List W → Sto → Re W) : XS := (sIf (xTest (xKin false D_ARGUMENTS (xVar 3))) (sSeq rnC (sRet (xApp mkTup (xCons (xC (.str "call")) (xCons (xVar 3) (xCons (xApp ca (xCons (xVar 0) (xCons (xKixD D_ARGUMENTS (xVar 3)) (xCons (xVar 1) xNil)))) xNil)))))) sSkip)
abbrev rnV : XS := (sRet (xApp mkTup (xCons (xC (.str "variable")) (xCons (xVar 3) xNil))))
abbrev rnL : XS := (sRet (xApp mkTup (xCons (xC (.str "literal")) (xCons (xApp F_read_scalar (xCons (xVar 0) xNil)) xNil))))
theorem rn_def : b_read_next ci ca cN = sSeq rn1 (sSeq (sIf rnT (sSeq rnK (sSeq rnM (sSeq (rnI ci) (sSeq (rnA ca) rnV)))) sSkip) rnL) := rfl
theorem rn1_eq {k c : Nat} {ex : List O} (hl : S.length ≤ lim) : rn1 (nxR d none none) (rst S k c ex) = .nx (nxR d (some (.d (kvOf S[k]?).1)) (some (.d (kvOf S[k]?).2))) (rst S k c ex) := by
  have e := rsign_eq (k := k) (c := c) (rest := ex) hl
  have n1 : (Str.ofString "sign" == Str.ofString "signs") = false := by decide +kernel
  have n2 : (Str.ofString "sign" == Str.ofString "at") = false := by decide +kernel
  have n3 : (Str.ofString "sign" == Str.ofString "calls") = false := by decide +kernel
  rw [sgAt_pair] at e
  generalize kvOf S[k]? = P at e
  simp [xMeth, insOf, List.lookup, n1, n2, n3, e, sAsg]
/-- a name that is no word -/
def nameAt : Option Sg → Option (List Nat)
  | some (.nm z) => if isWord z = true then none else some z
  | _ => none
theorem nameAt_some {o : Option Sg} {z : List Nat} (h : nameAt o = some z) : o = some (.nm z) ∧ isWord z = false := by
  cases o with
  | none => cases h
  | some s =>
    cases s with
    | nm w =>
      simp only [nameAt] at h
      split at h
      · cases h
      · rename_i q; cases h; exact ⟨rfl, by simpa using q⟩
    | _ => cases h
theorem rnT_eq {k c : Nat} {ex : List O} {o : Option Sg} : rnT (nxR d (some (.d (kvOf o).1)) (some (.d (kvOf o).2))) (rst S k c ex) = .ok (nameAt o).isSome (rst S k c ex) := by
  obtain ⟨z1, z2, z3, z4⟩ := kn_ne
  cases o with
  | none => simp [kvOf, nameAt, D.eq, z1]
  | some s =>
    cases s with
    | nu w => simp [kvOf, nameAt, D.eq, z2]
    | qu w => simp [kvOf, nameAt, D.eq, z3]
    | mk w => simp [kvOf, nameAt, D.eq, z4]
    | nm z =>
      have e := word_lookup z
      cases hz : isWord z with
      | true => rw [hz] at e; simp [kvOf, nameAt, D.eq, e, hz]
      | false => rw [hz] at e; simp [kvOf, nameAt, D.eq, e, hz]
theorem rnK_eq {k c : Nat} {ex : List O} {r : Xs.Env} (h0 : r[0]? = some (some (.l 0))) (hl : S.length ≤ lim) : rnK r (rst S k c ex) = .nx r (rst S (k + 1) c ex) := by
  have e := rtake_eq (k := k) (c := c) (rest := ex) hl
  have n1 : (Str.ofString "take" == Str.ofString "signs") = false := by decide +kernel
  have n2 : (Str.ofString "take" == Str.ofString "at") = false := by decide +kernel
  have n3 : (Str.ofString "take" == Str.ofString "calls") = false := by decide +kernel
  generalize sgAt S k = X at e
  simp [xMeth, insOf, List.lookup, n1, n2, n3, e, h0]
theorem rnC_eq {k c : Nat} {ex : List O} {a b : Option W} : rnC (nxR d a b) (rst S k c ex) = if 5 ≤ d ∨ 10 ≤ c then .exc badX (nxR d a b) (rst S k (c + 1) ex) else .nx (nxR d a b) (rst S k (c + 1) ex) := by
  have e := rcall_eq (S := S) (k := k) (c := c) (rest := ex) (d := d)
  have n1 : (Str.ofString "call" == Str.ofString "signs") = false := by decide +kernel
  have n2 : (Str.ofString "call" == Str.ofString "at") = false := by decide +kernel
  have n3 : (Str.ofString "call" == Str.ofString "calls") = false := by decide +kernel
  by_cases h : 5 ≤ d ∨ 10 ≤ c
  · rw [if_pos h] at e ⊢
    simp [xMeth, insOf, List.lookup, n1, n2, n3, e]
  · rw [if_neg h] at e ⊢
    simp [xMeth, insOf, List.lookup, n1, n2, n3, e]
/-- the reader of a deeper expression, if there may be one -/
def Deeper (S : List Sg) (d : Nat) (ci : List W → Sto → Re W) (ca : List W → Sto → Re W) : Option Rd → Prop
  | none => 5 ≤ d
  | some f => d < 5 ∧ RunsAs S d ci (fun c R => rdInj f c R) ∧ ∀ (m : Nat) (k c : Nat) (rest : List O), m ≤ 3 → k ≤ S.length → match rdArgs f m c (S.drop k) with
    | some (as, R', c') => ∃ k', S.drop k' = R' ∧ k' ≤ S.length ∧ ca [.l 0, .d (.int m), .d (.int d)] (rst S k c rest) = .ok (.d (.tup (Exp.ds as))) (rst S k' c' rest)
    | none => ∃ k' c', ca [.l 0, .d (.int m), .d (.int d)] (rst S k c rest) = .exc badX (rst S k' c' rest)
theorem n_mi : Xs.mk w_map == Xs.mk w_map := by decide
theorem next_eq {g : Option Rd} (hS : S.length < 1000) (sh : ∀ s ∈ S, shortS s) (dp : Deeper S d ci ca g) : RunsAs S d (fnT 2 4 true (b_read_next ci ca cN)) (rdS g) := by
  have hl : S.length ≤ lim := lim_of (by omega)
  intro k c rest hk
  have goR : ∀ x k' c', b_read_next ci ca cN (nxR d none none) (rst S k c rest) = .rt (.d x) (rst S k' c' rest) → fnT 2 4 true (b_read_next ci ca cN) [.l 0, .d (.int d)] (rst S k c rest) = .ok (.d x) (rst S k' c' rest) := fun x k' c' e => by
    show closeT true (rest.length + 1) true (b_read_next ci ca cN (nxR d none none) (rst S k c rest)) = _
    rw [e]
    simp
  have goX : ∀ r' k' c', b_read_next ci ca cN (nxR d none none) (rst S k c rest) = .exc badX r' (rst S k' c' rest) → fnT 2 4 true (b_read_next ci ca cN) [.l 0, .d (.int d)] (rst S k c rest) = .exc badX (rst S k' c' rest) := fun r' k' c' e => by
    show closeT true (rest.length + 1) true (b_read_next ci ca cN (nxR d none none) (rst S k c rest)) = _
    rw [e]
    simp
  rw [rn_def] at goR goX
  have t1 := rn1_eq (S := S) (d := d) (k := k) (c := c) (ex := rest) hl
  have tT := rnT_eq (S := S) (d := d) (k := k) (c := c) (ex := rest) (o := S[k]?)
  cases hn : nameAt S[k]? with
  | none =>
    rw [hn] at tT
    have tt : sIf rnT (sSeq rnK (sSeq rnM (sSeq (rnI ci) (sSeq (rnA ca) rnV)))) sSkip (nxR d (some (.d (kvOf S[k]?).1)) (some (.d (kvOf S[k]?).2))) (rst S k c rest) = .nx (nxR d (some (.d (kvOf S[k]?).1)) (some (.d (kvOf S[k]?).2))) (rst S k c rest) := by
      unfold sIf
      rw [tT]
      rfl
    have rs := rscalar_eq (S := S) (k := k) (c := c) (rest := rest) hl sh
    have hm : rdS g c (S.drop k) = (S[k]?.bind scal).map fun x => (.lit (.sc x), S.drop (k + 1), c) := by
      cases hd : S.drop k with
      | nil => rw [at_nil hd]; rfl
      | cons s r =>
        obtain ⟨h1, h2, _⟩ := at_drop hd
        rw [h1] at hn ⊢
        subst h2
        cases s with
        | nm z =>
          cases hz : isWord z with
          | true => simp [rdS, hz]
          | false => simp [nameAt, hz] at hn
        | _ => rfl
    rw [hm]
    cases hx : S[k]?.bind scal with
    | none =>
      rw [hx] at rs
      simp only at rs
      refine ⟨k + 1, c, goX (nxR d (some (.d (kvOf S[k]?).1)) (some (.d (kvOf S[k]?).2))) _ _ ?_⟩
      rw [seq_nx t1, seq_nx tt]
      simp [rs]
    | some x =>
      rw [hx] at rs
      simp only at rs
      have hk1 : k < S.length := by
        obtain ⟨s, hs, _⟩ := Option.bind_eq_some_iff.mp hx
        exact (List.getElem?_eq_some_iff.mp hs).1
      refine ⟨k + 1, rfl, by omega, goR _ _ _ ?_⟩
      rw [seq_nx t1, seq_nx tt, Exp.d, Vl.d]
      generalize x.d = X at rs
      simp [rs]
  | some w =>
    obtain ⟨ok, hw⟩ := nameAt_some hn
    rw [hn] at tT
    rw [ok] at t1 tT
    obtain ⟨hk1, hd⟩ := drop_of ok
    have hm : rdS g c (S.drop k) = rdName g c w (S.drop (k + 1)) := by
      rw [hd]
      simp [rdS, hw]
    rw [hm]
    have t1' : rn1 (nxR d none none) (rst S k c rest) = .nx (nxR d (some (.d (.str "name"))) (some (wT w))) (rst S k c rest) := t1
    have tK := rnK_eq (S := S) (k := k) (c := c) (ex := rest) (r := nxR d (some (.d (.str "name"))) (some (wT w))) rfl hl
    have tC := rnC_eq (S := S) (d := d) (k := k + 1) (c := c) (ex := rest) (a := some (.d (.str "name"))) (b := some (wT w))
    have b : ∀ u : List Nat, D.eq (.str (Xs.mk w)) (.str (Xs.mk u)) = decide (w = u) := fun u => by
      by_cases h : w = u
      · simp [h, D.eq]
      · have : ¬ Xs.mk w = Xs.mk u := fun e => h (by have := congrArg Tx e; simpa using this)
        simp [h, this, D.eq]
    have run : ∀ f, sSeq rnM (sSeq (rnI ci) (sSeq (rnA ca) rnV)) (nxR d (some (.d (.str "name"))) (some (wT w))) (rst S (k + 1) c rest) = f → (∀ r h, f ≠ .nx r h) → sSeq rn1 (sSeq (sIf rnT (sSeq rnK (sSeq rnM (sSeq (rnI ci) (sSeq (rnA ca) rnV)))) sSkip) rnL) (nxR d none none) (rst S k c rest) = f := fun f e nf => by
      rw [seq_nx t1']
      have tT' : rnT (nxR d (some (.d (.str "name"))) (some (wT w))) (rst S k c rest) = .ok true (rst S k c rest) := tT
      have e2 : sIf rnT (sSeq rnK (sSeq rnM (sSeq (rnI ci) (sSeq (rnA ca) rnV)))) sSkip (nxR d (some (.d (.str "name"))) (some (wT w))) (rst S k c rest) = f := by
        unfold sIf
        rw [tT']
        show sSeq rnK _ _ _ = f
        rw [seq_nx tK, e]
      unfold sSeq at e2 ⊢
      rw [e2]
      cases f <;> first | rfl | exact absurd rfl (nf _ _)
    unfold rdName
    by_cases hM : w = w_map
    · rw [if_pos hM]
      have rm := rmap_eq (S := S) (k := k + 1) (c := c) (rest := rest) hS sh
      have eM : ∀ f, sRet (xApp mkTup (xCons (xC (.str "literal")) (xCons (xApp F_read_map (xCons (xVar 0) xNil)) xNil))) (nxR d (some (.d (.str "name"))) (some (wT w))) (rst S (k + 1) c rest) = f → rnM (nxR d (some (.d (.str "name"))) (some (wT w))) (rst S (k + 1) c rest) = f := fun f e => by
        rw [← e]
        have tt : xTest (xBin fEq (xVar 3) (xC (.str "map"))) (nxR d (some (.d (.str "name"))) (some (wT w))) (rst S (k + 1) c rest) = .ok true (rst S (k + 1) c rest) := by
          rw [q_map]
          simp [b, hM]
        unfold rnM
        unfold sIf
        rw [tt]
        rfl
      cases hr : rdMap (S.drop (k + 1)) with
      | none =>
        rw [hr] at rm
        obtain ⟨k', rm⟩ := rm
        refine ⟨k', c, goX (nxR d (some (.d (.str "name"))) (some (wT w))) _ _ (run _ ?_ (by simp))⟩
        exact seq_exc (eM _ (by simp [rm]))
      | some p =>
        rw [hr] at rm
        obtain ⟨k', i1, i2, rm⟩ := rm
        refine ⟨k', i1, i2, goR _ _ _ (run _ ?_ (by simp))⟩
        refine seq_rt (eM _ ?_)
        rw [Exp.d]
        generalize (Vl.mp p.1).d = X at rm
        simp [rm]
    · rw [if_neg hM]
      have sM : rnM (nxR d (some (.d (.str "name"))) (some (wT w))) (rst S (k + 1) c rest) = .nx (nxR d (some (.d (.str "name"))) (some (wT w))) (rst S (k + 1) c rest) := by
        have tt : xTest (xBin fEq (xVar 3) (xC (.str "map"))) (nxR d (some (.d (.str "name"))) (some (wT w))) (rst S (k + 1) c rest) = .ok false (rst S (k + 1) c rest) := by
          rw [q_map]
          simp [b, hM]
        unfold rnM
        unfold sIf
        rw [tt]
        rfl
      by_cases hI : w = w_inject
      · rw [if_pos hI]
        have eI : ∀ f, sSeq rnC (sRet (xApp ci (xCons (xVar 0) (xCons (xVar 1) xNil)))) (nxR d (some (.d (.str "name"))) (some (wT w))) (rst S (k + 1) c rest) = f → rnI ci (nxR d (some (.d (.str "name"))) (some (wT w))) (rst S (k + 1) c rest) = f := fun f e => by
          rw [← e]
          have tt : xTest (xBin fEq (xVar 3) (xC (.str "inject"))) (nxR d (some (.d (.str "name"))) (some (wT w))) (rst S (k + 1) c rest) = .ok true (rst S (k + 1) c rest) := by
            rw [q_inject]
            simp [b, hI]
          unfold rnI
          unfold sIf
          rw [tt]
          rfl
        cases g with
        | none =>
          have dp : 5 ≤ d := dp
          rw [if_pos (.inl dp)] at tC
          refine ⟨k + 1, c + 1, goX (nxR d (some (.d (.str "name"))) (some (wT w))) _ _ (run _ ?_ (by simp))⟩
          rw [seq_nx sM]
          exact seq_exc (eI _ (seq_exc tC))
        | some f =>
          obtain ⟨d5, hi, ha⟩ := dp
          simp only [rdCall]
          by_cases hc : 10 ≤ c
          · rw [if_pos (.inr hc)] at tC
            rw [if_pos hc]
            refine ⟨k + 1, c + 1, goX (nxR d (some (.d (.str "name"))) (some (wT w))) _ _ (run _ ?_ (by simp))⟩
            rw [seq_nx sM]
            exact seq_exc (eI _ (seq_exc tC))
          · rw [if_neg (by omega)] at tC
            rw [if_neg hc]
            have hi := hi (k + 1) (c + 1) rest (by omega)
            dsimp only at hi
            cases hr : rdInj f (c + 1) (S.drop (k + 1)) with
            | none =>
              rw [hr] at hi
              obtain ⟨k', c', hi⟩ := hi
              refine ⟨k', c', goX (nxR d (some (.d (.str "name"))) (some (wT w))) _ _ (run _ ?_ (by simp))⟩
              rw [seq_nx sM]
              refine seq_exc (eI _ ((seq_nx tC).trans ?_))
              simp [hi]
            | some p =>
              obtain ⟨e, R', c'⟩ := p
              rw [hr] at hi
              obtain ⟨k', i1, i2, hi⟩ := hi
              refine ⟨k', i1, i2, goR _ _ _ (run _ ?_ (by simp))⟩
              rw [seq_nx sM]
              refine seq_rt (eI _ ((seq_nx tC).trans ?_))
              generalize e.d = X at hi
              simp [hi]
      · rw [if_neg hI]
        have sI : rnI ci (nxR d (some (.d (.str "name"))) (some (wT w))) (rst S (k + 1) c rest) = .nx (nxR d (some (.d (.str "name"))) (some (wT w))) (rst S (k + 1) c rest) := by
          have tt : xTest (xBin fEq (xVar 3) (xC (.str "inject"))) (nxR d (some (.d (.str "name"))) (some (wT w))) (rst S (k + 1) c rest) = .ok false (rst S (k + 1) c rest) := by
            rw [q_inject]
            simp [b, hI]
          unfold rnI
          unfold sIf
          rw [tt]
          rfl
        have al := arg_lookup w
        cases hA : arity w with
        | none =>
          rw [hA] at al
          simp only
          refine ⟨k + 1, rfl, by omega, goR _ _ _ (run _ ?_ (by simp))⟩
          have sA : rnA ca (nxR d (some (.d (.str "name"))) (some (wT w))) (rst S (k + 1) c rest) = .nx (nxR d (some (.d (.str "name"))) (some (wT w))) (rst S (k + 1) c rest) := by
            simp [al]
          rw [seq_nx sM, seq_nx sI, seq_nx sA, Exp.d]
          simp
        | some m =>
          rw [hA] at al
          simp only
          have m3 := arity_le hA
          have eA : ∀ f, sSeq rnC (sRet (xApp mkTup (xCons (xC (.str "call")) (xCons (xVar 3) (xCons (xApp ca (xCons (xVar 0) (xCons (xKixD D_ARGUMENTS (xVar 3)) (xCons (xVar 1) xNil)))) xNil))))) (nxR d (some (.d (.str "name"))) (some (wT w))) (rst S (k + 1) c rest) = f → rnA ca (nxR d (some (.d (.str "name"))) (some (wT w))) (rst S (k + 1) c rest) = f := fun f e => by
            rw [← e]
            have tt : xTest (xKin false D_ARGUMENTS (xVar 3)) (nxR d (some (.d (.str "name"))) (some (wT w))) (rst S (k + 1) c rest) = .ok true (rst S (k + 1) c rest) := by
              simp [al]
            unfold rnA
            unfold sIf
            rw [tt]
            rfl
          cases g with
          | none =>
            have dp : 5 ≤ d := dp
            rw [if_pos (.inl dp)] at tC
            refine ⟨k + 1, c + 1, goX (nxR d (some (.d (.str "name"))) (some (wT w))) _ _ (run _ ?_ (by simp))⟩
            rw [seq_nx sM, seq_nx sI]
            exact seq_exc (eA _ (seq_exc tC))
          | some f =>
            obtain ⟨d5, hi, ha⟩ := dp
            simp only [rdCall]
            by_cases hc : 10 ≤ c
            · rw [if_pos (.inr hc)] at tC
              rw [if_pos hc]
              refine ⟨k + 1, c + 1, goX (nxR d (some (.d (.str "name"))) (some (wT w))) _ _ (run _ ?_ (by simp))⟩
              rw [seq_nx sM, seq_nx sI]
              exact seq_exc (eA _ (seq_exc tC))
            · rw [if_neg (by omega)] at tC
              rw [if_neg hc]
              have hi := ha m (k + 1) (c + 1) rest m3 (by omega)
              unfold rdArg
              cases hr : rdArgs f m (c + 1) (S.drop (k + 1)) with
              | none =>
                rw [hr] at hi
                obtain ⟨k', c', hi⟩ := hi
                refine ⟨k', c', goX (nxR d (some (.d (.str "name"))) (some (wT w))) _ _ (run _ ?_ (by simp))⟩
                rw [seq_nx sM, seq_nx sI]
                refine seq_exc (eA _ ((seq_nx tC).trans ?_))
                simp [al, hi]
              | some p =>
                obtain ⟨as, R', c'⟩ := p
                rw [hr] at hi
                obtain ⟨k', i1, i2, hi⟩ := hi
                refine ⟨k', i1, i2, goR _ _ _ (run _ ?_ (by simp))⟩
                rw [seq_nx sM, seq_nx sI]
                refine seq_rt (eA _ ((seq_nx tC).trans ?_))
                rw [Exp.d]
                simp [al, hi]
end

section
variable {S : List Sg}
theorem readN (hS : S.length < 1000) (sh : ∀ s ∈ S, shortS s) : ∀ (k n : Nat), 2 * k + 1 ≤ n → k ≤ 5 → RunsAs S (5 - k) (F_read_next n) (rdN k)
  | 0, n, hn, _ => by
    obtain ⟨n, rfl⟩ : ∃ m, n = m + 1 := ⟨n - 1, by omega⟩
    exact next_eq (S := S) (d := 5) (ci := FF_read_inject n 0) (ca := FF_read_inject n 1) (cN := FF_read_inject n 2) (g := none) hS sh (Nat.le_refl 5)
  | k + 1, n, hn, hk => by
    obtain ⟨n, rfl⟩ : ∃ m, n = m + 2 := ⟨n - 2, by omega⟩
    have ih := readN hS sh k n (by omega) (by omega)
    have hl : S.length ≤ lim := lim_of (by omega)
    have hd : 5 - (k + 1) + 1 = 5 - k := by omega
    rw [← hd] at ih
    refine next_eq (S := S) (d := 5 - (k + 1)) (ci := FF_read_inject (n + 1) 0) (ca := FF_read_inject (n + 1) 1) (cN := FF_read_inject (n + 1) 2) (g := some (rdN k)) hS sh ⟨by omega, ?_, ?_⟩
    · exact inj_eq (ci := FF_read_inject n 0) (ca := FF_read_inject n 1) hl ih
    · intro m j c rest hm hj
      exact args_eq (ci := FF_read_inject n 0) (ca := FF_read_inject n 1) hl ih (by omega) hj
theorem read_eq (hS : S.length < 1000) (sh : ∀ s ∈ S, shortS s) {k : Nat} {h : Sto} (hk : k ≤ S.length) : match rdN 5 0 (S.drop k) with
    | some (e, R', c') => ∃ k', S.drop k' = R' ∧ k' ≤ S.length ∧ F_read_expression [.d (.lst (S.map Sg.d)), .d (.int k)] h = .ok (.d (.tup [e.d, .int k'])) h
    | none => F_read_expression [.d (.lst (S.map Sg.d)), .d (.int k)] h = .exc badX h := by
  have rn := readN hS sh 5 20 (by decide) (by decide) k 0 [] hk
  have goR : ∀ x h', b_read_expression [some (.d (.lst (S.map Sg.d))), some (.d (.int k)), none, none] ⟨[], true⟩ = .rt (.d x) h' → F_read_expression [.d (.lst (S.map Sg.d)), .d (.int k)] h = .ok (.d x) h := fun x h' e => by
    refine fnI_go rfl rfl ?_
    show closeI h (b_read_expression [some (.d (.lst (S.map Sg.d))), some (.d (.int k)), none, none] ⟨[], true⟩) = _
    rw [e]
    rfl
  have ini : F_Reading___init__ [.l 0, .d (.lst (S.map Sg.d)), .d (.int k)] ⟨[.ins "Reading" []], true⟩ = .ok (.d .non) (rst S k 0 []) := by
    show closeA true (b_Reading___init__ [some (.l 0), some (.d (.lst (S.map Sg.d))), some (.d (.int k))] ⟨[.ins "Reading" []], true⟩) = _
    simp [b_Reading___init__, insOf, putS, n_sa, n_sc, n_ac]
  have s1 : sSet 2 (xMake "Reading" F_Reading___init__ (xCons (xVar 0) (xCons (xVar 1) xNil))) [some (.d (.lst (S.map Sg.d))), some (.d (.int k)), none, none] ⟨[], true⟩ = .nx [some (.d (.lst (S.map Sg.d))), some (.d (.int k)), some (.l 0), none] (rst S k 0 []) := by
    simp [xMake, ini]
  unfold b_read_expression at goR
  have e5 : (5 : Nat) - 5 = 0 := rfl
  rw [e5] at rn
  cases hr : rdN 5 0 (S.drop k) with
  | none =>
    rw [hr] at rn
    obtain ⟨k', c', rn⟩ := rn
    have rn' : F_read_next 20 [.l 0, .d (.int 0)] (rst S k 0 []) = .exc badX (rst S k' c' []) := rn
    show F_read_expression [.d (.lst (S.map Sg.d)), .d (.int k)] h = .exc badX h
    show closeI h (b_read_expression [some (.d (.lst (S.map Sg.d))), some (.d (.int k)), none, none] ⟨[], true⟩) = _
    unfold b_read_expression
    have s2 : sSet 3 (xApp (F_read_next 20) (xCons (xVar 2) (xCons (xC (.int 0)) xNil))) [some (.d (.lst (S.map Sg.d))), some (.d (.int k)), some (.l 0), none] (rst S k 0 []) = .exc badX [some (.d (.lst (S.map Sg.d))), some (.d (.int k)), some (.l 0), none] (rst S k' c' []) := by
      generalize F_read_next 20 = F at rn'
      simp [rn']
    rw [seq_nx s1, seq_exc s2]
    rfl
  | some p =>
    obtain ⟨e, R', c'⟩ := p
    rw [hr] at rn
    obtain ⟨k', i1, i2, rn⟩ := rn
    refine ⟨k', i1, i2, goR _ (rst S k' c' []) ?_⟩
    have rn' : F_read_next 20 [.l 0, .d (.int 0)] (rst S k 0 []) = .ok (.d e.d) (rst S k' c' []) := rn
    have s2 : sSet 3 (xApp (F_read_next 20) (xCons (xVar 2) (xCons (xC (.int 0)) xNil))) [some (.d (.lst (S.map Sg.d))), some (.d (.int k)), some (.l 0), none] (rst S k 0 []) = .nx [some (.d (.lst (S.map Sg.d))), some (.d (.int k)), some (.l 0), some (.d e.d)] (rst S k' c' []) := by
      generalize F_read_next 20 = F at rn'
      generalize e.d = X at rn'
      simp [rn']
    rw [seq_nx s1, seq_nx s2]
    generalize e.d = X
    simp [insOf, List.lookup, n_as, n_sa]
end

/-! ### the law's reading -/
def shortB : Sg → Bool
  | .nm s => decide (s.length ≤ 12)
  | .qu s => decide (s.length ≤ 1000)
  | _ => true
theorem shortB_ok {s : Sg} (h : shortB s = true) : shortS s := by
  cases s with
  | nm s => simp only [shortB, decide_eq_true_eq] at h; exact h
  | qu s => simp only [shortB, decide_eq_true_eq] at h; exact h
  | nu n => exact True.intro
  | mk c => exact True.intro
def rdI (S : List Sg) : Int := match rdN 5 0 S with
  | some (_, R', _) => S.length - R'.length
  | none => -1
theorem lread_eq {S : List Sg} (hS : S.length < 1000) (sh : ∀ s ∈ S, shortS s) {h : Sto} : F__law_read [.d (.lst (S.map Sg.d))] h = .ok (.d (.int (rdI S))) h := by
  have e := read_eq hS sh (k := 0) (h := ⟨[], true⟩) (Nat.zero_le _)
  rw [List.drop_zero] at e
  refine fnI_go rfl rfl ?_
  show closeI h (b__law_read [some (.d (.lst (S.map Sg.d))), none] ⟨[], true⟩) = _
  unfold rdI
  cases hr : rdN 5 0 S with
  | none =>
    rw [hr] at e
    have e' : F_read_expression [.d (.lst (S.map Sg.d)), .d (.int 0)] ⟨[], true⟩ = .exc badX ⟨[], true⟩ := e
    have sb : sub_ViewError badX.c = true := by decide +kernel
    have b1 : is_BadExpression badX.c = some true := by decide +kernel
    have b2 : is_ValueError badX.c = some true := by decide +kernel
    generalize (S.map Sg.d) = L at e'
    have nx : (⟨[], true⟩ : Sto).nox = true := by rfl
    simp [b__law_read, sTry, e', sb, b1, b2, xIsE, nx]
  | some p =>
    obtain ⟨x, R', c'⟩ := p
    rw [hr] at e
    obtain ⟨k', i1, i2, e⟩ := e
    have e' : F_read_expression [.d (.lst (S.map Sg.d)), .d (.int 0)] ⟨[], true⟩ = .ok (.d (.tup [x.d, .int k'])) ⟨[], true⟩ := e
    have hk : (S.length : Int) - R'.length = k' := by
      rw [← i1, List.length_drop]
      omega
    simp only [hk]
    generalize (S.map Sg.d) = L at e'
    generalize x.d = X at e'
    simp [b__law_read, sTry, e']
/-- a text's signs -/
def lexS (t : List Nat) : Option (List Sg) := match lexF 1000 0 t with
  | some (S, none) => if t.length < 900 ∧ S.length < 900 ∧ S.all shortB = true then some S else none
  | _ => none
theorem lexS_ok {t : List Nat} {S : List Sg} (h : lexS t = some S) {st : Sto} : F_split_line [wT t] st = .ok (.d (.lst (S.map Sg.d))) st ∧ S.length < 1000 ∧ ∀ s ∈ S, shortS s := by
  unfold lexS at h
  split at h
  · rename_i S' hl
    split at h
    · rename_i q
      cases h
      refine ⟨split_ok (by omega) (lexF_ok _ _ _ _ _ hl), by omega, fun s hs => shortB_ok (List.all_eq_true.mp q.2.2 s hs)⟩
    · cases h
  · cases h
theorem rdt_eq {z : Str} {S : List Sg} (h : lexS (Tx z) = some S) {i : Nat} {r : Xs.Env} {st : Sto} (hi : r[i]? = some (some (.d (.str z)))) : xApp F__law_read (xCons (xApp F_split_line (xCons (xVar i) xNil)) xNil) r st = .ok (.d (.int (rdI S))) st := by
  obtain ⟨a, b, c⟩ := lexS_ok h (st := st)
  have e := lread_eq b c (h := st)
  have a' : F_split_line [.d (.str z)] st = .ok (.d (.lst (S.map Sg.d))) st := by rw [← mk_Tx z]; exact a
  generalize (S.map Sg.d) = L at e a'
  simp [hi, a', e]

/-! ### the rows -/
def aN (n : Nat) : Str := Xs.mk (34 :: (List.replicate n 97 ++ [34]))
def kN (i : Nat) : Str := (Str.ofString "\"k" ++ Str.ofString (toString (i : Int))) ++ Str.ofString "\", 1"
def mN (n : Nat) : Str := (Str.ofString "map(" ++ Txt.join (Str.ofString ", ") ((List.range n).map kN)) ++ Str.ofString ")"
def nN (n : Nat) : Str := (Txt.mul "not(" n ++ Str.ofString "a") ++ Txt.mul ")" n
def iN (n : Nat) : Str := (Txt.mul "inject(a, " n ++ Str.ofString "a") ++ Txt.mul ")" n
def wr1 : List Str := ["", "(a)", ")", ",", "=", "add(a)", "add(a, b,)", "add(a, b, c)", "add(, b)", "add a", "add", "not", "not()", "not(a", "size()"]
def wr2 : List Str := ["1000000", "999999999", "map", "map(", "map(a, 1)", "map(\"a\")", "map(\"a\", 1", "map(\"a\", 1,)", "map(\"a\" 1)", "map(\"\", 1)"]
def wr3 : List Str := ["map(\"a\", 1, \"a\", 2)", "map(\"a\", n)", "map(\"a\", map())", "map(\"abcdefghijklm\", 1)", "map(\"a\\n\", 1)", aN 41, "\"a\\n\""]
def wr4 : List Str := ["inject", "inject(a)", "inject(none, 1)", "inject(add, 1)", "inject(a, )", "inject(\"a\", 1)", "inject(a 1)", "cond(a, b)", "resource()"]
def wr5 : List Str := ["inject(inject, 1)", "put(m, k)", "map(\"a\", 1000000)", mN 9]
def wr6 : List Str := [nN 6, iN 6, "and(a)", "eq(a, add)"]
def wrS : List Str := wr1 ++ (wr2 ++ (wr3 ++ (wr4 ++ (wr5 ++ wr6))))
def nr1 : List Str := ["a", "n1", "none", "true", "false", "0", "999999", "\"\"", aN 40, "map()", "map(\"a\", 1)", "map(\"a\", 1, \"b\", none)", "true"]
def nr2 : List Str := ["add(a, b)", "not(a)", "inject(a, 1)", "cond(a, b, c)", "resource(a)", "take(m, 2)", "mapx", "adds", "nones", "injects"]
def nr3 : List Str := [nN 5, mN 8]
def nrS : List Str := nr1 ++ (nr2 ++ nr3)
def wrapS (z : Str) : Str := (Str.ofString "eq(a, " ++ z) ++ Str.ofString ")"
def badB (z : Str) : Bool := match lexS (Tx z) with
  | some S => rdI S == -1
  | none => false
def goodB (z : Str) : Bool := match lexS (Tx z) with
  | some S => rdI S == S.length
  | none => false
theorem wr_told : ∀ z ∈ wrS, z.length ≤ 200 ∧ badB z = true ∧ (z = "" ∨ badB (wrapS z) = true) := by decide +kernel
theorem nr_told : ∀ z ∈ nrS, z.length ≤ 200 ∧ goodB z = true := by decide +kernel

section
variable {r : Xs.Env} {h : Sto}
theorem addS_ok {A B : XE} {a b : Str} (e1 : A r h = .ok (.d (.str a)) h) (e2 : B r h = .ok (.d (.str b)) h) (hl : a.length + b.length ≤ 16000000) : xBin fAddS A B r h = .ok (.d (.str (a ++ b))) h := by
  have := lim_of hl
  simp [e1, e2, this]
theorem mulS_ok {z : Str} {n : Int} (h0 : 0 ≤ n) (h1 : n ≤ 1000) (h2 : z.length ≤ 1000) (h3 : PyData.strOk (Txt.mul z n) = true) : xBin fMulS (xC (.str z)) (xC (.int n)) r h = .ok (.d (.str (Txt.mul z n))) h := by
  simp [h0, h1, h2, h3]
theorem kN_small : ∀ j : Fin 9, (Str.ofString "\"k" ++ Str.ofString (toString ((j.val : Nat) : Int))).length ≤ 100 ∧ (kN j.val).length ≤ 100 := by decide +kernel
theorem rowsN {a b : Option W} {n : Nat} (hn : n ≤ 9) : xLc (iRange1 (xCons (xC (.int (n : Nat))) xNil)) (gN 1) xYes (xBin fAddS (xBin fAddS (xC (.str "\"k")) (xApp (f1 fStr) (xCons (xVar 1) xNil))) (xC (.str "\", 1"))) [1] [a, b] h = .ok (.d (.lst ((List.range n).map fun i => .str (kN i)))) h := by
  have e := lc_exact (tg := gN 1) (c := xYes) (e := xBin fAddS (xBin fAddS (xC (.str "\"k")) (xApp (f1 fStr) (xCons (xVar 1) xNil))) (xC (.str "\", 1"))) (xs := List.range n) (inj := fun i => W.d (.int (0 + (i : Nat)))) (p := fun _ => true) (f := fun i => W.d (.str (kN i))) (r := [a, none]) (h := h) (by simp; omega) (by
    intro i hi
    have hi : i < n := by simpa using hi
    refine ⟨_, rfl, rfl, fun _ => ?_⟩
    have e0 : (0 : Int) + (i : Nat) = i := Int.zero_add _
    have lg : ((i : Int)).natAbs.log2 < 1920 := by
      have : ((i : Int)).natAbs.log2 ≤ ((i : Int)).natAbs := Nat.log2_le_self _
      omega
    obtain ⟨k1, k2⟩ := kN_small ⟨i, by omega⟩
    rw [e0]
    have x1 : xApp (f1 fStr) (xCons (xVar 1) xNil) ((gN 1 (.d (.int i)) [a, none]).getD []) h = .ok (.d (.str (Str.ofString (toString (i : Int))))) h := by
      simp only [gN, Option.getD_some, xApp, xCons, xVar, xNil, f1, fStr, Re.bind, List.set_cons_succ, List.set_cons_zero, List.getElem?_cons_succ, List.getElem?_cons_zero, if_pos lg]
    have k3 : (Str.ofString "\"k").length + (Str.ofString (toString (i : Int))).length ≤ 100 := by
      rw [← Str.length_append]; exact k1
    refine addS_ok (a := Str.ofString "\"k" ++ Str.ofString (toString (i : Int))) (addS_ok rfl x1 (by omega)) rfl ?_
    have : (kN i).length ≤ 100 := k2
    unfold kN at this
    rw [Str.length_append] at this
    omega)
  have e3 : (iRange1 (xCons (xC (.int (n : Nat))) xNil)) [a, b] h = .ok (n + 1, nL ((List.range n).map fun i => W.d (.int (0 + (i : Nat))))) h := by
    have sm : small ((n : Nat) : Int) = true := small_nat (Nat.lt_of_le_of_lt hn (by decide))
    simp [sm, upInts]
  unfold xLc xLcs
  rw [e3]
  simp only [Re.bind]
  rw [show wipeR [a, b] [1] = [a, none] from rfl]
  rw [List.length_range] at e
  rw [e]
  have : pureL (((List.range n).filter fun _ => true).map fun i => W.d (.str (kN i))) = some ((List.range n).map fun i => D.str (kN i)) := by
    rw [List.filter_eq_self.mpr (by simp), show ((List.range n).map fun i => W.d (.str (kN i))) = ((List.range n).map fun i => D.str (kN i)).map .d by simp [Function.comp_def], pureL_map]
  simp only [this]
theorem joinN {X : XE} {n : Nat} (hX : X r h = .ok (.d (.lst ((List.range n).map fun i => .str (kN i)))) h) (hz : (((List.range n).map kN).map (·.length)).sum + ((List.range n).map kN).length * (Str.ofString ", ").length ≤ 16000000) : xBm "str" fJoin (xC (.str ", ")) (xCons X xNil) r h = .ok (.d (.str (Txt.join ", " ((List.range n).map kN)))) h := by
  have ty : tyOk "str" (.d (.str (Str.ofString ", "))) h = true := by simp [tyOk]
  have st : strsD ((List.range n).map fun i => D.str (kN i)) = some ((List.range n).map kN) := by
    rw [show ((List.range n).map fun i => D.str (kN i)) = ((List.range n).map kN).map .str by simp [Function.comp_def], strsD_map]
  have sd : sdOf h (.d (.lst ((List.range n).map fun i => .str (kN i)))) = some ((List.range n).map fun i => .str (kN i)) := by simp [sdOf]
  simp only [xBm, xC, Re.bind, xCons, hX, xNil, ty, if_true, fJoin, W.str?, sd, st, if_pos hz]
theorem mapN {a b : Option W} {n : Nat} (hn : n ≤ 9) (hz : (((List.range n).map kN).map (·.length)).sum + ((List.range n).map kN).length * (Str.ofString ", ").length ≤ 16000000) (hl : (Txt.join (Str.ofString ", ") ((List.range n).map kN)).length ≤ 1000) : xBin fAddS (xBin fAddS (xC (.str "map(")) (xBm "str" fJoin (xC (.str ", ")) (xCons (xLc (iRange1 (xCons (xC (.int (n : Nat))) xNil)) (gN 1) xYes (xBin fAddS (xBin fAddS (xC (.str "\"k")) (xApp (f1 fStr) (xCons (xVar 1) xNil))) (xC (.str "\", 1"))) [1]) xNil))) (xC (.str ")")) [a, b] h = .ok (.d (.str (mN n))) h := by
  have l1 : (Str.ofString "map(").length = 4 := by decide
  have l2 : (Str.ofString ")").length = 1 := by decide
  refine addS_ok (addS_ok rfl (joinN (rowsN hn) hz) (by omega)) rfl ?_
  rw [Str.length_append]
  omega
theorem quoN {n : Nat} (hn : (n : Int) ≤ 1000) (h3 : PyData.strOk (Txt.mul "a" n) = true) (hl : (Txt.mul (Str.ofString "a") n).length ≤ 1000) (he : (Str.ofString "\"" ++ Txt.mul "a" n) ++ Str.ofString "\"" = aN n) : xBin fAddS (xBin fAddS (xC (.str "\"")) (xBin fMulS (xC (.str "a")) (xC (.int (n : Nat))))) (xC (.str "\"")) r h = .ok (.d (.str (aN n))) h := by
  rw [← he]
  have l1 : (Str.ofString "\"").length = 1 := by decide
  refine addS_ok (addS_ok rfl (mulS_ok (by omega) hn (by decide) h3) (by omega)) rfl ?_
  rw [Str.length_append]
  omega
theorem nstN {n : Nat} {z : Str} (hn : (n : Int) ≤ 1000) (hz : z.length ≤ 1000) (h3 : PyData.strOk (Txt.mul z n) = true) (h4 : PyData.strOk (Txt.mul ")" n) = true) (hl : (Txt.mul z n).length ≤ 1000) (hl2 : (Txt.mul (Str.ofString ")") n).length ≤ 1000) : xBin fAddS (xBin fAddS (xBin fMulS (xC (.str z)) (xC (.int (n : Nat)))) (xC (.str "a"))) (xBin fMulS (xC (.str ")")) (xC (.int (n : Nat)))) r h = .ok (.d (.str ((Txt.mul z n ++ Str.ofString "a") ++ Txt.mul ")" n))) h := by
  have l1 : (Str.ofString "a").length = 1 := by decide
  refine addS_ok (addS_ok (mulS_ok (by omega) hn hz h3) rfl (by omega)) (mulS_ok (by omega) hn (by decide) h4) ?_
  rw [Str.length_append]
  omega
end
theorem wrong_eq {h : Sto} : F__law_wrong [] h = .ok (.d (.lst (wrS.map .str))) h := by
  refine fnI_go rfl rfl ?_
  show closeI h (b__law_wrong [none, none] ⟨[], true⟩) = _
  have go : ∀ f, b__law_wrong [none, none] ⟨[], true⟩ = f → closeI h f = .ok (.d (.lst (wrS.map .str))) h → closeI h (b__law_wrong [none, none] ⟨[], true⟩) = .ok (.d (.lst (wrS.map .str))) h := fun f e k => by rw [e]; exact k
  refine go (.rt (.d (.lst (wrS.map .str))) ⟨[], true⟩) ?_ rfl
  have l60 : (60 : Nat) ≤ lim := lim_of (by decide)
  have le : ∀ {n : Nat}, n ≤ 60 → n ≤ lim := fun h => Nat.le_trans h l60
  unfold b__law_wrong
  have q41 : ∀ {r : Xs.Env} {h : Sto}, xBin fAddS (xBin fAddS (xC (.str "\"")) (xBin fMulS (xC (.str "a")) (xC (.int 41)))) (xC (.str "\"")) r h = .ok (.d (.str (aN 41))) h := quoN (n := 41) (by decide) (by decide +kernel) (by decide +kernel) (by decide +kernel)
  have m9 : ∀ {a b : Option W} {h : Sto}, xBin fAddS (xBin fAddS (xC (.str "map(")) (xBm "str" fJoin (xC (.str ", ")) (xCons (xLc (iRange1 (xCons (xC (.int 9)) xNil)) (gN 1) xYes (xBin fAddS (xBin fAddS (xC (.str "\"k")) (xApp (f1 fStr) (xCons (xVar 1) xNil))) (xC (.str "\", 1"))) [1]) xNil))) (xC (.str ")")) [a, b] h = .ok (.d (.str (mN 9))) h := mapN (n := 9) (by decide) (by decide +kernel) (by decide +kernel)
  have n6 : ∀ {r : Xs.Env} {h : Sto}, xBin fAddS (xBin fAddS (xBin fMulS (xC (.str "not(")) (xC (.int 6))) (xC (.str "a"))) (xBin fMulS (xC (.str ")")) (xC (.int 6))) r h = .ok (.d (.str (nN 6))) h := nstN (n := 6) (by decide) (by decide) (by decide +kernel) (by decide +kernel) (by decide +kernel) (by decide +kernel)
  have i6 : ∀ {r : Xs.Env} {h : Sto}, xBin fAddS (xBin fAddS (xBin fMulS (xC (.str "inject(a, ")) (xC (.int 6))) (xC (.str "a"))) (xBin fMulS (xC (.str ")")) (xC (.int 6))) r h = .ok (.d (.str (iN 6))) h := nstN (n := 6) (by decide) (by decide) (by decide +kernel) (by decide +kernel) (by decide +kernel) (by decide +kernel)
  generalize xBin fAddS (xBin fAddS (xC (.str "\"")) (xBin fMulS (xC (.str "a")) (xC (.int 41)))) (xC (.str "\"")) = Q41 at q41
  generalize xBin fAddS (xBin fAddS (xC (.str "map(")) (xBm "str" fJoin (xC (.str ", ")) (xCons (xLc (iRange1 (xCons (xC (.int 9)) xNil)) (gN 1) xYes (xBin fAddS (xBin fAddS (xC (.str "\"k")) (xApp (f1 fStr) (xCons (xVar 1) xNil))) (xC (.str "\", 1"))) [1]) xNil))) (xC (.str ")")) = M9 at m9
  generalize xBin fAddS (xBin fAddS (xBin fMulS (xC (.str "not(")) (xC (.int 6))) (xC (.str "a"))) (xBin fMulS (xC (.str ")")) (xC (.int 6))) = N6 at n6
  generalize xBin fAddS (xBin fAddS (xBin fMulS (xC (.str "inject(a, ")) (xC (.int 6))) (xC (.str "a"))) (xBin fMulS (xC (.str ")")) (xC (.int 6))) = I6 at i6
  have l15 : (15 : Nat) ≤ lim := le (by decide)
  have l10 : (10 : Nat) ≤ lim := le (by decide)
  have l7 : (7 : Nat) ≤ lim := le (by decide)
  have l9 : (9 : Nat) ≤ lim := le (by decide)
  have l4 : (4 : Nat) ≤ lim := le (by decide)
  have l5 : (5 : Nat) ≤ lim := le (by decide)
  refine (seq_nx (r1 := [some (.d (.lst (wr1.map .str))), none]) (h1 := ⟨[], true⟩) ?_).trans ?_
  · simp [l15, wr1]
  refine (seq_nx (r1 := [some (.d (.lst ((wr1 ++ wr2).map .str))), none]) (h1 := ⟨[], true⟩) ?_).trans ?_
  · have hl : wr1.length + 10 ≤ lim := le (by decide)
    generalize wr1 = L1 at hl
    simp [hl, l10, wr2]
  refine (seq_nx (r1 := [some (.d (.lst ((wr1 ++ (wr2 ++ wr3)).map .str))), none]) (h1 := ⟨[], true⟩) ?_).trans ?_
  · rw [← List.append_assoc]
    have hl : (wr1 ++ wr2).length + 7 ≤ lim := le (by decide)
    generalize wr1 ++ wr2 = L1 at hl
    simp [hl, l7, wr3, q41]
  refine (seq_nx (r1 := [some (.d (.lst ((wr1 ++ (wr2 ++ (wr3 ++ wr4))).map .str))), none]) (h1 := ⟨[], true⟩) ?_).trans ?_
  · have : wr1 ++ (wr2 ++ (wr3 ++ wr4)) = (wr1 ++ (wr2 ++ wr3)) ++ wr4 := by simp
    rw [this]
    have hl : (wr1 ++ (wr2 ++ wr3)).length + 9 ≤ lim := le (by decide)
    generalize wr1 ++ (wr2 ++ wr3) = L1 at hl
    simp [hl, l9, wr4]
  refine (seq_nx (r1 := [some (.d (.lst ((wr1 ++ (wr2 ++ (wr3 ++ (wr4 ++ wr5)))).map .str))), none]) (h1 := ⟨[], true⟩) ?_).trans ?_
  · have : wr1 ++ (wr2 ++ (wr3 ++ (wr4 ++ wr5))) = (wr1 ++ (wr2 ++ (wr3 ++ wr4))) ++ wr5 := by simp
    rw [this]
    have hl : (wr1 ++ (wr2 ++ (wr3 ++ wr4))).length + 4 ≤ lim := le (by decide)
    generalize wr1 ++ (wr2 ++ (wr3 ++ wr4)) = L1 at hl
    simp [hl, l4, wr5, m9]
  have : wrS = (wr1 ++ (wr2 ++ (wr3 ++ (wr4 ++ wr5)))) ++ wr6 := by simp [wrS]
  rw [this]
  have hl : (wr1 ++ (wr2 ++ (wr3 ++ (wr4 ++ wr5)))).length + 4 ≤ lim := le (by decide)
  generalize wr1 ++ (wr2 ++ (wr3 ++ (wr4 ++ wr5))) = L1 at hl
  have ct : ∀ x : D, cut [D.str (nN 6), .str (iN 6), .str "and(a)", .str "eq(a, add)", x] none (some (4 : Int)) = wr6.map .str := fun x => by
    have := cut_take (xs := [D.str (nN 6), .str (iN 6), .str "and(a)", .str "eq(a, add)", x]) (k := 4)
    exact this
  have l6 : L1.length + wr6.length ≤ lim := hl
  simp [l6, l5, n6, i6, ct]

theorem near_eq {h : Sto} : F__law_near [] h = .ok (.d (.lst (nrS.map .str))) h := by
  refine fnI_go rfl rfl ?_
  show closeI h (b__law_near [none, none] ⟨[], true⟩) = _
  have go : ∀ f, b__law_near [none, none] ⟨[], true⟩ = f → closeI h f = .ok (.d (.lst (nrS.map .str))) h → closeI h (b__law_near [none, none] ⟨[], true⟩) = .ok (.d (.lst (nrS.map .str))) h := fun f e k => by rw [e]; exact k
  refine go (.rt (.d (.lst (nrS.map .str))) ⟨[], true⟩) ?_ rfl
  have l60 : (60 : Nat) ≤ lim := lim_of (by decide)
  have le : ∀ {n : Nat}, n ≤ 60 → n ≤ lim := fun h => Nat.le_trans h l60
  unfold b__law_near
  have q40 : ∀ {r : Xs.Env} {h : Sto}, xBin fAddS (xBin fAddS (xC (.str "\"")) (xBin fMulS (xC (.str "a")) (xC (.int 40)))) (xC (.str "\"")) r h = .ok (.d (.str (aN 40))) h := quoN (n := 40) (by decide) (by decide +kernel) (by decide +kernel) (by decide +kernel)
  have m8 : ∀ {a b : Option W} {h : Sto}, xBin fAddS (xBin fAddS (xC (.str "map(")) (xBm "str" fJoin (xC (.str ", ")) (xCons (xLc (iRange1 (xCons (xC (.int 8)) xNil)) (gN 1) xYes (xBin fAddS (xBin fAddS (xC (.str "\"k")) (xApp (f1 fStr) (xCons (xVar 1) xNil))) (xC (.str "\", 1"))) [1]) xNil))) (xC (.str ")")) [a, b] h = .ok (.d (.str (mN 8))) h := mapN (n := 8) (by decide) (by decide +kernel) (by decide +kernel)
  have n5 : ∀ {r : Xs.Env} {h : Sto}, xBin fAddS (xBin fAddS (xBin fMulS (xC (.str "not(")) (xC (.int 5))) (xC (.str "a"))) (xBin fMulS (xC (.str ")")) (xC (.int 5))) r h = .ok (.d (.str (nN 5))) h := nstN (n := 5) (by decide) (by decide) (by decide +kernel) (by decide +kernel) (by decide +kernel) (by decide +kernel)
  generalize xBin fAddS (xBin fAddS (xC (.str "\"")) (xBin fMulS (xC (.str "a")) (xC (.int 40)))) (xC (.str "\"")) = Q40 at q40
  generalize xBin fAddS (xBin fAddS (xC (.str "map(")) (xBm "str" fJoin (xC (.str ", ")) (xCons (xLc (iRange1 (xCons (xC (.int 8)) xNil)) (gN 1) xYes (xBin fAddS (xBin fAddS (xC (.str "\"k")) (xApp (f1 fStr) (xCons (xVar 1) xNil))) (xC (.str "\", 1"))) [1]) xNil))) (xC (.str ")")) = M8 at m8
  generalize xBin fAddS (xBin fAddS (xBin fMulS (xC (.str "not(")) (xC (.int 5))) (xC (.str "a"))) (xBin fMulS (xC (.str ")")) (xC (.int 5))) = N5 at n5
  have l13 : (13 : Nat) ≤ lim := le (by decide)
  have l10 : (10 : Nat) ≤ lim := le (by decide)
  refine (seq_nx (r1 := [some (.d (.lst (nr1.map .str))), none]) (h1 := ⟨[], true⟩) ?_).trans ?_
  · simp [l13, nr1, q40]
  refine (seq_nx (r1 := [some (.d (.lst ((nr1 ++ nr2).map .str))), none]) (h1 := ⟨[], true⟩) ?_).trans ?_
  · have hl : nr1.length + 10 ≤ lim := le (by decide)
    generalize nr1 = L1 at hl
    simp [hl, l10, nr2]
  refine (seq_nx (r1 := [some (.d (.lst (nrS.map .str))), none]) (h1 := ⟨[], true⟩) ?_).trans ?_
  · have : nrS = (nr1 ++ nr2) ++ nr3 := by simp [nrS]
    rw [this]
    have hl : (nr1 ++ nr2).length + 2 ≤ lim := le (by decide)
    generalize nr1 ++ nr2 = L1 at hl
    simp [hl, nr3, n5, m8]
  generalize nrS = L
  simp
def cndS : Str := "cond(a, add(1, 2), put(m, k, 1))"
def callS (z : Str) : Str := (((Str.ofString "and(eq(" ++ cndS) ++ Str.ofString ", ") ++ cndS) ++ z
theorem calls_eq {n : Nat} {h : Sto} : F__law_calls [.d (.int n)] h = .ok (.d (.str (callS (if n = 10 then "), and(not(a), b))" else "), and(not(a), not(b)))")))) h := by
  refine fnI_go rfl rfl ?_
  show closeI h (b__law_calls [some (.d (.int n)), none] ⟨[], true⟩) = _
  have e : ∀ {z : Str} {h : Sto}, z.length ≤ 100 → xBin fAddS (xBin fAddS (xBin fAddS (xBin fAddS (xC (.str "and(eq(")) (xVar 1)) (xC (.str ", "))) (xVar 1)) (xC (.str z)) [some (.d (.int n)), some (.d (.str cndS))] h = .ok (.d (.str (callS z))) h := fun {z h} hz => by
    refine addS_ok (addS_ok (addS_ok (addS_ok rfl rfl (by decide +kernel)) rfl (by decide +kernel)) rfl (by decide +kernel)) rfl ?_
    have : ((((Str.ofString "and(eq(" ++ cndS) ++ Str.ofString ", ") ++ cndS)).length ≤ 200 := by decide +kernel
    omega
  have e1 := e (z := "), and(not(a), b))") (h := ⟨[], true⟩) (by decide)
  have e2 := e (z := "), and(not(a), not(b)))") (h := ⟨[], true⟩) (by decide)
  unfold b__law_calls
  rw [seq_nx (show sSet 1 (xC (.str "cond(a, add(1, 2), put(m, k, 1))")) [some (.d (.int n)), none] ⟨[], true⟩ = .nx [some (.d (.int n)), some (.d (.str cndS))] ⟨[], true⟩ from rfl)]
  generalize xBin fAddS (xBin fAddS (xBin fAddS (xBin fAddS (xC (.str "and(eq(")) (xVar 1)) (xC (.str ", "))) (xVar 1)) (xC (.str "), and(not(a), b))")) = A at e1
  generalize xBin fAddS (xBin fAddS (xBin fAddS (xBin fAddS (xC (.str "and(eq(")) (xVar 1)) (xC (.str ", "))) (xVar 1)) (xC (.str "), and(not(a), not(b)))")) = B at e2
  generalize hP : callS (Str.ofString "), and(not(a), b))") = P at e1
  generalize hQ : callS (Str.ofString "), and(not(a), not(b)))") = Q at e2
  by_cases hn : n = 10
  · have hn' : (n : Int) = 10 := by omega
    rw [if_pos hn, hP]
    subst hn
    have e1' : A [some (.d (.int 10)), some (.d (.str cndS))] ⟨[], true⟩ = .ok (.d (.str P)) ⟨[], true⟩ := e1
    simp [e1']
  · have hn' : ¬ (n : Int) = 10 := by omega
    rw [if_neg hn, hQ]
    simp [hn', e2]
theorem calls_told : goodB (callS "), and(not(a), b))") = true ∧ badB (callS "), and(not(a), not(b)))") = true := by decide +kernel
abbrev lI (xs : List Int) : W := .d (.lst (xs.map .int))
/-! ### digits, draws -/
theorem cell_eq {ns : List Int} {k : Nat} {h : Sto} : ∃ v : Int, F__law_cell [.s (ns.map .int), .d (.int k)] h = .ok (.d (.int v)) h := by
  by_cases hk : k < ns.length
  · refine ⟨gi ns k, fnI_go rfl rfl ?_⟩
    show closeI h (b__law_cell [some (.s (ns.map .int)), some (.d (.int k))] ⟨[], true⟩) = _
    simp [b__law_cell, hk]
  · refine ⟨0, fnI_go rfl rfl ?_⟩
    show closeI h (b__law_cell [some (.s (ns.map .int)), some (.d (.int k))] ⟨[], true⟩) = _
    have : ¬ (k : Int) < ns.length := by omega
    simp [b__law_cell, hk, this]
section
variable {ns f : List Int} {k c : Int} {t sd x : Option W}
abbrev dgR (ns : List Int) (k c : Int) (t sd : Option W) : Xs.Env := [some (.s (ns.map .int)), some (.d (.int 0)), some (.d (.int 20)), some (.l 0), some (.d (.int k)), some (.d (.int c)), t, sd]
theorem dig1 (hf : f.length ≤ 100000) : ∃ c' t' f', f'.length ≤ f.length + 60 ∧ forLoop (nL (upInts 0 60)) (gN 6) l1__law_digits 61 0 (dgR ns k c t sd) ⟨[.lst (wI f)], true⟩ = .nx (dgR ns k c' t' sd) ⟨[.lst (wI f')], true⟩ := by
  obtain ⟨r', h', ⟨c', t', f', hl, rfl, rfl⟩, e⟩ := for_run (tg := gN 6) (ws := upInts 0 60) (r := dgR ns k c t sd) (h := ⟨[.lst (wI f)], true⟩) (body := l1__law_digits)
    (fun i r h => ∃ c' t' f', f'.length ≤ f.length + i ∧ r = dgR ns k c' t' sd ∧ h = ⟨[.lst (wI f')], true⟩) ⟨c, t, f, Nat.le_refl _, rfl, rfl⟩ (by
    rintro i w r h hw ⟨c', t', f', hl, rfl, rfl⟩
    obtain ⟨hi, rfl⟩ := upInts_get hw
    have a1 : f'.length < lim := lt_lim (by omega)
    by_cases hc : 0 < c'
    · exact ⟨_, dgR ns k (c' / 1000) (some (.d (.int (0 + (i : Nat))))) sd, ⟨[.lst (wI (f' ++ [c' % 1000]))], true⟩, rfl, by simp [l1__law_digits, hc, a1], _, _, _, by simp; omega, rfl, rfl⟩
    · exact ⟨_, dgR ns k c' (some (.d (.int (0 + (i : Nat))))) sd, ⟨[.lst (wI f')], true⟩, rfl, by simp [l1__law_digits, hc], _, _, f', by omega, rfl, rfl⟩)
  exact ⟨c', t', f', by simpa using hl, by simpa using e⟩
theorem dig2 {s : Int} (hf : f.length ≤ 100000) : ∃ t' s' f', f'.length ≤ f.length + 12 ∧ forLoop (nL (upInts 0 12)) (gN 6) l2__law_digits 13 0 (dgR ns k c t (some (.d (.int s)))) ⟨[.lst (wI f)], true⟩ = .nx (dgR ns k c t' (some (.d (.int s')))) ⟨[.lst (wI f')], true⟩ := by
  obtain ⟨r', h', ⟨c', t', f', hl, rfl, rfl⟩, e⟩ := for_run (tg := gN 6) (ws := upInts 0 12) (r := dgR ns k c t (some (.d (.int s)))) (h := ⟨[.lst (wI f)], true⟩) (body := l2__law_digits)
    (fun i r h => ∃ s' t' f', f'.length ≤ f.length + i ∧ r = dgR ns k c t' (some (.d (.int s'))) ∧ h = ⟨[.lst (wI f')], true⟩) ⟨s, t, f, Nat.le_refl _, rfl, rfl⟩ (by
    rintro i w r h hw ⟨s', t', f', hl, rfl, rfl⟩
    obtain ⟨hi, rfl⟩ := upInts_get hw
    have a1 : f'.length < lim := lt_lim (by omega)
    generalize (0 : Int) + (i : Nat) = j
    exact ⟨_, dgR ns k c (some (.d (.int j))) (some (.d (.int ((s' * 16807 + 7 * j + 1) % 2147483647)))), ⟨[.lst (wI (f' ++ [(s' * 16807 + 7 * j + 1) % 2147483647 / 997 % 1000]))], true⟩, rfl, by simp [l2__law_digits, a1], _, _, _, by simp; omega, rfl, rfl⟩)
  exact ⟨t', c', f', by simpa using hl, by simpa using e⟩
theorem digits_eq {h : Sto} : ∃ ds : List Int, ds.length ≤ 100000 ∧ F__law_digits [.s (ns.map .int), .d (.int 0), .d (.int 20)] h = .ok (lI ds) h := by
  obtain ⟨r', h', ⟨c', k', t', s', f', hl, rfl, rfl⟩, e⟩ := for_run (tg := gN 4) (ws := upInts 0 20) (r := [some (.s (ns.map .int)), some (.d (.int 0)), some (.d (.int 20)), some (.l 0), none, none, none, none]) (h := ⟨[.lst (wI [])], true⟩) (body := l3__law_digits)
    (fun i r h => ∃ k c t s f, List.length f ≤ 60 * i ∧ r = [some (.s (ns.map .int)), some (.d (.int 0)), some (.d (.int 20)), some (.l 0), k, c, t, s] ∧ h = ⟨[.lst (wI f)], true⟩) ⟨none, none, none, none, [], by simp, rfl, rfl⟩ (by
    rintro i w r h hw ⟨k', c', t', s', f', hl, rfl, rfl⟩
    obtain ⟨hi, rfl⟩ := upInts_get hw
    obtain ⟨v, hv⟩ := cell_eq (ns := ns) (k := i) (h := ⟨[.lst (wI f')], true⟩)
    obtain ⟨c, hc⟩ : ∃ c, c = if v < 0 then 1 - 2 * v else v := ⟨_, rfl⟩
    have s1 : sSet 5 (xApp F__law_cell (xCons (xVar 0) (xCons (xVar 4) xNil))) [some (.s (ns.map .int)), some (.d (.int 0)), some (.d (.int 20)), some (.l 0), some (.d (.int i)), c', t', s'] ⟨[.lst (wI f')], true⟩ = .nx (dgR ns i v t' s') ⟨[.lst (wI f')], true⟩ := by
      simp [hv]
    have s2 : (sIf (xTest (xBin fLt (xVar 5) (xC (.int 0)))) (sSet 5 (xBin fSub (xC (.int 1)) (xBin fMul (xC (.int 2)) (xVar 5)))) sSkip) (dgR ns i v t' s') ⟨[.lst (wI f')], true⟩ = .nx (dgR ns i c t' s') ⟨[.lst (wI f')], true⟩ := by
      by_cases hc' : v < 0
      · simp [hc, hc']
      · simp [hc, hc']
    have e30 : (0 : Int) + (i : Nat) = i := Int.zero_add _
    by_cases hq : 10 ^ 18 ≤ c
    · obtain ⟨c2, t2, f2, h2, e2⟩ := dig1 (ns := ns) (k := i) (c := c) (t := t') (sd := s') (f := f') (by omega)
      have k2 := sFor_up1 (a := (xCons (xC (.int 60)) xNil)) (tg := gN 6) (b := l1__law_digits) (r := dgR ns i c t' s') (h := ⟨[.lst (wI f')], true⟩) (h1 := ⟨[.lst (wI f')], true⟩) (n := 60) (by simp) (by decide)
      rw [e2] at k2
      refine ⟨_, dgR ns i c2 t2 s', ⟨[.lst (wI f2)], true⟩, rfl, ?_, _, _, _, _, f2, by omega, rfl, rfl⟩
      unfold l3__law_digits
      simp only [gN, List.set_cons_succ, List.set_cons_zero, e30]
      rw [seq_nx s1, seq_nx s2]
      have hq' : (1000000000000000000 : Int) ≤ c := by simpa using hq
      have tt : xTest (xBin fGe (xVar 5) (xBin fPow (xC (.int 10)) (xC (.int 18)))) (dgR ns i c t' s') ⟨[.lst (wI f')], true⟩ = .ok true ⟨[.lst (wI f')], true⟩ := by simp [hq']
      simp only [sIf, tt, Re.then, if_true]
      exact k2
    · obtain ⟨sd, hsd⟩ : ∃ sd, sd = (c * 48271 + i * 69621 + 11) % 2147483647 := ⟨_, rfl⟩
      obtain ⟨t2, s2', f2, h2, e2⟩ := dig2 (ns := ns) (k := i) (c := c) (t := t') (s := sd) (f := f') (by omega)
      have k2 := sFor_up1 (a := (xCons (xC (.int 12)) xNil)) (tg := gN 6) (b := l2__law_digits) (r := dgR ns i c t' (some (.d (.int sd)))) (h := ⟨[.lst (wI f')], true⟩) (h1 := ⟨[.lst (wI f')], true⟩) (n := 12) (by simp) (by decide)
      rw [e2] at k2
      refine ⟨_, dgR ns i c t2 (some (.d (.int s2'))), ⟨[.lst (wI f2)], true⟩, rfl, ?_, _, _, _, _, f2, by omega, rfl, rfl⟩
      unfold l3__law_digits
      simp only [gN, List.set_cons_succ, List.set_cons_zero, e30]
      rw [seq_nx s1, seq_nx s2]
      have hq' : ¬ (1000000000000000000 : Int) ≤ c := by simpa using hq
      have tt : xTest (xBin fGe (xVar 5) (xBin fPow (xC (.int 10)) (xC (.int 18)))) (dgR ns i c t' s') ⟨[.lst (wI f')], true⟩ = .ok false ⟨[.lst (wI f')], true⟩ := by simp [hq']
      simp only [sIf, tt, Re.then, if_false, Bool.false_eq_true]
      have s3 : (sSet 7 (xBin fMod (xApp (f1 fInt) (xCons (xBin fAddI (xBin fAddI (xBin fMul (xVar 5) (xC (.int 48271))) (xBin fMul (xVar 4) (xC (.int 69621)))) (xC (.int 11))) xNil)) (xC (.int 2147483647)))) (dgR ns i c t' s') ⟨[.lst (wI f')], true⟩ = .nx (dgR ns i c t' (some (.d (.int sd)))) ⟨[.lst (wI f')], true⟩ := by
        simp [hsd]
      rw [seq_nx s3]
      exact k2)
  refine ⟨f', by simp at hl; omega, fnI_go rfl rfl ?_⟩
  show closeI h (b__law_digits [some (.s (ns.map .int)), some (.d (.int 0)), some (.d (.int 20)), none, none, none, none, none] ⟨[], true⟩) = _
  have c1 : sSet 3 (xApp mkNew xNil) [some (.s (ns.map .int)), some (.d (.int 0)), some (.d (.int 20)), none, none, none, none, none] ⟨[], true⟩ = .nx [some (.s (ns.map .int)), some (.d (.int 0)), some (.d (.int 20)), some (.l 0), none, none, none, none] ⟨[.lst (wI [])], true⟩ := by
    simp [wI]
  have k := sFor_up2 (a := (xCons (xVar 1) (xCons (xVar 2) xNil))) (tg := gN 4) (b := l3__law_digits) (r := [some (.s (ns.map .int)), some (.d (.int 0)), some (.d (.int 20)), some (.l 0), none, none, none, none]) (h := ⟨[.lst (wI [])], true⟩) (h1 := ⟨[.lst (wI [])], true⟩) (i := 0) (j := 20) (by simp) (small_nat (n := 0) (by decide)) (small_nat (n := 20) (by decide))
  have e' : forLoop (nL (upInts 0 20)) (gN 4) l3__law_digits 21 0 [some (.s (ns.map .int)), some (.d (.int 0)), some (.d (.int 20)), some (.l 0), none, none, none, none] ⟨[.lst (wI [])], true⟩ = _ := e
  have k' : _ = forLoop (nL (upInts 0 20)) (gN 4) l3__law_digits 21 0 [some (.s (ns.map .int)), some (.d (.int 0)), some (.d (.int 20)), some (.l 0), none, none, none, none] ⟨[.lst (wI [])], true⟩ := k
  rw [e'] at k'
  unfold b__law_digits
  rw [seq_nx c1, seq_nx k']
  simp
/-- the box: digits and the next index; what stands behind it -/
abbrev bx (ds : List Int) (c : Nat) (rest : List O := []) : Sto := ⟨.lst [lI ds, .d (.int c)] :: rest, true⟩
theorem draw_eq {ds : List Int} {q : Nat} {m : Int} {rest : List O} (hm : 0 < m) : ∃ v : Int, 0 ≤ v ∧ v < m ∧ F__law_draw [.l 0, .d (.int m)] (bx ds q rest) = .ok (.d (.int v)) (bx ds (q + 1) rest) := by
  have go : ∀ v, closeT true (rest.length + 1) true (b__law_draw [some (.l 0), some (.d (.int m)), none] (bx ds q rest)) = .ok (.d (.int v)) (bx ds (q + 1) rest) → F__law_draw [.l 0, .d (.int m)] (bx ds q rest) = .ok (.d (.int v)) (bx ds (q + 1) rest) := fun v h => h
  by_cases hk : q < ds.length
  · refine ⟨gi ds q % m, Int.emod_nonneg _ (by omega), Int.emod_lt_of_pos _ hm, go _ ?_⟩
    simp [b__law_draw, hk, hm, atI, ixN, gi]
  · refine ⟨(q * 7 + 3) % m, Int.emod_nonneg _ (by omega), Int.emod_lt_of_pos _ hm, go _ ?_⟩
    have : ¬ (q : Int) < ds.length := by omega
    simp [b__law_draw, hk, hm, atI, ixN]
end


theorem badB_ok {z : Str} (h : badB z = true) : ∃ S, lexS (Tx z) = some S ∧ rdI S = -1 := by
  unfold badB at h
  split at h
  · rename_i S e; exact ⟨S, e, by simpa using h⟩
  · cases h
theorem goodB_ok {z : Str} (h : goodB z = true) : ∃ S, lexS (Tx z) = some S ∧ rdI S = S.length := by
  unfold goodB at h
  split at h
  · rename_i S e; exact ⟨S, e, by simpa using h⟩
  · cases h
/-! ### the law -/
abbrev lawR (s : W) (t a b c : Option W) : Xs.Env := [some s, some (.l 0), t, a, b, c]
section
variable {ds : List Int} {q : Nat} {rest : List O}
theorem pick {α : Type} {xs : List α} {v : Int} (h0 : 0 ≤ v) (h1 : v < xs.length) : ∃ x, x ∈ xs ∧ atI xs v = some x := by
  obtain ⟨n, rfl⟩ := Int.eq_ofNat_of_zero_le h0
  have hn : n < xs.length := by omega
  exact ⟨xs[n], List.getElem_mem hn, Xs.atI_nat hn⟩
theorem turn {s : W} {t a b c : Option W} : ∃ a' b' q', l1_law (lawR s t a b c) (bx ds q rest) = .nx (lawR s t a' b' c) (bx ds q' rest) := by
  obtain ⟨v, v0, v1, ev⟩ := draw_eq (ds := ds) (q := q) (m := 900) (rest := rest) (by decide)
  obtain ⟨u, u0, u1, eu⟩ := draw_eq (ds := ds) (q := q + 1) (m := 900) (rest := rest) (by decide)
  have lw : wrS.length = 49 := rfl
  have ln : nrS.length = 25 := rfl
  obtain ⟨y, hy, ey⟩ := pick (xs := wrS.map fun z => W.d (.str z)) (v := v % 49) (Int.emod_nonneg _ (by decide)) (by rw [List.length_map, lw]; exact Int.emod_lt_of_pos _ (by decide))
  obtain ⟨z, hz, rfl⟩ := List.mem_map.mp hy
  obtain ⟨x, hx, ex⟩ := pick (xs := nrS.map fun z => W.d (.str z)) (v := u % 25) (Int.emod_nonneg _ (by decide)) (by rw [List.length_map, ln]; exact Int.emod_lt_of_pos _ (by decide))
  obtain ⟨w, hw, rfl⟩ := List.mem_map.mp hx
  obtain ⟨z1, z2, z3⟩ := wr_told z hz
  obtain ⟨w1, w2⟩ := nr_told w hw
  have weq := wrong_eq (h := bx ds q rest)
  have weq2 := wrong_eq (h := bx ds (q + 1) rest)
  have neq := near_eq (h := bx ds (q + 1) rest)
  have neq2 := near_eq (h := bx ds (q + 2) rest)
  have ll : wrS.length ≤ lim := lim_of (by rw [lw]; decide)
  have ll2 : nrS.length ≤ lim := lim_of (by rw [ln]; decide)
  have s1 : sSet 3 (xBin fIx (xApp F__law_wrong xNil) (xBin fMod (xApp (f1 fInt) (xCons (xApp F__law_draw (xCons (xVar 1) (xCons (xC (.int 900)) xNil))) xNil)) (xApp (f1 fLen) (xCons (xApp F__law_wrong xNil) xNil)))) (lawR s t a b c) (bx ds q rest) = .nx (lawR s t (some (.d (.str z))) b c) (bx ds (q + 1) rest) := by
    clear hy hz ll2 ln
    generalize wrS = L at weq weq2 ll lw ey
    have ey' : atI (List.map (W.d ∘ D.str) L) (v % 49) = some (.d (.str z)) := ey
    simp [weq, weq2, ev, ll, lw, ey']
  obtain ⟨S1, l1, i1⟩ := badB_ok z2
  have r1 := rdt_eq l1 (i := 3) (r := lawR s t (some (.d (.str z))) b c) (st := bx ds (q + 1) rest) rfl
  rw [i1] at r1
  have s2 : (sIf (xTest (xBin fNe (xApp F__law_read (xCons (xApp F_split_line (xCons (xVar 3) xNil)) xNil)) (xUn fNeg (xC (.int 1))))) (sRet (xC (.bl false))) sSkip) (lawR s t (some (.d (.str z))) b c) (bx ds (q + 1) rest) = .nx (lawR s t (some (.d (.str z))) b c) (bx ds (q + 1) rest) := by
    generalize xApp F__law_read (xCons (xApp F_split_line (xCons (xVar 3) xNil)) xNil) = X at r1
    simp [r1]
  have s3 : (sIf (xAnd (xTest (xBin fNe (xVar 3) (xC (.str "")))) (xAnd (xTest (xBin fNe (xApp F__law_read (xCons (xApp F_split_line (xCons (xBin fAddS (xBin fAddS (xC (.str "eq(a, ")) (xVar 3)) (xC (.str ")"))) xNil)) xNil)) (xUn fNeg (xC (.int 1))))) (xTest (xBin (fInL true) (xVar 3) (xApp mkTup (xCons (xC (.str "add(a, b, c)")) xNil)))))) (sRet (xC (.bl false))) sSkip) (lawR s t (some (.d (.str z))) b c) (bx ds (q + 1) rest) = .nx (lawR s t (some (.d (.str z))) b c) (bx ds (q + 1) rest) := by
    rcases z3 with rfl | z3
    · simp
    · obtain ⟨S2, l2, i2⟩ := badB_ok z3
      have e2 : xBin fAddS (xBin fAddS (xC (.str "eq(a, ")) (xVar 3)) (xC (.str ")")) (lawR s t (some (.d (.str z))) b c) (bx ds (q + 1) rest) = .ok (.d (.str (wrapS z))) (bx ds (q + 1) rest) := by
        have l6 : (Str.ofString "eq(a, ").length = 6 := by decide
        have l7 : (Str.ofString ")").length = 1 := by decide
        refine addS_ok (addS_ok rfl rfl (by omega)) rfl ?_
        rw [Str.length_append]
        omega
      obtain ⟨a2, b2, c2⟩ := lexS_ok l2 (st := bx ds (q + 1) rest)
      have f2 := lread_eq b2 c2 (h := bx ds (q + 1) rest)
      rw [i2] at f2
      have a2' : F_split_line [.d (.str (wrapS z))] (bx ds (q + 1) rest) = .ok (.d (.lst (S2.map Sg.d))) (bx ds (q + 1) rest) := by rw [← mk_Tx (wrapS z)]; exact a2
      have r2 : xApp F__law_read (xCons (xApp F_split_line (xCons (xBin fAddS (xBin fAddS (xC (.str "eq(a, ")) (xVar 3)) (xC (.str ")"))) xNil)) xNil) (lawR s t (some (.d (.str z))) b c) (bx ds (q + 1) rest) = .ok (.d (.int (-1))) (bx ds (q + 1) rest) := by
        generalize xBin fAddS (xBin fAddS (xC (.str "eq(a, ")) (xVar 3)) (xC (.str ")")) = X at e2
        generalize wrapS z = Y at e2 a2'
        generalize S2.map Sg.d = L at f2 a2'
        simp [e2, a2', f2]
      generalize xApp F__law_read (xCons (xApp F_split_line (xCons (xBin fAddS (xBin fAddS (xC (.str "eq(a, ")) (xVar 3)) (xC (.str ")"))) xNil)) xNil) = X at r2
      generalize xBin (fInL true) (xVar 3) (xApp mkTup (xCons (xC (.str "add(a, b, c)")) xNil)) = Y
      by_cases hz0 : z = Xs.mk []
      · simp [hz0]
      · simp [hz0, r2]
  have s4 : sSet 4 (xBin fIx (xApp F__law_near xNil) (xBin fMod (xApp (f1 fInt) (xCons (xApp F__law_draw (xCons (xVar 1) (xCons (xC (.int 900)) xNil))) xNil)) (xApp (f1 fLen) (xCons (xApp F__law_near xNil) xNil)))) (lawR s t (some (.d (.str z))) b c) (bx ds (q + 1) rest) = .nx (lawR s t (some (.d (.str z))) (some (.d (.str w))) c) (bx ds (q + 2) rest) := by
    clear hx hw ll lw
    generalize nrS = L at neq neq2 ll2 ln ex
    have ex' : atI (List.map (W.d ∘ D.str) L) (u % 25) = some (.d (.str w)) := ex
    simp [neq, neq2, eu, ll2, ln, ex']
  obtain ⟨S3, l3, i3⟩ := goodB_ok w2
  obtain ⟨a3, b3, c3⟩ := lexS_ok l3 (st := bx ds (q + 2) rest)
  have r3 := rdt_eq l3 (i := 4) (r := lawR s t (some (.d (.str z))) (some (.d (.str w))) c) (st := bx ds (q + 2) rest) rfl
  rw [i3] at r3
  have a3' : F_split_line [.d (.str w)] (bx ds (q + 2) rest) = .ok (.d (.lst (S3.map Sg.d))) (bx ds (q + 2) rest) := by rw [← mk_Tx w]; exact a3
  have s5 : (sIf (xTest (xBin fNe (xApp F__law_read (xCons (xApp F_split_line (xCons (xVar 4) xNil)) xNil)) (xApp (f1 fLen) (xCons (xApp F_split_line (xCons (xVar 4) xNil)) xNil)))) (sRet (xC (.bl false))) sSkip) (lawR s t (some (.d (.str z))) (some (.d (.str w))) c) (bx ds (q + 2) rest) = .nx (lawR s t (some (.d (.str z))) (some (.d (.str w))) c) (bx ds (q + 2) rest) := by
    have hl : S3.length ≤ lim := lim_of (by omega)
    have hl' : (S3.map Sg.d).length = S3.length := List.length_map _
    generalize S3.map Sg.d = L at a3' hl'
    generalize xApp F__law_read (xCons (xApp F_split_line (xCons (xVar 4) xNil)) xNil) = X at r3
    simp [r3, a3', hl', hl]
  refine ⟨some (.d (.str z)), some (.d (.str w)), q + 2, ?_⟩
  unfold l1_law
  rw [seq_nx s1, seq_nx s2, seq_nx s3, seq_nx s4, s5]
end
theorem good (ns : List Int) (hl : ns.length ≤ 63) (hb : ∀ z ∈ ns, Builtin.Int.intBits z ≤ 1048576) : Good F_law ns := by
  refine ⟨⟨[], true⟩, fnI_go rfl rfl ?_⟩
  show closeI ⟨[], true⟩ (b_law [some (.s (ns.map .int)), none, none, none, none, none] ⟨[], true⟩) = _
  obtain ⟨ds, hds, hd⟩ := digits_eq (ns := ns) (h := ⟨[], true⟩)
  have s1 : sSet 1 (xApp mkNew (xCons (xApp F__law_digits (xCons (xVar 0) (xCons (xC (.int 0)) (xCons (xC (.int 20)) xNil)))) (xCons (xC (.int 0)) xNil))) [some (.s (ns.map .int)), none, none, none, none, none] ⟨[], true⟩ = .nx (lawR (.s (ns.map .int)) none none none none) (bx ds 0) := by
    simp [hd]
  obtain ⟨r', h', ⟨tn, a, b, q, rfl, rfl⟩, ee⟩ := for_run (tg := gN 2) (body := l1_law) (ws := upInts 0 6) (r := lawR (.s (ns.map .int)) none none none none) (h := bx ds 0)
    (fun i r h => ∃ tn a b q, r = lawR (.s (ns.map .int)) tn a b none ∧ h = bx ds q) ⟨none, none, none, 0, rfl, rfl⟩ (by
    rintro i w r h hw ⟨tn, a, b, q, rfl, rfl⟩
    obtain ⟨a', b', q', et⟩ := turn (ds := ds) (rest := []) (s := .s (ns.map .int)) (t := some w) (a := a) (b := b) (c := none) (q := q)
    exact ⟨_, _, _, rfl, et, _, _, _, _, rfl, rfl⟩)
  have k := sFor_up1 (a := (xCons (xC (.int 6)) xNil)) (tg := gN 2) (b := l1_law) (r := lawR (.s (ns.map .int)) none none none none) (h := bx ds 0) (h1 := bx ds 0) (n := 6) (by simp) (by decide)
  simp only [upInts_length] at ee
  rw [ee] at k
  obtain ⟨g1, g2⟩ := calls_told
  obtain ⟨S4, l4, i4⟩ := goodB_ok g1
  obtain ⟨S5, l5, i5⟩ := badB_ok g2
  obtain ⟨a4, b4, c4⟩ := lexS_ok l4 (st := bx ds q)
  obtain ⟨a5, b5, c5⟩ := lexS_ok l5 (st := bx ds q)
  have f4 := lread_eq b4 c4 (h := bx ds q)
  have f5 := lread_eq b5 c5 (h := bx ds q)
  rw [i4] at f4
  rw [i5] at f5
  have x4 := calls_eq (n := 10) (h := bx ds q)
  have x5 := calls_eq (n := 11) (h := bx ds q)
  rw [if_pos rfl] at x4
  rw [if_neg (by decide)] at x5
  have up : ∀ {z : Str} {L : List D} {h : Sto}, F_split_line [Xs.wT (Tx z)] h = .ok (.d (.lst L)) h → F_split_line [.d (.str z)] h = .ok (.d (.lst L)) h := fun {z L h} e => by
    rw [← mk_Tx z]; exact e
  replace a4 := up a4
  replace a5 := up a5
  have hl4 : S4.length ≤ lim := lim_of (by omega)
  have hl4' : (S4.map Sg.d).length = S4.length := List.length_map _
  unfold b_law
  rw [seq_nx s1, seq_nx k]
  clear l4 l5 g1 g2 k s1 ee hd
  generalize S4.map Sg.d = L4 at a4 f4 hl4'
  generalize S5.map Sg.d = L5 at a5 f5
  generalize callS (Str.ofString "), and(not(a), b))") = P at a4 x4
  generalize callS (Str.ofString "), and(not(a), not(b)))") = Q at a5 x5
  have x4' : F__law_calls [.d (.int 10)] (bx ds q) = .ok (.d (.str P)) (bx ds q) := x4
  have x5' : F__law_calls [.d (.int 11)] (bx ds q) = .ok (.d (.str Q)) (bx ds q) := x5
  have s2 : sSet 5 (xApp F_split_line (xCons (xApp F__law_calls (xCons (xC (.int 10)) xNil)) xNil)) (lawR (.s (ns.map .int)) tn a b none) (bx ds q) = .nx (lawR (.s (ns.map .int)) tn a b (some (.d (.lst L4)))) (bx ds q) := by
    simp [x4', a4]
  rw [seq_nx s2]
  simp [f4, hl4', hl4, x5', a5, f5]

end
end Lk03

open PySem PySem.W PyProof.Rows
local macro_rules | `(tactic| o_head ($_ $K $a $e)) => `(tactic| o_head (PySem.W.kmHook $K $a $e [63, 70, 105, 118]))
set_option maxRecDepth 100000 in
set_option maxHeartbeats 0 in
theorem PySem.Challenge.cw_remoteviews_k03_no_expressions_holds : PySem.Challenge.rw_remoteviews_k03_no_expressions.Holds := by
  w_on; o_law; k_head; (case hw => w_witness2)
  k_fill
  refine Xs.law_endT (l := PySem.Challenge.rw_remoteviews_k03_no_expressions) (n := 63) (k := 29) (x := "_law_script") (F := Lk03.F_law) rfl (by decide) rfl ⟨rfl, by decide, by decide⟩ (fun w h Y => PySem.W.km_in_of Y) ?F (fun ns hl hb => Lk03.good ns hl hb)
  case F =>
    intro w mg fa h Y KX G hmg
    refine' Lk03.all_mk KX G hmg ?A_Reading ?pg_Reading ?hd_Reading ?po_Reading ?sa_Reading ?mk_Reading ?kc_Reading ?A_BadSigns ?A_BadExpression ?A_ViewError ?em_ViewError_Reading ?xL_BadSigns ?xR_BadSigns ?xS_BadSigns ?xB_BadSigns ?xT_BadSigns ?xK_BadSigns ?xI_BadSigns ?xU_BadSigns ?xF_BadSigns ?xC_BadSigns ?xE_BadSigns ?xD_BadSigns ?xV_BadSigns ?xG_BadSigns ?xH_BadSigns ?xJ_BadSigns ?xM_BadSigns ?xP_BadSigns ?xQ_BadSigns ?xO_BadSigns ?xN1_BadSigns ?xg_BadSigns ?xk_BadSigns ?xd_BadSigns ?xa_BadSigns ?xn_BadSigns ?xt_BadSigns ?xm_BadSigns ?em_ViewError_BadSigns ?ki_ValueError_BadSigns ?xq_BadExpression ?xB_BadExpression ?xT_BadExpression ?xK_BadExpression ?xg_BadExpression ?xk_BadExpression ?xd_BadExpression ?xa_BadExpression ?xn_BadExpression ?xt_BadExpression ?xm_BadExpression ?em_ViewError_BadExpression ?ki_BadExpression_BadExpression ?ki_ValueError_BadExpression ?V_CALLS_MOST ?V_CHARACTERS ?V_DEPTH_MOST ?V_DIGITS ?V_INTEGER_MOST ?V_KEY_MOST ?V_LETTERS ?V_MAP_MOST ?V_MARKS ?V_NAME_MOST ?V_NUMBER_DIGITS ?V_RUN ?V_TEXT_MOST ?D_ESCAPES ?DL_ESCAPES ?DK_ESCAPES ?DV_ESCAPES_0 ?DV_ESCAPES_1 ?DV_ESCAPES_2 ?DS_ESCAPES ?DY_ESCAPES ?D_NONE ?DC_NONE ?D_RESERVED ?DC_RESERVED ?D_WORDS ?DL_WORDS ?DK_WORDS ?DS_WORDS ?DE_WORDS ?D_ARGUMENTS ?DL_ARGUMENTS ?DK_ARGUMENTS ?DS_ARGUMENTS ?DE_ARGUMENTS ?na_Reading_at ?na_Reading_calls ?na_Reading_signs ?A0 ?l0 ?c0 ?k0 ?A1 ?l1 ?c1 ?tt1 ?th1 ?tn1 ?ty1 ?k1 ?A2 ?l2 ?c2 ?tt2 ?th2 ?tn2 ?ty2 ?k2 ?A3 ?l3 ?c3 ?k3 ?A4 ?l4 ?c4 ?k4 ?A5 ?l5 ?c5 ?k5 ?A6 ?l6 ?c6 ?k6 ?A7 ?l7 ?c7 ?k7 ?A8 ?l8 ?c8 ?k8 ?A9 ?i9 ?l9 ?c9 ?k9 ?A10 ?i10 ?l10 ?c10 ?k10 ?A11 ?i11 ?l11 ?c11 ?k11 ?A12 ?l12 ?c12 ?k12 ?A13 ?l13 ?c13 ?tt13 ?th13 ?tn13 ?ty13 ?k13 ?A14 ?l14 ?c14 ?k14 ?A15 ?l15 ?c15 ?k15 ?A16 ?l16 ?c16 ?k16 ?A17 ?i17 ?l17 ?c17 ?k17 ?A18 ?i18 ?l18 ?c18 ?k18 ?A19 ?i19 ?l19 ?c19 ?k19 ?A20 ?l20 ?c20 ?k20 ?A21 ?l21 ?c21 ?k21 ?A22 ?l22 ?c22 ?tt22 ?th22 ?tn22 ?ty22 ?k22 ?A23 ?l23 ?c23 ?k23 ?A24 ?l24 ?c24 ?k24 ?A25 ?l25 ?c25 ?k25 ?A26 ?l26 ?c26 ?k26 ?A27 ?l27 ?c27 ?k27 ?A28 ?l28 ?c28 ?k28 ?A29 ?l29 ?c29 ?k29 ?A30 ?l30 ?c30 ?k30 ?A31 ?l31 ?c31 ?k31 ?z_ValueError ?z_all ?z_bool ?z_int ?z_isinstance ?z_len ?z_range ?z_str ?z_super ?z_tuple
    (case A_Reading => k_is); (case pg_Reading => k_is); (case hd_Reading => k_is); (case po_Reading => k_is); (case sa_Reading => k_is); (case mk_Reading => k_is)
    (case kc_Reading => k_is); (case A_BadSigns => k_is); (case A_BadExpression => k_is); (case A_ViewError => k_is); (case em_ViewError_Reading => kernel_rfl); (case xL_BadSigns => k_is)
    (case xR_BadSigns => kernel_rfl); (case xS_BadSigns => k_is); (case xB_BadSigns => k_is); (case xT_BadSigns => k_is); (case xK_BadSigns => k_is); (case xI_BadSigns => k_is)
    (case xU_BadSigns => k_is); (case xF_BadSigns => k_is); (case xC_BadSigns => k_is); (case xE_BadSigns => k_is); (case xD_BadSigns => k_is); (case xV_BadSigns => rfl)
    (case xG_BadSigns => kernel_rfl); (case xH_BadSigns => kernel_rfl); (case xJ_BadSigns => k_is); (case xM_BadSigns => k_is); (case xP_BadSigns => kernel_rfl); (case xQ_BadSigns => k_is)
    (case xO_BadSigns => k_is); (case xN1_BadSigns => k_is); (case xg_BadSigns => k_is); (case xk_BadSigns => k_is); (case xd_BadSigns => k_is); (case xa_BadSigns => k_is)
    (case xn_BadSigns => k_is); (case xt_BadSigns => k_is); (case xm_BadSigns => k_is); (case em_ViewError_BadSigns => kernel_rfl); (case ki_ValueError_BadSigns => kernel_rfl); (case xq_BadExpression => kernel_rfl)
    (case xB_BadExpression => k_is); (case xT_BadExpression => k_is); (case xK_BadExpression => k_is); (case xg_BadExpression => k_is); (case xk_BadExpression => k_is); (case xd_BadExpression => k_is)
    (case xa_BadExpression => k_is); (case xn_BadExpression => k_is); (case xt_BadExpression => k_is); (case xm_BadExpression => k_is); (case em_ViewError_BadExpression => kernel_rfl); (case ki_BadExpression_BadExpression => kernel_rfl)
    (case ki_ValueError_BadExpression => kernel_rfl); (case V_CALLS_MOST => k_is); (case V_CHARACTERS => k_is); (case V_DEPTH_MOST => k_is); (case V_DIGITS => k_is); (case V_INTEGER_MOST => k_is)
    (case V_KEY_MOST => k_is); (case V_LETTERS => k_is); (case V_MAP_MOST => k_is); (case V_MARKS => k_is); (case V_NAME_MOST => k_is); (case V_NUMBER_DIGITS => k_is)
    (case V_RUN => k_is); (case V_TEXT_MOST => k_is); (case D_ESCAPES => k_is); (case DL_ESCAPES => k_is); (case DK_ESCAPES => (repeat' (first | exact trivial | refine And.intro ⟨_, _, rfl, rfl⟩ ?_))); (case DV_ESCAPES_0 => k_is)
    (case DV_ESCAPES_1 => k_is); (case DV_ESCAPES_2 => k_is); (case DS_ESCAPES => kernel_rfl); (case DY_ESCAPES => exact ⟨⟨_, rfl⟩, ⟨_, rfl⟩, ⟨⟨_, rfl⟩, ⟨_, rfl⟩, ⟨⟨_, rfl⟩, ⟨_, rfl⟩, trivial⟩⟩⟩); (case D_NONE => k_is); (case DC_NONE => exact (show Xs.kd _ _ (.ref _) = some Lk03.D_NONE from by kernel_rfl))
    (case D_RESERVED => k_is); (case DC_RESERVED => exact (show Xs.kd _ _ (.ref _) = some Lk03.D_RESERVED from by kernel_rfl)); (case D_WORDS => k_is); (case DL_WORDS => k_is); (case DK_WORDS => (repeat' (first | exact trivial | refine And.intro ⟨_, _, rfl, rfl⟩ ?_))); (case DS_WORDS => kernel_rfl)
    (case DE_WORDS => exact (show Xs.kdE _ _ _ = some Lk03.D_WORDS from by kernel_rfl)); (case D_ARGUMENTS => k_is); (case DL_ARGUMENTS => k_is); (case DK_ARGUMENTS => (repeat' (first | exact trivial | refine And.intro ⟨_, _, rfl, rfl⟩ ?_))); (case DS_ARGUMENTS => kernel_rfl); (case DE_ARGUMENTS => exact (show Xs.kdE _ _ _ = some Lk03.D_ARGUMENTS from by kernel_rfl))
    (case na_Reading_at => k_is); (case na_Reading_calls => k_is); (case na_Reading_signs => k_is); (case A0 => k_is); (case l0 => k_is); (case c0 => k_is)
    (case k0 => k_is); (case A1 => k_is); (case l1 => k_is); (case c1 => k_is); (case tt1 => exact (show Xs.tabAtC _ _ = some 63 from by kernel_rfl)); (case th1 => kernel_rfl)
    (case tn1 => kernel_rfl); (case ty1 => exact PySem.W.km_tabs_of Y _ (by first | k_mem | simp)); (case k1 => k_is); (case A2 => k_is); (case l2 => k_is); (case c2 => k_is)
    (case tt2 => exact (show Xs.tabAtC _ _ = some 118 from by kernel_rfl)); (case th2 => kernel_rfl); (case tn2 => kernel_rfl); (case ty2 => exact PySem.W.km_tabs_of Y _ (by first | k_mem | simp)); (case k2 => k_is); (case A3 => k_is)
    (case l3 => k_is); (case c3 => k_is); (case k3 => k_is); (case A4 => k_is); (case l4 => k_is); (case c4 => k_is)
    (case k4 => k_is); (case A5 => k_is); (case l5 => k_is); (case c5 => k_is); (case k5 => k_is); (case A6 => k_is)
    (case l6 => k_is); (case c6 => k_is); (case k6 => k_is); (case A7 => k_is); (case l7 => k_is); (case c7 => k_is)
    (case k7 => k_is); (case A8 => k_is); (case l8 => k_is); (case c8 => k_is); (case k8 => k_is); (case A9 => k_is)
    (case i9 => k_is); (case l9 => k_is); (case c9 => k_is); (case k9 => k_is); (case A10 => k_is); (case i10 => k_is)
    (case l10 => k_is); (case c10 => k_is); (case k10 => k_is); (case A11 => k_is); (case i11 => k_is); (case l11 => k_is)
    (case c11 => k_is); (case k11 => k_is); (case A12 => k_is); (case l12 => k_is); (case c12 => k_is); (case k12 => k_is)
    (case A13 => k_is); (case l13 => k_is); (case c13 => k_is); (case tt13 => exact (show Xs.tabAtC _ _ = some 70 from by kernel_rfl)); (case th13 => kernel_rfl); (case tn13 => kernel_rfl)
    (case ty13 => exact PySem.W.km_tabs_of Y _ (by first | k_mem | simp)); (case k13 => k_is); (case A14 => k_is); (case l14 => k_is); (case c14 => k_is); (case k14 => k_is)
    (case A15 => k_is); (case l15 => k_is); (case c15 => k_is); (case k15 => k_is); (case A16 => k_is); (case l16 => k_is)
    (case c16 => k_is); (case k16 => k_is); (case A17 => k_is); (case i17 => k_is); (case l17 => k_is); (case c17 => k_is)
    (case k17 => k_is); (case A18 => k_is); (case i18 => k_is); (case l18 => k_is); (case c18 => k_is); (case k18 => k_is)
    (case A19 => k_is); (case i19 => k_is); (case l19 => k_is); (case c19 => k_is); (case k19 => k_is); (case A20 => k_is)
    (case l20 => k_is); (case c20 => k_is); (case k20 => k_is); (case A21 => k_is); (case l21 => k_is); (case c21 => k_is)
    (case k21 => k_is); (case A22 => k_is); (case l22 => k_is); (case c22 => k_is); (case tt22 => exact (show Xs.tabAtC _ _ = some 105 from by kernel_rfl)); (case th22 => kernel_rfl)
    (case tn22 => kernel_rfl); (case ty22 => exact PySem.W.km_tabs_of Y _ (by first | k_mem | simp)); (case k22 => k_is); (case A23 => k_is); (case l23 => k_is); (case c23 => k_is)
    (case k23 => k_is); (case A24 => k_is); (case l24 => k_is); (case c24 => k_is); (case k24 => k_is); (case A25 => k_is)
    (case l25 => k_is); (case c25 => k_is); (case k25 => k_is); (case A26 => k_is); (case l26 => k_is); (case c26 => k_is)
    (case k26 => k_is); (case A27 => k_is); (case l27 => k_is); (case c27 => k_is); (case k27 => k_is); (case A28 => k_is)
    (case l28 => k_is); (case c28 => k_is); (case k28 => k_is); (case A29 => k_is); (case l29 => k_is); (case c29 => k_is)
    (case k29 => k_is); (case A30 => k_is); (case l30 => k_is); (case c30 => k_is); (case k30 => k_is); (case A31 => k_is)
    (case l31 => k_is); (case c31 => k_is); (case k31 => k_is); (case z_ValueError => k_is); (case z_all => k_is); (case z_bool => k_is)
    (case z_int => k_is); (case z_isinstance => k_is); (case z_len => k_is); (case z_range => k_is); (case z_str => k_is); (case z_super => k_is)
    (case z_tuple => k_is)
#print axioms PySem.Challenge.cw_remoteviews_k03_no_expressions_holds
