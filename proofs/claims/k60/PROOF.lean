import PyProof.Rows.All
import Wide.All
import OpenK.AllK
import Wide.FinOn
import PyProof.EqAt
import PyProof.EqKinds
import PyProof.TupleCall
import HandS.Base
import HandS.Call
import HandS.List
import HandS.Comp
import HandS.Ends
import HandS.Dict
import HandS.Iter
import HandS.Text
import HandS.Words
import HandS.Star
import HandS.Wide
import HandS.Rev
import HandS.Zip
import HandS.TupAny
import HandS.Deep
import HandS.TupMul
import PyProof.StrBlock2
import PyProof.SliceStr2
import HandS.IsInst
import HandS.Style
import HandS.Defaults
import KE.KStateDown
import Lean
import HandS.More
import HandS.WordsExc
import HandS.Head0
import HandS.Head1
import HandS.Head2
import HandS.HeadEnd
import HandS.HeadHook1
import HandS.HeadHook2
import PySem.Challenge.RW_whichways_k60_whole_limits_are_roots_of
section
set_option Elab.async false
set_option linter.all false
set_option maxRecDepth 100000
set_option maxHeartbeats 4000000
/-! # The data layer: defs over plain data; lists that one slot owns are changed, all else is frozen. -/
namespace DL
open PySem PySem.Spec L2

inductive D where
  | non | bl (b : Bool) | int (i : Int) | str (s : List Nat) | lst (xs : List D) | tup (xs : List D) | dic (kvs : List (List Nat × D)) | fls (xs : List D)

def mkS (s : List Nat) : Str := ⟨s.toArray⟩

mutual
inductive Rp (K : PySem.W.Frag) (H : Hp) : V → D → Prop
  | non : Rp K H .non .non
  | bl (b : Bool) : Rp K H (.bl b) (.bl b)
  | int (i : Int) : Rp K H (.int i) (.int i)
  | str (s : List Nat) : Rp K H (.str (mkS s)) (.str s)
  | lst {a : Addr} {vs : List V} {ds : List D} : H a = some (.lst vs) → RpA K H vs ds → Rp K H (.ref a) (.lst ds)
  | fls {a : Addr} {vs : List V} {ds : List D} : SqL K H a vs → RpA K H vs ds → Rp K H (.ref a) (.fls ds)
  | tup {a : Addr} {vs : List V} {ds : List D} : SqT K H a vs → RpA K H vs ds → Rp K H (.ref a) (.tup ds)
  | dic {a : Addr} {kvs : List (Key × V)} {ds : List (List Nat × D)} : H a = some (.dK kvs) → RpK K H kvs ds → Rp K H (.ref a) (.dic ds)
inductive RpA (K : PySem.W.Frag) (H : Hp) : List V → List D → Prop
  | nil : RpA K H [] []
  | cons {v : V} {vs : List V} {d : D} {ds : List D} : Rp K H v d → RpA K H vs ds → RpA K H (v :: vs) (d :: ds)
inductive RpK (K : PySem.W.Frag) (H : Hp) : List (Key × V) → List (List Nat × D) → Prop
  | nil : RpK K H [] []
  | cons {k : List Nat} {v : V} {vs : List (Key × V)} {d : D} {ds : List (List Nat × D)} : Rp K H v d → RpK K H vs ds → RpK K H ((.inr (mkS k), v) :: vs) ((k, d) :: ds)
end

def Le (H H' : Hp) : Prop := ∀ b o, H b = some o → H' b = some o
theorem Le.refl (H : Hp) : Le H H := fun _ _ h => h
theorem Le.trans {H H1 H2 : Hp} (a : Le H H1) (b : Le H1 H2) : Le H H2 := fun c o h => b c o (a c o h)
theorem SqL.le {K : PySem.W.Frag} {H H' : Hp} {a : Addr} {xs : List V} (e : Le H H') (h : SqL K H a xs) : SqL K H' a xs := by
  rcases h with (h | ⟨o, h⟩) | h
  · exact .inl (.inl (e _ _ h))
  · exact .inl (.inr ⟨o, e _ _ h⟩)
  · exact .inr h
theorem SqT.le {K : PySem.W.Frag} {H H' : Hp} {a : Addr} {xs : List V} (e : Le H H') (h : SqT K H a xs) : SqT K H' a xs := by
  rcases h with (h | ⟨o, h⟩) | h
  · exact .inl (.inl (e _ _ h))
  · exact .inl (.inr ⟨o, e _ _ h⟩)
  · exact .inr h
section
variable {K : PySem.W.Frag} {H H' : Hp}
mutual
theorem Rp.le (e : Le H H') : ∀ {v : V} {d : D}, Rp K H v d → Rp K H' v d
  | _, _, .non => .non
  | _, _, .bl b => .bl b
  | _, _, .int i => .int i
  | _, _, .str s => .str s
  | _, _, .lst h r => .lst (e _ _ h) (RpA.le e r)
  | _, _, .fls h r => .fls (SqL.le e h) (RpA.le e r)
  | _, _, .tup h r => .tup (SqT.le e h) (RpA.le e r)
  | _, _, .dic h r => .dic (e _ _ h) (RpK.le e r)
theorem RpA.le (e : Le H H') : ∀ {vs : List V} {ds : List D}, RpA K H vs ds → RpA K H' vs ds
  | _, _, .nil => .nil
  | _, _, .cons r t => .cons (Rp.le e r) (RpA.le e t)
theorem RpK.le (e : Le H H') : ∀ {vs : List (Key × V)} {ds : List (List Nat × D)}, RpK K H vs ds → RpK K H' vs ds
  | _, _, .nil => .nil
  | _, _, .cons r t => .cons (Rp.le e r) (RpK.le e t)
end
theorem RpA.length : ∀ {vs : List V} {ds : List D}, RpA K H vs ds → vs.length = ds.length
  | _, _, .nil => rfl
  | _, _, .cons _ t => by simp [RpA.length t]
theorem RpA.get : ∀ {vs : List V} {ds : List D} {i : Nat} {d : D}, RpA K H vs ds → ds[i]? = some d → ∃ v, vs[i]? = some v ∧ Rp K H v d
  | _, _, _, _, .nil, e => by simp at e
  | _, _, 0, _, .cons r _, e => by simp at e; subst e; exact ⟨_, rfl, r⟩
  | _, _, i + 1, _, .cons _ t, e => by
    obtain ⟨v, h1, h2⟩ := RpA.get (i := i) t (by simpa using e)
    exact ⟨v, by simpa using h1, h2⟩
theorem RpA.getV : ∀ {vs : List V} {ds : List D} {i : Nat} {v : V}, RpA K H vs ds → vs[i]? = some v → ∃ d, ds[i]? = some d ∧ Rp K H v d
  | _, _, _, _, .nil, e => by simp at e
  | _, _, 0, _, .cons r _, e => by simp at e; subst e; exact ⟨_, rfl, r⟩
  | _, _, i + 1, _, .cons _ t, e => by
    obtain ⟨v, h1, h2⟩ := RpA.getV (i := i) t (by simpa using e)
    exact ⟨v, by simpa using h1, h2⟩
theorem RpA.append : ∀ {vs us : List V} {ds es : List D}, RpA K H vs ds → RpA K H us es → RpA K H (vs ++ us) (ds ++ es)
  | _, _, _, _, .nil, s => s
  | _, _, _, _, .cons r t, s => .cons r (RpA.append t s)
theorem RpA.take : ∀ {vs : List V} {ds : List D} (n : Nat), RpA K H vs ds → RpA K H (vs.take n) (ds.take n)
  | _, _, 0, _ => .nil
  | _, _, _ + 1, .nil => .nil
  | _, _, n + 1, .cons r t => .cons r (RpA.take n t)
theorem RpA.drop : ∀ {vs : List V} {ds : List D} (n : Nat), RpA K H vs ds → RpA K H (vs.drop n) (ds.drop n)
  | _, _, 0, r => r
  | _, _, _ + 1, .nil => .nil
  | _, _, n + 1, .cons _ t => RpA.drop n t
theorem RpA.set {v : V} {d : D} (r : Rp K H v d) : ∀ {vs : List V} {ds : List D} (i : Nat), RpA K H vs ds → RpA K H (vs.set i v) (ds.set i d)
  | _, _, _, .nil => .nil
  | _, _, 0, .cons _ t => .cons r t
  | _, _, i + 1, .cons q t => .cons q (RpA.set r i t)
theorem RpA.dropLast : ∀ {vs : List V} {ds : List D}, RpA K H vs ds → RpA K H vs.dropLast ds.dropLast := fun {vs ds} r => by
  rw [List.dropLast_eq_take, List.dropLast_eq_take, r.length]
  exact r.take _
theorem RpA.nil_inv {vs : List V} (r : RpA K H vs []) : vs = [] := by cases r; rfl
theorem RpA.rep {vs : List V} {ds : List D} (r : RpA K H vs ds) : ∀ n : Nat, RpA K H (List.replicate n vs).flatten (List.replicate n ds).flatten
  | 0 => .nil
  | n + 1 => by
    rw [List.replicate_succ, List.replicate_succ, List.flatten_cons, List.flatten_cons]
    exact r.append (RpA.rep r n)
theorem RpA.reverse {vs : List V} {ds : List D} (r : RpA K H vs ds) : RpA K H vs.reverse ds.reverse := by
  induction vs generalizing ds with
  | nil => cases r; exact .nil
  | cons v vs ih =>
    cases r with
    | cons r t =>
      rw [List.reverse_cons, List.reverse_cons]
      exact (ih t).append (.cons r .nil)
end

/-! ## slots, results -/
inductive Sl where
  | un | fz (d : D) | ow (ds : List D)
structure Ev where
  io : Bool
  sl : List Sl
inductive Res where
  | fz (d : D) | nw (ds : List D) | bw (i : Nat)
abbrev GE := Ev → Option (Res × Ev)

structure Rel (K : PySem.W.Frag) (G : Hp) (p0 : Addr) (σ : St) (H Hf : Hp) (ρ : Ev) : Prop where
  fh : Le Hf H
  gh : Le G H
  gf : ∀ b o, G b = some o → Hf b = none
  fz : ∀ (i : Nat) (d : D), ρ.sl[i]? = some (Sl.fz d) → ∃ v, σ[i]? = some (some v) ∧ Rp K Hf v d
  ow : ∀ (i : Nat) (ds : List D), ρ.sl[i]? = some (Sl.ow ds) → ∃ (p : Addr) (vs : List V), σ[i]? = some (some (V.ref p)) ∧ H p = some (.lst vs) ∧ Hf p = none ∧ G p = none ∧ RpA K Hf vs ds
  ap : ∀ (i j : Nat) (ds es : List D) (p : Addr), ρ.sl[i]? = some (Sl.ow ds) → ρ.sl[j]? = some (Sl.ow es) → σ[i]? = some (some (V.ref p)) → σ[j]? = some (some (V.ref p)) → i = j
  io : ρ.io = true → σ[0]? = some (some (V.ref p0)) ∧ ∃ ds, ρ.sl[0]? = some (Sl.ow ds)
  len : ρ.sl.length = σ.length

/-- no slot of the environment owns p -/
def Un1 (σ : St) (ρ : Ev) (p : Addr) : Prop := ∀ (i : Nat) (es : List D), ρ.sl[i]? = some (Sl.ow es) → σ[i]? ≠ some (some (V.ref p))

def RR (K : PySem.W.Frag) (G : Hp) (σ : St) (H Hf : Hp) (ρ : Ev) (v : V) : Res → Prop
  | .fz d => Rp K Hf v d
  | .nw ds => ∃ p vs, v = .ref p ∧ H p = some (.lst vs) ∧ Hf p = none ∧ G p = none ∧ RpA K Hf vs ds ∧ Un1 σ ρ p
  | .bw i => σ[i]? = some (some v) ∧ ∃ ds, ρ.sl[i]? = some (.ow ds)

section
variable {K : PySem.W.Frag} {G Hf H : Hp} {p0 : Addr} {σ : St} {ρ : Ev}
/-- a new object beside all: not frozen -/
theorem Rel.alloc (R : Rel K G p0 σ H Hf ρ) {p : Addr} {o : HO} (hp : H p = none) : Rel K G p0 σ (upd H p o) Hf ρ where
  fh := fun b u e => by
    have := R.fh b u e
    rw [upd_ne (ne_of_none this hp)]; exact this
  gh := fun b u e => by
    have := R.gh b u e
    rw [upd_ne (ne_of_none this hp)]; exact this
  gf := R.gf
  fz := R.fz
  ow := fun i ds e => by
    obtain ⟨q, vs, h1, h2, h3⟩ := R.ow i ds e
    exact ⟨q, vs, h1, by rw [upd_ne (ne_of_none h2 hp)]; exact h2, h3⟩
  ap := R.ap
  io := R.io
  len := R.len
theorem le_upd {H : Hp} {p : Addr} {o : HO} (hp : H p = none) : Le H (upd H p o) := fun b u e => by
  rw [upd_ne (ne_of_none e hp)]; exact e
/-- .. an object that no slot owns and that is not in the frame is frozen -/
theorem Rel.freeze (R : Rel K G p0 σ H Hf ρ) {p : Addr} {o : HO} (hp : H p = some o) (hf : Hf p = none) (hg : G p = none) (hu : Un1 σ ρ p) : Rel K G p0 σ H (upd Hf p o) ρ where
  fh := fun b u e => by
    by_cases z : b = p
    · subst z; rw [upd_same] at e; cases e; exact hp
    · rw [upd_ne z] at e; exact R.fh b u e
  gh := R.gh
  gf := fun b u e => by
    have n := R.gf b u e
    by_cases z : b = p
    · subst z; rw [hg] at e; cases e
    · rw [upd_ne z]; exact n
  fz := fun i d e => by
    obtain ⟨v, h1, h2⟩ := R.fz i d e
    exact ⟨v, h1, h2.le (le_upd hf)⟩
  ow := fun i ds e => by
    obtain ⟨q, vs, h1, h2, h3, h4, h5⟩ := R.ow i ds e
    have z : q ≠ p := fun z => hu i ds e (by rw [← z]; exact h1)
    exact ⟨q, vs, h1, h2, by rw [upd_ne z]; exact h3, h4, h5.le (le_upd hf)⟩
  ap := R.ap
  io := R.io
  len := R.len
theorem Rel.free_un (R : Rel K G p0 σ H Hf ρ) {p : Addr} (hp : H p = none) : Hf p = none ∧ G p = none ∧ Un1 σ ρ p := by
  refine ⟨?_, ?_, fun i es e z => ?_⟩
  · cases q : Hf p with
    | none => rfl
    | some o => rw [R.fh p o q] at hp; cases hp
  · cases q : G p with
    | none => rfl
    | some o => rw [R.gh p o q] at hp; cases hp
  · obtain ⟨q, vs, h1, h2, _⟩ := R.ow i es e
    rw [h1] at z; cases z; rw [hp] at h2; cases h2
/-- a new frozen object -/
theorem Rel.allocF (R : Rel K G p0 σ H Hf ρ) {p : Addr} {o : HO} (hp : H p = none) : Rel K G p0 σ (upd H p o) (upd Hf p o) ρ := by
  obtain ⟨h1, h2, h3⟩ := R.free_un hp
  exact (R.alloc hp).freeze upd_same h1 h2 h3
/-- p goes into the frame -/
theorem Rel.guard (R : Rel K G p0 σ H Hf ρ) {p : Addr} {o : HO} (hp : H p = some o) (hf : Hf p = none) (hu : Un1 σ ρ p) : Rel K (upd G p o) p0 σ H Hf ρ where
  fh := R.fh
  gh := fun b u e => by
    by_cases z : b = p
    · subst z; rw [upd_same] at e; cases e; exact hp
    · rw [upd_ne z] at e; exact R.gh b u e
  gf := fun b u e => by
    by_cases z : b = p
    · subst z; exact hf
    · rw [upd_ne z] at e; exact R.gf b u e
  fz := R.fz
  ow := fun i ds e => by
    obtain ⟨q, vs, h1, h2, h3, h4, h5⟩ := R.ow i ds e
    have z : q ≠ p := fun z => hu i ds e (by rw [← z]; exact h1)
    exact ⟨q, vs, h1, h2, h3, by rw [upd_ne z]; exact h4, h5⟩
  ap := R.ap
  io := R.io
  len := R.len
/-- .. and out of it -/
theorem Rel.unguard {p : Addr} {o : HO} (R : Rel K (upd G p o) p0 σ H Hf ρ) (hg : G p = none) : Rel K G p0 σ H Hf ρ ∧ H p = some o ∧ Hf p = none ∧ Un1 σ ρ p := by
  have le : Le G (upd G p o) := le_upd hg
  refine ⟨⟨R.fh, fun b u e => R.gh b u (le b u e), fun b u e => R.gf b u (le b u e), R.fz, fun i ds e => ?_, R.ap, R.io, R.len⟩, R.gh p o upd_same, R.gf p o upd_same, fun i es e z => ?_⟩
  · obtain ⟨q, vs, h1, h2, h3, h4, h5⟩ := R.ow i ds e
    refine ⟨q, vs, h1, h2, h3, ?_, h5⟩
    cases e : G q with
    | none => rfl
    | some u => rw [le q u e] at h4; cases h4
  · obtain ⟨q, vs, h1, _, _, h4, _⟩ := R.ow i es e
    rw [h1] at z; cases z
    rw [upd_same] at h4; cases h4
end

/-- an expression's reading by data -/
def tE (K : PySem.W.Frag) (g : GE) : TE := fun σ H Q => ∃ G p0 ρ Hf r ρ', Rel K G p0 σ H Hf ρ ∧ g ρ = some (r, ρ') ∧
  ∀ v H' Hf', Le Hf Hf' → Rel K G p0 σ H' Hf' ρ' → RR K G σ H' Hf' ρ' v r → Q v H'
abbrev DE (X : Cx) (e : Expr) (g : GE) : Prop := PE X e (tE X.K g)
theorem _root_.L2.PE.weak {X : Cx} {e : Expr} {t t' : TE} (h : PE X e t) (w : ∀ σ H Q, t' σ H Q → t σ H Q) : PE X e t' := ⟨fun pins s σ H Q I q => h.run pins s σ H Q I (w _ _ _ q)⟩
theorem _root_.L2.PT.weak {X : Cx} {e : Expr} {t t' : TT} (h : PT X e t) (w : ∀ σ H Q, t' σ H Q → t σ H Q) : PT X e t' := ⟨fun pins s σ H Q I q => h.run pins s σ H Q I (w _ _ _ q)⟩
theorem _root_.L2.PA.weak {X : Cx} {e : List Expr} {t t' : TA} (h : PA X e t) (w : ∀ σ H Q, t' σ H Q → t σ H Q) : PA X e t' := ⟨fun pos pins s σ H Q I q => h.run pos pins s σ H Q I (w _ _ _ q)⟩
theorem _root_.L2.PS.weak {X : Cx} {e : Stmt} {t t' : TS} (h : PS X e t) (w : ∀ D σ H, t' D σ H → t D σ H) : PS X e t' := ⟨fun pins s σ H D I q => h.run pins s σ H D I (w _ _ _ q)⟩
theorem _root_.L2.PSs.weak {X : Cx} {e : List Stmt} {t t' : TS} (h : PSs X e t) (w : ∀ D σ H, t' D σ H → t D σ H) : PSs X e t' := ⟨fun pins s σ H D I q => h.run pins s σ H D I (w _ _ _ q)⟩

/-- a value that stands for data: frozen, or a list whose items are frozen -/
def Dt (K : PySem.W.Frag) (H Hf : Hp) (v : V) (d : D) : Prop := Rp K Hf v d ∨ ∃ p vs ds, v = .ref p ∧ d = .lst ds ∧ H p = some (.lst vs) ∧ RpA K Hf vs ds
/-- the data of a result as it stands now -/
def slD : Option Sl → Option D
  | some (.ow ds) => some (.lst ds)
  | some (.fz d) => some d
  | _ => none
def dat (ρ : Ev) : Res → Option D
  | .fz d => some d
  | .nw ds => some (.lst ds)
  | .bw i => slD ρ.sl[i]?
section
variable {K : PySem.W.Frag} {G Hf H : Hp} {p0 : Addr} {σ : St} {ρ : Ev} {v : V}
theorem RR.dt {r : Res} {d : D} (R : Rel K G p0 σ H Hf ρ) (h : RR K G σ H Hf ρ v r) (e : dat ρ r = some d) : Dt K H Hf v d := by
  cases r with
  | fz d' => cases e; exact .inl h
  | nw ds =>
    cases e
    obtain ⟨p, vs, h1, h2, h3, h4, h5, h6⟩ := h
    exact .inr ⟨p, vs, ds, h1, rfl, h2, h5⟩
  | bw i =>
    obtain ⟨h1, ds, h2⟩ := h
    have e : slD ρ.sl[i]? = some d := e
    rw [h2] at e
    cases e
    obtain ⟨p, vs, g1, g2, g3, g4, g5⟩ := R.ow i ds h2
    rw [h1] at g1
    cases g1
    exact .inr ⟨p, vs, ds, rfl, rfl, g2, g5⟩
theorem Dt.lst {ds : List D} (hf : Le Hf H) (h : Dt K H Hf v (.lst ds)) : ∃ p vs, v = .ref p ∧ H p = some (.lst vs) ∧ RpA K Hf vs ds := by
  rcases h with h | ⟨p, vs, ds', h1, h2, h3, h4⟩
  · cases h with
    | lst a r => exact ⟨_, _, rfl, hf _ _ a, r⟩
  · cases h2
    exact ⟨p, vs, h1, h3, h4⟩
theorem Dt.fls {ds : List D} (hf : Le Hf H) (h : Dt K H Hf v (.fls ds)) : ∃ p vs, v = .ref p ∧ SqL K H p vs ∧ RpA K Hf vs ds := by
  rcases h with h | ⟨p, vs, ds', h1, h2, h3, h4⟩
  · cases h with
    | fls a r => exact ⟨_, _, rfl, SqL.le hf a, r⟩
  · cases h2
theorem Dt.dic {ds : List (List Nat × D)} (hf : Le Hf H) (h : Dt K H Hf v (.dic ds)) : ∃ p vs, v = .ref p ∧ H p = some (.dK vs) ∧ RpK K Hf vs ds := by
  rcases h with h | ⟨p, vs, ds', h1, h2, h3, h4⟩
  · cases h with
    | dic a r => exact ⟨_, _, rfl, hf _ _ a, r⟩
  · cases h2
theorem Dt.tup {ds : List D} (hf : Le Hf H) (h : Dt K H Hf v (.tup ds)) : ∃ p vs, v = .ref p ∧ SqT K H p vs ∧ RpA K Hf vs ds := by
  rcases h with h | ⟨p, vs, ds', h1, h2, h3, h4⟩
  · cases h with
    | tup a r => exact ⟨_, _, rfl, SqT.le hf a, r⟩
  · cases h2
theorem Dt.int {i : Int} (h : Dt K H Hf v (.int i)) : v = .int i := by
  rcases h with h | ⟨p, vs, ds', h1, h2, h3, h4⟩
  · cases h; rfl
  · cases h2
theorem Dt.bl {i : Bool} (h : Dt K H Hf v (.bl i)) : v = .bl i := by
  rcases h with h | ⟨p, vs, ds', h1, h2, h3, h4⟩
  · cases h; rfl
  · cases h2
theorem Dt.str {s : List Nat} (h : Dt K H Hf v (.str s)) : v = .str (mkS s) := by
  rcases h with h | ⟨p, vs, ds', h1, h2, h3, h4⟩
  · cases h; rfl
  · cases h2
theorem Dt.non (h : Dt K H Hf v .non) : v = .non := by
  rcases h with h | ⟨p, vs, ds', h1, h2, h3, h4⟩
  · cases h; rfl
  · cases h2
end

/-! ## what an operation hands back -/
inductive Rv where
  | val (d : D) | newL (ds : List D) | newT (ds : List D)
def FinR (K : PySem.W.Frag) (H Hf : Hp) : Rv → V → Hp → Prop
  | .val d, v, H' => H' = H ∧ Rp K Hf v d
  | .newL ds, v, H' => ∃ p vs, v = .ref p ∧ H p = none ∧ RpA K Hf vs ds ∧ H' = upd H p (.lst vs)
  | .newT ds, v, H' => (∃ p vs, v = .ref p ∧ H p = none ∧ RpA K Hf vs ds ∧ H' = upd H p (.tup vs)) ∨ (H' = H ∧ Rp K Hf v (.tup ds))
def Rv.res : Rv → Res
  | .val d => .fz d
  | .newL ds => .nw ds
  | .newT ds => .fz (.tup ds)
theorem fin_ok {K : PySem.W.Frag} {G Hf H H' : Hp} {p0 : Addr} {σ : St} {ρ : Ev} {v : V} {r : Rv} (R : Rel K G p0 σ H Hf ρ) (f : FinR K H Hf r v H') :
    ∃ Hf', Le Hf Hf' ∧ Rel K G p0 σ H' Hf' ρ ∧ RR K G σ H' Hf' ρ v r.res := by
  cases r with
  | val d =>
    obtain ⟨rfl, h⟩ := f
    exact ⟨Hf, Le.refl _, R, h⟩
  | newL ds =>
    obtain ⟨p, vs, rfl, hp, hr, rfl⟩ := f
    obtain ⟨h1, h2, h3⟩ := R.free_un hp
    exact ⟨Hf, Le.refl _, R.alloc hp, p, vs, rfl, upd_same, h1, h2, hr, h3⟩
  | newT ds =>
    rcases f with ⟨p, vs, rfl, hp, hr, rfl⟩ | ⟨rfl, h⟩
    · obtain ⟨h1, h2, h3⟩ := R.free_un hp
      exact ⟨_, le_upd h1, R.allocF hp, .tup (.inl (.inl upd_same)) (hr.le (le_upd h1))⟩
    · exact ⟨Hf, Le.refl _, R, h⟩

/-- a pending list is kept in the frame while other parts are evaluated -/
theorem keep_pending {K : PySem.W.Frag} {G Hf H : Hp} {p0 : Addr} {σ : St} {ρ : Ev} {v : V} {r : Res} (R : Rel K G p0 σ H Hf ρ) (h : RR K G σ H Hf ρ v r) :
    ∃ G1, Rel K G1 p0 σ H Hf ρ ∧ ∀ H' Hf' ρ' d, Le Hf Hf' → Rel K G1 p0 σ H' Hf' ρ' → dat ρ' r = some d → Rel K G p0 σ H' Hf' ρ' ∧ Dt K H' Hf' v d := by
  cases r with
  | fz d => exact ⟨G, R, fun H' Hf' ρ' d' le R' e => ⟨R', by cases e; exact .inl (h.le le)⟩⟩
  | nw ds =>
    obtain ⟨p, vs, h1, h2, h3, h4, h5, h6⟩ := h
    refine ⟨upd G p (.lst vs), R.guard h2 h3 h6, fun H' Hf' ρ' d' le R' e => ?_⟩
    obtain ⟨R2, g1, g2, g3⟩ := R'.unguard h4
    cases e
    exact ⟨R2, .inr ⟨p, vs, ds, h1, rfl, g1, h5.le le⟩⟩
  | bw i =>
    obtain ⟨h1, ds, h2⟩ := h
    refine ⟨G, R, fun H' Hf' ρ' d' le R' e => ⟨R', ?_⟩⟩
    have e : slD ρ'.sl[i]? = some d' := e
    cases q : ρ'.sl[i]? with
    | none => rw [q] at e; cases e
    | some x =>
      rw [q] at e
      cases x with
      | un => cases e
      | fz d =>
        cases e
        obtain ⟨w, g1, g2⟩ := R'.fz i _ q
        rw [h1] at g1; cases g1
        exact .inl g2
      | ow es =>
        cases e
        obtain ⟨p, vs, g1, g2, g3, g4, g5⟩ := R'.ow i es q
        rw [h1] at g1; cases g1
        exact .inr ⟨p, vs, es, rfl, rfl, g2, g5⟩

/-! ## expressions -/
def gVar (i : Nat) : GE := fun ρ => match ρ.sl[i]? with
  | some (.fz d) => some (.fz d, ρ)
  | some (.ow _) => some (.bw i, ρ)
  | _ => none
def gC (d : D) : GE := fun ρ => some (.fz d, ρ)
section
variable {X : Cx} {e a b : Expr} {pos : Pos}
theorem de_weak_var {i : Nat} (h : PE X e (tVar i)) : DE X e (gVar i) := h.weak fun σ H Q q => by
  obtain ⟨G, p0, ρ, Hf, r, ρ', R, eg, k⟩ := q
  unfold gVar at eg
  cases hs : ρ.sl[i]? with
  | none => rw [hs] at eg; cases eg
  | some x =>
    rw [hs] at eg
    cases x with
    | un => cases eg
    | fz d =>
      cases eg
      obtain ⟨v, h1, h2⟩ := R.fz i d hs
      exact ⟨v, h1, k v H Hf (Le.refl _) R h2⟩
    | ow ds =>
      cases eg
      obtain ⟨p, vs, h1, h2, h3, h4, h5⟩ := R.ow i ds hs
      exact ⟨_, h1, k _ H Hf (Le.refl _) R ⟨h1, ds, hs⟩⟩
theorem dv (i : Nat) {x : Str} (hN : X.N[i]? = some x := by rfl) (hv : Vis X.env.scope x := by first | exact Or.inl rfl | exact Or.inr (Or.inl rfl) | exact Or.inr (Or.inr rfl)) (hd : (x == ("__debug__" : Str)) = false := by decide)
    (hcd : (x == ("__classdict__" : Str)) = false := by decide) : DE X (.Name x pos) (gVar i) := de_weak_var (pe_var hN hv hd hcd)
theorem de_const {v : V} {d : D} (h : PE X e (tC v)) (r : ∀ Hf, Rp X.K Hf v d) : DE X e (gC d) := h.weak fun σ H Q q => by
  obtain ⟨G, p0, ρ, Hf, r', ρ', R, eg, k⟩ := q
  cases eg
  exact k v H Hf (Le.refl _) R (r Hf)
theorem de_int {i : Int} {j} : DE X (.Constant (.int i) j pos) (gC (.int i)) := de_const pe_int fun _ => .int i
theorem de_bl {i : Bool} {j} : DE X (.Constant (.bool i) j pos) (gC (.bl i)) := de_const pe_bl fun _ => .bl i
theorem de_non {j} : DE X (.Constant .none j pos) (gC .non) := de_const pe_non fun _ => .non
theorem de_str {s : List Nat} {x : Str} {j} (h : x = mkS s := by rfl) : DE X (.Constant (.str x) j pos) (gC (.str s)) := by
  subst h
  exact de_const pe_str fun _ => .str s

/-! ### two-place operations -/
structure OpS (X : Cx) (f : Value → Value → Sem Value) (op : D → D → Option Rv) : Prop where
  ex : ∃ r : R2, OpR X f r ∧ ∀ x y H Hf d1 d2 res (Q : VK), Le Hf H → Dt X.K H Hf x d1 → Dt X.K H Hf y d2 → op d1 d2 = some res → (∀ v H', FinR X.K H Hf res v H' → Q v H') → r x y H Q
def gBin (op : D → D → Option Rv) (ga gb : GE) : GE := fun ρ => (ga ρ).bind fun p1 => (gb p1.2).bind fun p2 => (dat p2.2 p1.1).bind fun d1 => (dat p2.2 p2.1).bind fun d2 => (op d1 d2).map fun r => (r.res, p2.2)
theorem bin_tE {K : PySem.W.Frag} {op : D → D → Option Rv} {ga gb : GE} {r : R2} (hr : ∀ x y H Hf d1 d2 res (Q : VK), Le Hf H → Dt K H Hf x d1 → Dt K H Hf y d2 → op d1 d2 = some res → (∀ v H', FinR K H Hf res v H' → Q v H') → r x y H Q)
    {σ : St} {H : Hp} {Q : VK} (q : tE K (gBin op ga gb) σ H Q) : tOp r (tE K ga) (tE K gb) σ H Q := by
  obtain ⟨G, p0, ρ, Hf, r', ρ', R, eg, k⟩ := q
  unfold gBin at eg
  simp only [Option.bind_eq_some_iff, Option.map_eq_some_iff, Prod.mk.injEq] at eg
  obtain ⟨⟨r1, ρ1⟩, e1, ⟨r2, ρ2⟩, e2, d1, e3, d2, e4, res, e5, rfl, rfl⟩ := eg
  refine ⟨G, p0, ρ, Hf, r1, ρ1, R, e1, fun x H1 Hf1 le1 R1 rr1 => ?_⟩
  obtain ⟨G1, R1', back⟩ := keep_pending R1 rr1
  refine ⟨G1, p0, ρ1, Hf1, r2, ρ2, R1', e2, fun y H2 Hf2 le2 R2 rr2 => ?_⟩
  obtain ⟨R3, dx⟩ := back H2 Hf2 ρ2 d1 le2 R2 e3
  have dy := rr2.dt R2 e4
  refine hr x y H2 Hf2 d1 d2 res _ R3.fh dx dy e5 fun v H' f => ?_
  obtain ⟨Hf3, le3, R4, rr⟩ := fin_ok R3 f
  exact k v H' Hf3 ((le1.trans le2).trans le3) R4 rr
theorem de_op {o : Operator} {op : D → D → Option Rv} {ga gb : GE} (ho : OpS X (binaryOp o) op) (ha : DE X a ga) (hb : DE X b gb) : DE X (.BinOp a o b pos) (gBin op ga gb) := by
  obtain ⟨r, h1, h2⟩ := ho.ex
  exact (pe_op h1 ha hb).weak fun σ H Q q => bin_tE h2 q
theorem OpS.or {f : Value → Value → Sem Value} {o1 o2 : D → D → Option Rv} (h1 : OpS X f o1) (h2 : OpS X f o2) : OpS X f (fun d e => (o1 d e).or (o2 d e)) := by
  obtain ⟨r1, a1, b1⟩ := h1.ex
  obtain ⟨r2, a2, b2⟩ := h2.ex
  refine ⟨_, a1.or a2, fun x y H Hf d1 d2 res Q le dx dy e k => ?_⟩
  cases q : o1 d1 d2 with
  | none =>
    have e' : (o1 d1 d2).or (o2 d1 d2) = some res := e
    rw [q] at e'
    exact .inr (b2 x y H Hf d1 d2 res Q le dx dy e' k)
  | some z =>
    have e' : (o1 d1 d2).or (o2 d1 d2) = some res := e
    rw [q] at e'
    cases e'
    exact .inl (b1 x y H Hf d1 d2 res Q le dx dy q k)
end
end DL
end

section
set_option Elab.async false
set_option linter.all false
set_option maxRecDepth 100000
set_option maxHeartbeats 4000000
/-! # Operations on data -/
namespace DL
open PySem PySem.Spec L2
section
variable {X : Cx}
theorem line_is : sizeLine = 16777216 := sizeLine_eq
theorem mkS_len (s : List Nat) : (mkS s).length = s.length := by show (s.toArray).size = _; simp
theorem mkS_app (s t : List Nat) : mkS s ++ mkS t = mkS (s ++ t) := by
  show (⟨s.toArray ++ t.toArray⟩ : Str) = ⟨(s ++ t).toArray⟩
  simp

def oI (f : Int → Int → Option Int) : D → D → Option Rv
  | .int i, .int j => (f i j).map fun k => .val (.int k)
  | _, _ => none
theorem opS_I {f : Value → Value → Sem Value} {C : Int → Int → Prop} {g : Int → Int → Int} (o : Int → Int → Option Int) (h : OpR X f (rI C fun i j => .int (g i j))) (ho : ∀ i j k, o i j = some k → C i j ∧ g i j = k) : OpS X f (oI o) := by
  refine ⟨_, h, fun x y H Hf d1 d2 res Q le dx dy e k => ?_⟩
  cases d1 with
  | int i =>
    cases d2 with
    | int j =>
      have e' : (o i j).map (fun k => Rv.val (.int k)) = some res := e
      cases q : o i j with
      | none => rw [q] at e'; cases e'
      | some z =>
        rw [q] at e'; cases e'
        obtain ⟨c, gz⟩ := ho i j z q
        exact ⟨i, j, dx.int, dy.int, c, k _ _ ⟨rfl, by show Rp _ _ (V.int (g i j)) _; rw [gz]; exact .int z⟩⟩
    | _ => cases e
  | _ => cases e
theorem opS_I0 {f : Value → Value → Sem Value} {g : Int → Int → Int} (h : OpR X f (rI0 fun i j => .int (g i j))) : OpS X f (oI fun i j => some (g i j)) := by
  refine ⟨_, h, fun x y H Hf d1 d2 res Q le dx dy e k => ?_⟩
  cases d1 with
  | int i =>
    cases d2 with
    | int j => cases e; exact ⟨i, j, dx.int, dy.int, k _ _ ⟨rfl, .int _⟩⟩
    | _ => cases e
  | _ => cases e
def oCmpI (p : Int → Int → Bool) : D → D → Option Rv
  | .int i, .int j => some (.val (.bl (p i j)))
  | _, _ => none
theorem opS_B {f : Value → Value → Sem Value} {p : Int → Int → Bool} (h : OpR X f (rI0 fun i j => .bl (p i j))) : OpS X f (oCmpI p) := by
  refine ⟨_, h, fun x y H Hf d1 d2 res Q le dx dy e k => ?_⟩
  cases d1 with
  | int i =>
    cases d2 with
    | int j => cases e; exact ⟨i, j, dx.int, dy.int, k _ _ ⟨rfl, .bl _⟩⟩
    | _ => cases e
  | _ => cases e

/-! ### + -/
def oAdd : D → D → Option Rv
  | .int i, .int j => some (.val (.int (i + j)))
  | .str s, .str t => if s.length + t.length ≤ 16777216 then some (.val (.str (s ++ t))) else none
  | .lst xs, .lst ys => if xs.length + ys.length ≤ 16777216 then some (.newL (xs ++ ys)) else none
  | .tup xs, .tup ys => if xs.length + ys.length ≤ 16777216 then some (.newT (xs ++ ys)) else none
  | _, _ => none
theorem op_addD : OpS X (binaryOp .Add) oAdd := by
  refine ⟨_, ((op_add.or op_add_str).or op_cat).or op_catA, fun x y H Hf d1 d2 res Q le dx dy e k => ?_⟩
  cases d1 with
  | int i =>
    cases d2 with
    | int j => cases e; exact .inl (.inl (.inl ⟨i, j, dx.int, dy.int, k _ _ ⟨rfl, .int _⟩⟩))
    | _ => cases e
  | str s =>
    cases d2 with
    | str t =>
      by_cases hz : s.length + t.length ≤ 16777216
      · have e' : (if s.length + t.length ≤ 16777216 then some (Rv.val (.str (s ++ t))) else none) = some res := e
        rw [if_pos hz] at e'; cases e'
        refine .inl (.inl (.inr ⟨_, _, dx.str, dy.str, ?_, ?_⟩))
        · rw [mkS_len, mkS_len, line_is]; exact hz
        · rw [mkS_app]; exact k _ _ ⟨rfl, .str _⟩
      · have e' : (if s.length + t.length ≤ 16777216 then some (Rv.val (.str (s ++ t))) else none) = some res := e
        rw [if_neg hz] at e'; cases e'
    | _ => cases e
  | lst xs =>
    cases d2 with
    | lst ys =>
      have e' : (if xs.length + ys.length ≤ 16777216 then some (Rv.newL (xs ++ ys)) else none) = some res := e
      by_cases hz : xs.length + ys.length ≤ 16777216
      · rw [if_pos hz] at e'; cases e'
        obtain ⟨p, vs, rfl, hp, hr⟩ := dx.lst le
        obtain ⟨q, us, rfl, hq, hs⟩ := dy.lst le
        refine .inl (.inr ⟨p, q, vs, us, rfl, rfl, hp, hq, by rw [hr.length, hs.length, line_is]; exact hz, fun l hl => k _ _ ⟨l, _, rfl, hl, hr.append hs, rfl⟩⟩)
      · rw [if_neg hz] at e'; cases e'
    | _ => cases e
  | tup xs =>
    cases d2 with
    | tup ys =>
      have e' : (if xs.length + ys.length ≤ 16777216 then some (Rv.newT (xs ++ ys)) else none) = some res := e
      by_cases hz : xs.length + ys.length ≤ 16777216
      · rw [if_pos hz] at e'; cases e'
        obtain ⟨p, vs, rfl, hp, hr⟩ := dx.tup le
        obtain ⟨q, us, rfl, hq, hs⟩ := dy.tup le
        have dxf : Rp X.K Hf (.ref p) (.tup xs) := by
          rcases dx with h | ⟨_, _, _, _, h, _⟩
          · exact h
          · cases h
        have dyf : Rp X.K Hf (.ref q) (.tup ys) := by
          rcases dy with h | ⟨_, _, _, _, h, _⟩
          · exact h
          · cases h
        refine .inr ⟨p, q, vs, us, rfl, rfl, hp, hq, by rw [hr.length, hs.length, line_is]; exact hz, fun z => ?_, fun _ z => ?_, fun _ _ l hl => ?_⟩
        · subst z
          have := hr.length
          have z2 : xs = [] := List.eq_nil_of_length_eq_zero this.symm
          exact k _ _ (.inr ⟨rfl, by rw [z2]; exact dyf⟩)
        · subst z
          have := hs.length
          have z2 : ys = [] := List.eq_nil_of_length_eq_zero this.symm
          exact k _ _ (.inr ⟨rfl, by rw [z2, List.append_nil]; exact dxf⟩)
        · exact k _ _ (.inl ⟨l, _, rfl, hl, hr.append hs, rfl⟩)
      · rw [if_neg hz] at e'; cases e'
    | _ => cases e
  | _ => cases e
theorem op_subD : OpS X (binaryOp .Sub) (oI fun i j => some (i - j)) := opS_I0 op_sub
def fFdiv (i j : Int) : Option Int := if j ≠ 0 ∧ j.natAbs.log2 < 9000 then some (i.fdiv j) else none
theorem op_fdivA : OpR X (binaryOp .FloorDiv) (rI (fun _ j => j ≠ 0 ∧ j.natAbs.log2 < 9000) fun i j => .int (i.fdiv j)) := opI fun _ _ _ _ _ _ _ hc q => PyProof.Rows.floordiv_int hc.1 q (.inl (PyProof.noPylong_of_log2 hc.2))
theorem op_fdivD : OpS X (binaryOp .FloorDiv) (oI fFdiv) := opS_I fFdiv op_fdivA fun i j k e => by
  unfold fFdiv at e
  split at e
  · rename_i c; cases e; exact ⟨c, rfl⟩
  · cases e
def fMod (i j : Int) : Option Int := if 0 < j then some (i % j) else none
theorem op_modD : OpS X (binaryOp .Mod) (oI fMod) := opS_I fMod op_mod fun i j k e => by
  unfold fMod at e
  split at e
  · rename_i c; cases e; exact ⟨c, rfl⟩
  · cases e
def fPow (i j : Int) : Option Int := if 0 ≤ j ∧ j ≤ 1000000 ∧ i.natAbs < 2 ^ 64 then some (i ^ j.toNat) else none
theorem op_powD : OpS X (binaryOp .Pow) (oI fPow) := opS_I fPow op_pow fun i j k e => by
  unfold fPow at e
  split at e
  · rename_i c; cases e; exact ⟨c, rfl⟩
  · cases e

/-! ### * -/
theorem op_mul_str : OpR X (binaryOp .Mult) (fun x y H Q => ∃ (z : List Nat) (k : Int), x = .str (mkS z) ∧ y = .int k ∧ 0 ≤ k ∧ k ≤ 16777216 ∧ z.length * k.toNat ≤ 16777216 ∧ Q (.str (mkS (List.replicate k.toNat z).flatten)) H) := by
  intro pins s σ H x y v u Q I rx ry h
  obtain ⟨z, k, rfl, rfl, h0, hk, hz, q⟩ := h
  obtain ⟨t, rfl⟩ := rx
  obtain ⟨t', rfl⟩ := ry
  have hle : z.length * k.toNat ≤ 16777216 := hz
  have hmul : Txt.mul (mkS z) k = mkS (List.replicate k.toNat z).flatten := by
    unfold Txt.mul
    by_cases h1 : k < 1
    · rw [if_pos h1]
      have e : k.toNat = 0 := by omega
      rw [e]; rfl
    · rw [if_neg h1]
      by_cases h2 : (k == 1 || (mkS z).length == 0) = true
      · rw [if_pos h2]
        simp only [Bool.or_eq_true, beq_iff_eq] at h2
        rcases h2 with h2 | h2
        · subst h2
          show mkS z = mkS (List.replicate 1 z).flatten
          rw [show List.replicate 1 z = [z] from rfl, List.flatten_cons, List.flatten_nil, List.append_nil]
        · rw [mkS_len] at h2
          have : z = [] := List.eq_nil_of_length_eq_zero h2
          subst this
          have : (List.replicate k.toNat ([] : List Nat)).flatten = [] := by
            rw [List.flatten_eq_nil_iff]
            intro l hl
            exact (List.mem_replicate.mp hl).2
          rw [this]
      · rw [if_neg h2]
        have f0 : ∀ (m : Nat) (acc : List Nat), List.foldl (fun x1 x2 : Array Nat => x1 ++ x2) acc.toArray (List.replicate m z.toArray) = (acc ++ (List.replicate m z).flatten).toArray := by
          intro m
          induction m with
          | zero => intro acc; simp
          | succ m ih =>
            intro acc
            rw [List.replicate_succ, List.foldl_cons]
            have : acc.toArray ++ z.toArray = (acc ++ z).toArray := by simp
            rw [this, ih, List.replicate_succ, List.flatten_cons, List.append_assoc]
        have := f0 k.toNat []
        show (⟨List.foldl (fun x1 x2 : Array Nat => x1 ++ x2) #[] (List.replicate k.toNat z.toArray)⟩ : Str) = _
        rw [show (#[] : Array Nat) = ([] : List Nat).toArray from rfl, this, List.nil_append]
        rfl
  refine SB.mul (x := mkS z) ⟨?_, fun h1 h2 => ?_, fun h1 h2 => ?_⟩ fun t2 k2 => ?_
  · rw [decide_eq_false (by omega), decide_eq_false (by omega)]; rfl
  · rw [mkS_len]
    have : (2 : Int) ^ 63 - 1 = 9223372036854775807 := by decide
    rw [this]
    intro hgt
    have hk1 : (1 : Int) ≤ k := by omega
    have h3 : ((z.length : Int)) * k ≤ 16777216 := by
      have : ((z.length * k.toNat : Nat) : Int) ≤ ((16777216 : Nat) : Int) := Int.ofNat_le.mpr hle
      rw [Int.natCast_mul, Int.toNat_of_nonneg h0] at this
      exact this
    have h4 : (9223372036854775807 : Int) / k ≥ 549755813887 := by
      have : (549755813887 : Int) * k ≤ 9223372036854775807 := by omega
      exact (Int.le_ediv_iff_mul_le (by omega)).mpr this
    have h5 : (z.length : Int) ≤ (z.length : Int) * k := by
      have := Int.mul_le_mul_of_nonneg_left hk1 (Int.natCast_nonneg z.length)
      rw [Int.mul_one] at this
      exact this
    omega
  · rw [mkS_len]
    unfold Builtin.Str.tooLong
    rw [line_is]
    exact decide_eq_false (by omega)
  · rw [hmul]
    exact ⟨.str _, H, I.tok k2, ⟨_, rfl⟩, q⟩

theorem tuple_mul1 (l : Addr) (items : Array Value) (n : Nat) (sl : Array (Option Value)) (dd : Option Addr) (x : Int) (u : Tok) (c0 : (decide (x < -(2 ^ 63)) || decide (x ≥ 2 ^ 63)) = false) (c1 : (items.isEmpty || x == 1) = true) :
    Meets (Builtin.«tuple.__mul__» ⟨[.ref l, .int x u], []⟩) (fun _ R s => s.heap.get? l = some { cls := .type "tuple", dict := dd, data := .seq items n, slots := sl } ∧
      R (.ok (.ret (Value.ref l))) s) :=
  .of_wp fun prog w A R s h => by
    obtain ⟨hp, g, d, tk, os⟩ := s
    obtain ⟨hl, h⟩ := h
    have f1 := AutoSeq1.idx_int
    wp_walk using wpAny_loadPart' hl
    repeat (first
      | (refine wpAny_ite_false (decide_eq_false (by rw [c0]; exact Bool.false_ne_true)) ?_; wp_walk using wpAny_loadPart' hl)
      | (refine wpAny_ite_true (decide_eq_true c1) ?_; wp_walk using wpAny_loadPart' hl))
    exact ⟨_, rfl, h⟩
/-- a tuple taken once, or an empty one: the same tuple -/
theorem op_repT1 : OpR X (binaryOp .Mult) (fun x y H Q => ∃ (l : Addr) (k : Int) (xs : List V), x = .ref l ∧ y = .int k ∧ SqT X.K H l xs ∧ 0 ≤ k ∧ k ≤ 1000000 ∧ (xs = [] ∨ k = 1) ∧ Q (.ref l) H) := by
  intro pins s σ H x y v u Q I rx ry h
  obtain ⟨l, k, xs, rfl, rfl, hT, h0, h1, hne, q⟩ := h
  cases rx
  obtain ⟨t, rfl⟩ := ry
  obtain ⟨its, r, ⟨⟨cls, dd, data, sl⟩, ho, hc, n, hd⟩, hs⟩ := I.tuple hT
  simp only at hc hd
  subst hc hd
  have c0 : (decide (k < -(2 ^ 63)) || decide (k ≥ 2 ^ 63)) = false := by
    rw [decide_eq_false (by omega), decide_eq_false (by omega)] <;> rfl
  have c1 : (its.toArray.isEmpty || k == 1) = true := by
    rcases hne with e | e
    · subst e
      cases r
      rfl
    · subst e
      simp
  refine wpAny_binaryOp_repeat_ref (T := "tuple") (U := "int") (by decide) ⟨_, ho, rfl⟩ (fun s' => typeIs_int s' k t) noFill_tuple_mul F.fills_int_mul F.slot_int_rmul repeat_tuple F.slot_int_index.lookup
    (call_meets F.slot_int_rmul (typeIs_int s k t) F.entry_int_rmul (F.args_int_rmul_2 _ _) (int_rmul_tuple k t l its.toArray n dd sl)
      ⟨ho, rfl, ⟨_, ho, rfl⟩, call_meets F.slot_tuple_mul ⟨_, ho, rfl⟩ F.entry_tuple_mul (F.args_tuple_mul_2 _ _) (tuple_mul1 l its.toArray n sl dd k t c0 c1) ⟨ho, ?_⟩⟩)
  exact ⟨.ref l, H, I, rfl, q⟩
def cMul (i j : Int) : Bool := (decide (i.natAbs < 2 ^ 64) || decide (j.natAbs < 2 ^ 64)) || decide (i.natAbs.log2 + j.natAbs.log2 < 1000000)
def oMul : D → D → Option Rv
  | .int i, .int j => if cMul i j = true then some (.val (.int (i * j))) else none
  | .str s, .int k => if 0 ≤ k ∧ k ≤ 16777216 ∧ s.length * k.toNat ≤ 16777216 then some (.val (.str (List.replicate k.toNat s).flatten)) else none
  | .tup xs, .int k => if 0 ≤ k ∧ k ≤ 1000 ∧ xs.length ≤ 1000 ∧ (xs = [] → True) ∧ 1 ≤ k then some (.newT (List.replicate k.toNat xs).flatten) else none
  | _, _ => none
theorem op_mulD : OpS X (binaryOp .Mult) oMul := by
  refine ⟨_, ((((op_mul.or op_mulW).or op_mul_str).or op_repT1).or op_repT), fun x y H Hf d1 d2 res Q le dx dy e k => ?_⟩
  cases d1 with
  | int i =>
    cases d2 with
    | int j =>
      have e' : (if cMul i j = true then some (Rv.val (.int (i * j))) else none) = some res := e
      by_cases hc : cMul i j = true
      · rw [if_pos hc] at e'; cases e'
        unfold cMul at hc
        simp only [Bool.or_eq_true, decide_eq_true_eq] at hc
        rcases hc with (hc | hc) | hc
        · exact .inl (.inl (.inl (.inl ⟨i, j, dx.int, dy.int, .inl (by omega), k _ _ ⟨rfl, .int _⟩⟩)))
        · exact .inl (.inl (.inl (.inl ⟨i, j, dx.int, dy.int, .inr (by omega), k _ _ ⟨rfl, .int _⟩⟩)))
        · exact .inl (.inl (.inl (.inr ⟨i, j, dx.int, dy.int, hc, k _ _ ⟨rfl, .int _⟩⟩)))
      · rw [if_neg hc] at e'; cases e'
    | _ => cases e
  | str z =>
    cases d2 with
    | int j =>
      have e' : (if 0 ≤ j ∧ j ≤ 16777216 ∧ z.length * j.toNat ≤ 16777216 then some (Rv.val (.str (List.replicate j.toNat z).flatten)) else none) = some res := e
      by_cases hc : 0 ≤ j ∧ j ≤ 16777216 ∧ z.length * j.toNat ≤ 16777216
      · rw [if_pos hc] at e'; cases e'
        exact .inl (.inl (.inr ⟨z, j, dx.str, dy.int, hc.1, hc.2.1, hc.2.2, k _ _ ⟨rfl, .str _⟩⟩))
      · rw [if_neg hc] at e'; cases e'
    | _ => cases e
  | tup xs =>
    cases d2 with
    | int j =>
      have e' : (if 0 ≤ j ∧ j ≤ 1000 ∧ xs.length ≤ 1000 ∧ (xs = [] → True) ∧ 1 ≤ j then some (Rv.newT (List.replicate j.toNat xs).flatten) else none) = some res := e
      by_cases hc : 0 ≤ j ∧ j ≤ 1000 ∧ xs.length ≤ 1000 ∧ (xs = [] → True) ∧ 1 ≤ j
      · rw [if_pos hc] at e'; cases e'
        obtain ⟨c1, c2, c3, _, c5⟩ := hc
        obtain ⟨p, vs, rfl, hp, hr⟩ := dx.tup le
        have dxf : Rp X.K Hf (.ref p) (.tup xs) := by
          rcases dx with h | ⟨_, _, _, _, h, _⟩
          · exact h
          · cases h
        by_cases hv : vs = []
        · have hl := hr.length
          subst hv
          have hx : xs = [] := List.eq_nil_of_length_eq_zero hl.symm
          subst hx
          refine .inl (.inr ⟨p, j, [], rfl, dy.int, hp, c1, by omega, .inl rfl, k _ _ (.inr ⟨rfl, ?_⟩)⟩)
          have : (List.replicate j.toNat ([] : List D)).flatten = [] := by
            rw [List.flatten_eq_nil_iff]
            intro l hl
            exact (List.mem_replicate.mp hl).2
          rw [this]
          exact dxf
        · by_cases h1 : j = 1
          · subst h1
            refine .inl (.inr ⟨p, 1, vs, rfl, dy.int, hp, by omega, by omega, .inr rfl, k _ _ (.inr ⟨rfl, ?_⟩)⟩)
            rw [show List.replicate (1 : Int).toNat xs = [xs] from rfl, List.flatten_cons, List.flatten_nil, List.append_nil]
            exact dxf
          · exact .inr ⟨p, j, vs, rfl, dy.int, hp, hv, by omega, c2, by rw [hr.length]; exact c3, fun l hl => k _ _ (.inl ⟨l, _, rfl, hl, hr.rep _, rfl⟩)⟩
      · rw [if_neg hc] at e'; cases e'
    | _ => cases e
  | _ => cases e

/-! ## equality, membership -/
mutual
def toPy : D → PyData
  | .non => .none
  | .bl b => .bool b
  | .int i => .int i
  | .str s => .str (mkS s)
  | .lst xs => .list (toPyA xs)
  | .tup xs => .tuple (toPyA xs)
  | .dic _ => .dict []
  | .fls xs => .list (toPyA xs)
def toPyA : List D → List PyData
  | [] => []
  | x :: r => toPy x :: toPyA r
end
/-! no dict within -/
mutual
def pl : D → Bool
  | .dic _ => false
  | .lst xs => plA xs
  | .tup xs => plA xs
  | .fls xs => plA xs
  | .str s => PyData.strOk (mkS s)
  | _ => true
def plA : List D → Bool
  | [] => true
  | x :: r => pl x && plA r
end
mutual
def dep : D → Nat
  | .lst xs => depA xs + 1
  | .tup xs => depA xs + 1
  | .fls xs => depA xs + 1
  | _ => 0
def depA : List D → Nat
  | [] => 0
  | x :: r => max (dep x) (depA r)
end
mutual
def deq : D → D → Bool
  | .non, .non => true
  | .bl a, .bl b => a == b
  | .bl a, .int j => (if a then 1 else 0) == j
  | .int i, .bl b => i == (if b then 1 else 0)
  | .int i, .int j => i == j
  | .str x, .str y => x == y
  | .lst xs, .lst ys => deqA xs ys
  | .lst xs, .fls ys => deqA xs ys
  | .fls xs, .lst ys => deqA xs ys
  | .fls xs, .fls ys => deqA xs ys
  | .tup xs, .tup ys => deqA xs ys
  | _, _ => false
def deqA : List D → List D → Bool
  | [], [] => true
  | x :: xs, y :: ys => deq x y && deqA xs ys
  | _, _ => false
end
theorem mkS_eq (x y : List Nat) : (mkS x == mkS y) = (x == y) := by
  by_cases h : x = y
  · subst h; simp
  · have : mkS x ≠ mkS y := fun e => h (by
      have := congrArg (fun s : Str => s.cps.toList) e
      simpa [mkS] using this)
    rw [beq_eq_false_iff_ne.mpr this, beq_eq_false_iff_ne.mpr h]
mutual
theorem eqv_deq : ∀ x y : D, PyData.eqv (toPy x) (toPy y) = deq x y
  | .non, y => by cases y <;> simp [toPy, PyData.eqv, deq]
  | .bl a, y => by cases y <;> simp [toPy, PyData.eqv, deq]
  | .int i, y => by cases y <;> simp [toPy, PyData.eqv, deq]
  | .str s, y => by cases y <;> simp [toPy, PyData.eqv, deq, mkS_eq]
  | .lst xs, y => by cases y <;> simp [toPy, PyData.eqv, deq, eqv_deqA xs]
  | .tup xs, y => by cases y <;> simp [toPy, PyData.eqv, deq, eqv_deqA xs]
  | .fls xs, y => by cases y <;> simp [toPy, PyData.eqv, deq, eqv_deqA xs]
  | .dic k, y => by cases y <;> simp [toPy, PyData.eqv, deq]
theorem eqv_deqA : ∀ xs ys : List D, PyData.eqvAll (toPyA xs) (toPyA ys) = deqA xs ys
  | [], [] => by simp [toPyA, PyData.eqvAll, deqA]
  | [], _ :: _ => by simp [toPyA, PyData.eqvAll, deqA]
  | _ :: _, [] => by simp [toPyA, PyData.eqvAll, deqA]
  | x :: xs, y :: ys => by simp [toPyA, PyData.eqvAll, deqA, eqv_deq x y, eqv_deqA xs ys]
end
mutual
theorem lay_pl : ∀ x : D, pl x = true → (toPy x).canLay0 = true ∧ (toPy x).depth = dep x
  | .non, _ => by simp [toPy, PyData.canLay0, PyData.depth, dep]
  | .bl a, _ => by simp [toPy, PyData.canLay0, PyData.depth, dep]
  | .int i, _ => by simp [toPy, PyData.canLay0, PyData.depth, dep]
  | .str s, h => by
    have h' : PyData.strOk (mkS s) = true := by simpa [pl] using h
    simp [toPy, PyData.canLay0, PyData.depth, dep, h']
  | .lst xs, h => by
    obtain ⟨a, b⟩ := lay_plA xs (by simpa [pl] using h)
    simp [toPy, PyData.canLay0, PyData.depth, dep, a, b]
  | .tup xs, h => by
    obtain ⟨a, b⟩ := lay_plA xs (by simpa [pl] using h)
    simp [toPy, PyData.canLay0, PyData.depth, dep, a, b]
  | .fls xs, h => by
    obtain ⟨a, b⟩ := lay_plA xs (by simpa [pl] using h)
    simp [toPy, PyData.canLay0, PyData.depth, dep, a, b]
  | .dic k, h => by simp [pl] at h
theorem lay_plA : ∀ xs : List D, plA xs = true → PyData.canLayAll0 (toPyA xs) = true ∧ PyData.depthAll (toPyA xs) = depA xs
  | [], _ => by simp [toPyA, PyData.canLayAll0, PyData.depthAll, depA]
  | x :: xs, h => by
    have h' : pl x = true ∧ plA xs = true := by simpa [plA] using h
    obtain ⟨a, b⟩ := lay_pl x h'.1
    obtain ⟨c, d⟩ := lay_plA xs h'.2
    simp [toPyA, PyData.canLayAll0, PyData.depthAll, depA, a, b, c, d]
end
def shp (d : D) : Bool := pl d && decide (dep d ≤ 64)
theorem shp_ok {d : D} (h : shp d = true) : SeqAt.shaped (toPy d) = true := by
  unfold shp at h
  have h' : pl d = true ∧ dep d ≤ 64 := by simpa using h
  obtain ⟨a, b⟩ := lay_pl d h'.1
  show ((toPy d).canLay0 && decide ((toPy d).depth ≤ 64)) = true
  rw [a, b, decide_eq_true h'.2]
  rfl
mutual
theorem Rp.dp {K : PySem.W.Frag} {H : Hp} : ∀ {d : D} {v : V}, pl d = true → Rp K H v d → Dp K H v (toPy d)
  | .non, _, _, h => by cases h; exact .non
  | .bl b, _, _, h => by cases h; exact .bl b
  | .int i, _, _, h => by cases h; exact .int i
  | .str s, _, _, h => by cases h; exact .str _
  | .lst xs, _, p, h => by
    cases h with
    | lst a r => exact .lst (.inl (.inl a)) (RpA.dp (by simpa [pl] using p) r)
  | .fls xs, _, p, h => by
    cases h with
    | fls a r => exact .lst a (RpA.dp (by simpa [pl] using p) r)
  | .tup xs, _, p, h => by
    cases h with
    | tup a r => exact .tup a (RpA.dp (by simpa [pl] using p) r)
  | .dic xs, _, p, h => by simp [pl] at p
theorem RpA.dp {K : PySem.W.Frag} {H : Hp} : ∀ {ds : List D} {vs : List V}, plA ds = true → RpA K H vs ds → DpAll K H vs (toPyA ds)
  | [], _, _, h => by cases h; exact .nil
  | d :: ds, _, p, h => by
    cases h with
    | cons a r =>
      have h' : pl d = true ∧ plA ds = true := by simpa [plA] using p
      exact .cons (Rp.dp h'.1 a) (RpA.dp h'.2 r)
end
theorem Dt.dp {K : PySem.W.Frag} {H Hf : Hp} {d : D} {v : V} (le : Le Hf H) (p : pl d = true) (h : Dt K H Hf v d) : Dp K H v (toPy d) := by
  rcases h with h | ⟨a, vs, ds, rfl, rfl, h3, h4⟩
  · exact (h.le le).dp p
  · exact .lst (.inl (.inl h3)) ((h4.le le).dp (by simpa [pl] using p))
def oEq (neg : Bool) (d e : D) : Option Rv := if (shp d && shp e) = true then some (.val (.bl (if neg then !deq d e else deq d e))) else none
theorem op_eqS (hu : X.A.units + 64 < cLine) : OpS X (compareOp .Eq) (oEq false) := by
  refine ⟨_, op_eqD hu, fun x y H Hf d1 d2 res Q le dx dy e k => ?_⟩
  unfold oEq at e
  split at e
  · rename_i c
    cases e
    have c' : shp d1 = true ∧ shp d2 = true := by simpa using c
    have p1 : pl d1 = true := by have := c'.1; unfold shp at this; simp at this; exact this.1
    have p2 : pl d2 = true := by have := c'.2; unfold shp at this; simp at this; exact this.1
    refine ⟨toPy d1, toPy d2, dx.dp le p1, dy.dp le p2, shp_ok c'.1, shp_ok c'.2, k _ _ ⟨rfl, ?_⟩⟩
    rw [eqv_deq]
    exact .bl _
  · cases e
theorem op_neS (hu : X.A.units + 64 < cLine) : OpS X (compareOp .NotEq) (oEq true) := by
  refine ⟨_, op_neD hu, fun x y H Hf d1 d2 res Q le dx dy e k => ?_⟩
  unfold oEq at e
  split at e
  · rename_i c
    cases e
    have c' : shp d1 = true ∧ shp d2 = true := by simpa using c
    have p1 : pl d1 = true := by have := c'.1; unfold shp at this; simp at this; exact this.1
    have p2 : pl d2 = true := by have := c'.2; unfold shp at this; simp at this; exact this.1
    refine ⟨toPy d1, toPy d2, dx.dp le p1, dy.dp le p2, shp_ok c'.1, shp_ok c'.2, k _ _ ⟨rfl, ?_⟩⟩
    rw [eqv_deq]
    exact .bl _
  · cases e
def oIn (neg : Bool) : D → D → Option Rv
  | d, .lst es => if (shp d && shp (.lst es)) = true then some (.val (.bl (if neg then !(es.any fun z => deq z d) else es.any fun z => deq z d))) else none
  | d, .tup es => if (shp d && shp (.tup es)) = true then some (.val (.bl (if neg then !(es.any fun z => deq z d) else es.any fun z => deq z d))) else none
  | _, _ => none
theorem any_toPy (d : D) : ∀ es : List D, ((toPyA es).any fun z => PyData.eqv z (toPy d)) = es.any fun z => deq z d
  | [] => rfl
  | e :: es => by
    show (PyData.eqv (toPy e) (toPy d) || (toPyA es).any fun z => PyData.eqv z (toPy d)) = (deq e d || es.any fun z => deq z d)
    rw [eqv_deq, any_toPy d es]
def rInT (K : PySem.W.Frag) (neg : Bool) : R2 := fun x y H Q => ∃ d ds, Dp K H x d ∧ Dp K H y (.tuple ds) ∧ SeqAt.shaped d = true ∧ SeqAt.shaped (.tuple ds) = true ∧ Q (.bl (if neg then !(ds.any fun z => PyData.eqv z d) else ds.any fun z => PyData.eqv z d)) H
theorem room_tup {A : Around} {d : PyData} {ds : List PyData} (sd : SeqAt.shaped d = true) (hu : A.units + 65 < cLine) : A.units + 1 + min (PyData.depthAll ds) d.depth < cLine := by
  have := SeqAt.depth_of_shaped sd
  have : min (PyData.depthAll ds) d.depth ≤ d.depth := Nat.min_le_right _ _
  omega
theorem op_inT (hu : X.A.units + 65 < cLine) : OpR X (compareOp .In) (rInT X.K false) := by
  intro pins s σ H x y v u Q I rx ry h
  obtain ⟨d, ds, hd, he, sd, se, q⟩ := h
  obtain ⟨as, r1⟩ := Dp.reads I d x v hd rx
  obtain ⟨bs, r2⟩ := Dp.reads I (.tuple ds) y u he ry
  have c2 : PyData.canLayAll0 ds = true := by have := SeqAt.canLay_of_shaped se; simpa [PyData.canLay0] using this
  exact SeqAt.in_tuple_reads r2 r1 c2 (SeqAt.canLay_of_shaped sd) (room_tup sd hu) ⟨.bl _, H, I, rfl, q⟩
theorem op_notInT (hu : X.A.units + 65 < cLine) : OpR X (compareOp .NotIn) (rInT X.K true) := by
  intro pins s σ H x y v u Q I rx ry h
  obtain ⟨d, ds, hd, he, sd, se, q⟩ := h
  obtain ⟨as, r1⟩ := Dp.reads I d x v hd rx
  obtain ⟨bs, r2⟩ := Dp.reads I (.tuple ds) y u he ry
  have c2 : PyData.canLayAll0 ds = true := by have := SeqAt.canLay_of_shaped se; simpa [PyData.canLay0] using this
  exact SeqAt.notIn_tuple_reads r2 r1 c2 (SeqAt.canLay_of_shaped sd) (room_tup sd hu) ⟨.bl _, H, I, rfl, q⟩
theorem shp_pl {d : D} (h : shp d = true) : pl d = true := by unfold shp at h; simp at h; exact h.1
theorem op_inS (hu : X.A.units + 65 < cLine) : OpS X (compareOp .In) (oIn false) := by
  refine ⟨_, (op_inD hu).or (op_inT hu), fun x y H Hf d1 d2 res Q le dx dy e k => ?_⟩
  cases d2 with
  | lst es =>
    have e' : (if (shp d1 && shp (.lst es)) = true then some (Rv.val (.bl (es.any fun z => deq z d1))) else none) = some res := e
    split at e'
    · rename_i c
      cases e'
      have c' : shp d1 = true ∧ shp (.lst es) = true := by simpa using c
      refine .inl ⟨toPy d1, toPyA es, dx.dp le (shp_pl c'.1), dy.dp le (shp_pl c'.2), shp_ok c'.1, shp_ok c'.2, k _ _ ⟨rfl, ?_⟩⟩
      rw [any_toPy]
      exact .bl _
    · cases e'
  | tup es =>
    have e' : (if (shp d1 && shp (.tup es)) = true then some (Rv.val (.bl (es.any fun z => deq z d1))) else none) = some res := e
    split at e'
    · rename_i c
      cases e'
      have c' : shp d1 = true ∧ shp (.tup es) = true := by simpa using c
      refine .inr ⟨toPy d1, toPyA es, dx.dp le (shp_pl c'.1), dy.dp le (shp_pl c'.2), shp_ok c'.1, shp_ok c'.2, k _ _ ⟨rfl, ?_⟩⟩
      rw [any_toPy]
      exact .bl _
    · cases e'
  | _ => cases e
theorem op_notInS (hu : X.A.units + 65 < cLine) : OpS X (compareOp .NotIn) (oIn true) := by
  refine ⟨_, (op_notInD hu).or (op_notInT hu), fun x y H Hf d1 d2 res Q le dx dy e k => ?_⟩
  cases d2 with
  | lst es =>
    have e' : (if (shp d1 && shp (.lst es)) = true then some (Rv.val (.bl (!(es.any fun z => deq z d1)))) else none) = some res := e
    split at e'
    · rename_i c
      cases e'
      have c' : shp d1 = true ∧ shp (.lst es) = true := by simpa using c
      refine .inl ⟨toPy d1, toPyA es, dx.dp le (shp_pl c'.1), dy.dp le (shp_pl c'.2), shp_ok c'.1, shp_ok c'.2, k _ _ ⟨rfl, ?_⟩⟩
      rw [any_toPy]
      exact .bl _
    · cases e'
  | tup es =>
    have e' : (if (shp d1 && shp (.tup es)) = true then some (Rv.val (.bl (!(es.any fun z => deq z d1)))) else none) = some res := e
    split at e'
    · rename_i c
      cases e'
      have c' : shp d1 = true ∧ shp (.tup es) = true := by simpa using c
      refine .inr ⟨toPy d1, toPyA es, dx.dp le (shp_pl c'.1), dy.dp le (shp_pl c'.2), shp_ok c'.1, shp_ok c'.2, k _ _ ⟨rfl, ?_⟩⟩
      rw [any_toPy]
      exact .bl _
    · cases e'
  | _ => cases e
theorem op_ltD : OpS X (compareOp .Lt) (oCmpI fun i j => decide (i < j)) := opS_B op_lt
theorem op_leD : OpS X (compareOp .LtE) (oCmpI fun i j => decide (i ≤ j)) := opS_B op_le
theorem op_gtD : OpS X (compareOp .Gt) (oCmpI fun i j => decide (j < i)) := opS_B op_gt
theorem op_geD : OpS X (compareOp .GtE) (oCmpI fun i j => decide (j ≤ i)) := opS_B op_ge
def isNonD : D → Bool
  | .non => true
  | _ => false
def oIs (neg : Bool) : D → D → Option Rv
  | d, .non => some (.val (.bl (if neg then !isNonD d else isNonD d)))
  | _, _ => none
theorem Dt.isN {K : PySem.W.Frag} {H Hf : Hp} {d : D} {v : V} (h : Dt K H Hf v d) : decide (v = .non) = isNonD d := by
  rcases h with h | ⟨a, vs, ds, rfl, rfl, h3, h4⟩
  · cases h <;> simp [isNonD]
  · simp [isNonD]
theorem op_isD : OpS X (compareOp .Is) (oIs false) := by
  refine ⟨_, op_isN, fun x y H Hf d1 d2 res Q le dx dy e k => ?_⟩
  cases d2 with
  | non =>
    cases e
    refine ⟨dy.non, ?_⟩
    rw [dx.isN]
    exact k _ _ ⟨rfl, .bl _⟩
  | _ => cases e
theorem op_isNotD : OpS X (compareOp .IsNot) (oIs true) := by
  refine ⟨_, op_notN, fun x y H Hf d1 d2 res Q le dx dy e k => ?_⟩
  cases d2 with
  | non =>
    cases e
    refine ⟨dy.non, ?_⟩
    rw [dx.isN]
    exact k _ _ ⟨rfl, .bl _⟩
  | _ => cases e
end
end DL
end

section
set_option Elab.async false
set_option linter.all false
set_option maxRecDepth 100000
set_option maxHeartbeats 4000000
/-! # Expressions over data: tests, comparisons, displays, subscripts, built-ins -/
namespace DL
open PySem PySem.Spec L2

abbrev GT := Ev → Option (Bool × Ev)
def tT (K : PySem.W.Frag) (g : GT) : TT := fun σ H Q => ∃ G p0 ρ Hf b ρ', Rel K G p0 σ H Hf ρ ∧ g ρ = some (b, ρ') ∧
  ∀ H' Hf', Le Hf Hf' → Rel K G p0 σ H' Hf' ρ' → Q b H'
abbrev DT (X : Cx) (e : Expr) (g : GT) : Prop := PT X e (tT X.K g)
structure DW (X : Cx) (e : Expr) (g : GT) : Prop where
  run : PW X e (tT X.K g)
theorem DW.dt {X : Cx} {e : Expr} {g : GT} (h : DW X e g) : DT X e g := h.run.pt

def asB : Res → Option Bool
  | .fz (.bl b) => some b
  | _ => none
def gTb (g : GE) : GT := fun ρ => (g ρ).bind fun p => (asB p.1).map fun b => (b, p.2)
theorem asB_some {r : Res} {b : Bool} (h : asB r = some b) : r = .fz (.bl b) := by
  cases r with
  | fz d => cases d <;> first | (cases h; rfl) | cases h
  | nw _ => cases h
  | bw _ => cases h
theorem tb_of {K : PySem.W.Frag} {g : GE} {σ : L2.St} {H : Hp} {Q : Bool → Hp → Prop} (q : tT K (gTb g) σ H Q) : tE K g σ H fun x H' => ∃ k, x = .bl k ∧ Q k H' := by
  obtain ⟨G, p0, ρ, Hf, b, ρ', R, eg, k⟩ := q
  unfold gTb at eg
  simp only [Option.bind_eq_some_iff, Option.map_eq_some_iff, Prod.mk.injEq] at eg
  obtain ⟨⟨r, ρ1⟩, e1, b', e2, rfl, rfl⟩ := eg
  cases asB_some e2
  refine ⟨G, p0, ρ, Hf, _, ρ1, R, e1, fun v H' Hf' le R' rr => ?_⟩
  cases rr
  exact ⟨b', rfl, k H' Hf' le R'⟩
section
variable {X : Cx} {e a b c : Expr} {pos : Pos} {rest : List Expr}
theorem dt_val {g : GE} (h : DE X e g) (he : ∀ whole, isTrue e X.env whole = (do let v ← whole; standAt e.pos; holding [v] (truthy v)) := by intro _; rfl) : DT X e (gTb g) :=
  (pt_val h he).weak fun σ H Q q => tb_of q

/-- a value's truth -/
def tru : D → Option Bool
  | .non => some false
  | .bl b => some b
  | .int i => some (i != 0)
  | .str s => if s.length ≤ 16777216 then some ((s.length : Int) != 0) else none
  | .lst xs => some (!xs.isEmpty)
  | .tup xs => some (!xs.isEmpty)
  | .fls xs => some (!xs.isEmpty)
  | .dic kvs => some (!kvs.isEmpty)
def gTru (g : GE) : GT := fun ρ => (g ρ).bind fun p => (dat p.2 p.1).bind fun d => (tru d).map fun b => (b, p.2)
theorem RpA.isEmpty {K : PySem.W.Frag} {H : Hp} {vs : List V} {ds : List D} (r : RpA K H vs ds) : vs.isEmpty = ds.isEmpty := by cases r <;> rfl
theorem RpK.isEmpty {K : PySem.W.Frag} {H : Hp} {vs : List (Key × V)} {ds : List (List Nat × D)} (r : RpK K H vs ds) : vs.isEmpty = ds.isEmpty := by cases r <;> rfl
theorem tru_ok' {K : PySem.W.Frag} {H Hf : Hp} {d : D} {v : V} {b : Bool} (le : Le Hf H) (h : Dt K H Hf v d) (e : tru d = some b) : TruV K v H b := by
  cases d with
  | non => cases e; rw [h.non]; exact rfl
  | bl k => cases e; rw [h.bl]; exact rfl
  | int i => cases e; rw [h.int]; exact rfl
  | str s =>
    rw [h.str]
    have e' : (if s.length ≤ 16777216 then some ((s.length : Int) != 0) else none) = some b := e
    split at e'
    · rename_i c
      cases e'
      exact ⟨by rw [mkS_len, line_is]; exact c, by rw [mkS_len]⟩
    · cases e'
  | lst xs =>
    cases e
    obtain ⟨p, vs, rfl, h1, h2⟩ := h.lst le
    exact .inl ⟨vs, .inl (.inl h1), by rw [h2.isEmpty]⟩
  | fls xs =>
    cases e
    obtain ⟨p, vs, rfl, h1, h2⟩ := h.fls le
    exact .inl ⟨vs, h1, by rw [h2.isEmpty]⟩
  | tup xs =>
    cases e
    obtain ⟨p, vs, rfl, h1, h2⟩ := h.tup le
    exact .inr (.inl ⟨vs, h1, by rw [h2.isEmpty]⟩)
  | dic kvs =>
    cases e
    obtain ⟨p, vs, rfl, h1, h2⟩ := h.dic le
    exact .inr (.inr ⟨vs, h1, by rw [h2.isEmpty]⟩)
theorem dt_tru {g : GE} (h : DE X e g) (he : ∀ whole, isTrue e X.env whole = (do let v ← whole; standAt e.pos; holding [v] (truthy v)) := by intro _; rfl) : DT X e (gTru g) :=
  (pt_truth h he).weak fun σ H Q q => by
    obtain ⟨G, p0, ρ, Hf, b, ρ', R, eg, k⟩ := q
    unfold gTru at eg
    simp only [Option.bind_eq_some_iff, Option.map_eq_some_iff, Prod.mk.injEq] at eg
    obtain ⟨⟨r, ρ1⟩, e1, d, e2, b', e3, rfl, rfl⟩ := eg
    refine ⟨G, p0, ρ, Hf, _, ρ1, R, e1, fun v H' Hf' le R' rr => ?_⟩
    exact ⟨b', tru_ok' R'.fh (rr.dt R' e2) e3, k H' Hf' le R'⟩

/-! ### comparisons -/
theorem de_cmp {o : CmpOp} {op : D → D → Option Rv} {ga gb : GE} (ho : OpS X (compareOp o) op) (ha : DE X a ga) (hb : DE X b gb) (hm : behindInMarks o b = false := by first | exact nomark _ | rfl) : DE X (.Compare a [o] [b] pos) (gBin op ga gb) := by
  obtain ⟨r, h1, h2⟩ := ho.ex
  exact (pe_cmpR h1 ha hb hm).weak fun σ H Q q => bin_tE h2 q
theorem dt_cmp {o : CmpOp} {op : D → D → Option Rv} {ga gb : GE} (ho : OpS X (compareOp o) op) (ha : DE X a ga) (hb : DE X b gb) (hm : behindInMarks o b = false := by first | exact nomark _ | rfl) : DT X (.Compare a [o] [b] pos) (gTb (gBin op ga gb)) := by
  obtain ⟨r, h1, h2⟩ := ho.ex
  exact (pt_cmpR h1 ha hb hm).weak fun σ H Q q => bin_tE h2 (tb_of q)

/-! ### and, or, not, if -/
def gAnd (g h : GT) : GT := fun ρ => (g ρ).bind fun p => if p.1 = true then h p.2 else some (false, p.2)
def gOr (g h : GT) : GT := fun ρ => (g ρ).bind fun p => if p.1 = true then some (true, p.2) else h p.2
def gNot (g : GT) : GT := fun ρ => (g ρ).map fun p => (!p.1, p.2)
theorem dw_and1 {g : GT} (h : DT X a g) : DW X (.BoolOp .And [a] pos) g := ⟨pw_and1 h⟩
theorem dw_or1 {g : GT} (h : DT X a g) : DW X (.BoolOp .Or [a] pos) g := ⟨pw_or1 h⟩
theorem _root_.L2.PW.weak {X : Cx} {e : Expr} {t t' : TT} (h : PW X e t) (w : ∀ σ H Q, t' σ H Q → t σ H Q) : PW X e t' := ⟨fun wh pins s σ H Q I q => h.run wh pins s σ H Q I (w _ _ _ q)⟩
theorem dw_and {g h : GT} (ha : DT X a g) (hb : DW X (.BoolOp .And (b :: rest) pos) h) : DW X (.BoolOp .And (a :: b :: rest) pos) (gAnd g h) :=
  ⟨(pw_and ha hb.run).weak fun σ H Q q => by
    obtain ⟨G, p0, ρ, Hf, k, ρ', R, eg, kk⟩ := q
    unfold gAnd at eg
    rw [Option.bind_eq_some_iff] at eg
    obtain ⟨⟨b1, ρ1⟩, e1, e2⟩ := eg
    refine ⟨G, p0, ρ, Hf, b1, ρ1, R, e1, fun H1 Hf1 le1 R1 => ?_⟩
    cases b1 with
    | true =>
      rw [if_pos rfl]
      exact ⟨G, p0, ρ1, Hf1, k, ρ', R1, e2, fun H' Hf' le R' => kk H' Hf' (le1.trans le) R'⟩
    | false =>
      cases e2
      rw [if_neg Bool.false_ne_true]
      exact kk H1 Hf1 le1 R1⟩
theorem dw_or {g h : GT} (ha : DT X a g) (hb : DW X (.BoolOp .Or (b :: rest) pos) h) : DW X (.BoolOp .Or (a :: b :: rest) pos) (gOr g h) :=
  ⟨(pw_or ha hb.run).weak fun σ H Q q => by
    obtain ⟨G, p0, ρ, Hf, k, ρ', R, eg, kk⟩ := q
    unfold gOr at eg
    rw [Option.bind_eq_some_iff] at eg
    obtain ⟨⟨b1, ρ1⟩, e1, e2⟩ := eg
    refine ⟨G, p0, ρ, Hf, b1, ρ1, R, e1, fun H1 Hf1 le1 R1 => ?_⟩
    cases b1 with
    | false =>
      rw [if_neg Bool.false_ne_true]
      exact ⟨G, p0, ρ1, Hf1, k, ρ', R1, e2, fun H' Hf' le R' => kk H' Hf' (le1.trans le) R'⟩
    | true =>
      cases e2
      rw [if_pos rfl]
      exact kk H1 Hf1 le1 R1⟩
theorem dt_not {g : GT} (h : DT X a g) : DT X (.UnaryOp .Not a pos) (gNot g) := (pt_not h).weak fun σ H Q q => by
  obtain ⟨G, p0, ρ, Hf, k, ρ', R, eg, kk⟩ := q
  unfold gNot at eg
  simp only [Option.map_eq_some_iff, Prod.mk.injEq] at eg
  obtain ⟨⟨b1, ρ1⟩, e1, rfl, rfl⟩ := eg
  exact ⟨G, p0, ρ, Hf, b1, ρ1, R, e1, kk⟩
/-- as values -/
def gAndV (g h : GE) : GE := fun ρ => (g ρ).bind fun p => (asB p.1).bind fun b => if b = true then h p.2 else some (.fz (.bl false), p.2)
def gOrV (g h : GE) : GE := fun ρ => (g ρ).bind fun p => (asB p.1).bind fun b => if b = true then some (.fz (.bl true), p.2) else h p.2
def gNotV (g : GE) : GE := fun ρ => (g ρ).bind fun p => (asB p.1).map fun b => (.fz (.bl (!b)), p.2)
theorem de_one {op} {g : GE} (h : DE X a g) : DE X (.BoolOp op [a] pos) g := pe_one h
theorem de_and {g h : GE} (ha : DE X a g) (hb : DE X (.BoolOp .And (b :: rest) pos) h) : DE X (.BoolOp .And (a :: b :: rest) pos) (gAndV g h) := (pe_and ha hb).weak fun σ H Q q => by
  obtain ⟨G, p0, ρ, Hf, r, ρ', R, eg, k⟩ := q
  unfold gAndV at eg
  simp only [Option.bind_eq_some_iff] at eg
  obtain ⟨⟨r1, ρ1⟩, e1, b1, e2, e3⟩ := eg
  cases asB_some e2
  refine ⟨G, p0, ρ, Hf, _, ρ1, R, e1, fun v H1 Hf1 le1 R1 rr => ?_⟩
  cases rr
  refine ⟨b1, rfl, ?_⟩
  cases b1 with
  | true =>
    rw [if_pos rfl] at e3 ⊢
    exact ⟨G, p0, ρ1, Hf1, r, ρ', R1, e3, fun v' H' Hf' le R' rr' => k v' H' Hf' (le1.trans le) R' rr'⟩
  | false =>
    rw [if_neg Bool.false_ne_true] at e3 ⊢
    cases e3
    exact k _ H1 Hf1 le1 R1 (.bl false)
theorem de_or {g h : GE} (ha : DE X a g) (hb : DE X (.BoolOp .Or (b :: rest) pos) h) : DE X (.BoolOp .Or (a :: b :: rest) pos) (gOrV g h) := (pe_or ha hb).weak fun σ H Q q => by
  obtain ⟨G, p0, ρ, Hf, r, ρ', R, eg, k⟩ := q
  unfold gOrV at eg
  simp only [Option.bind_eq_some_iff] at eg
  obtain ⟨⟨r1, ρ1⟩, e1, b1, e2, e3⟩ := eg
  cases asB_some e2
  refine ⟨G, p0, ρ, Hf, _, ρ1, R, e1, fun v H1 Hf1 le1 R1 rr => ?_⟩
  cases rr
  refine ⟨b1, rfl, ?_⟩
  cases b1 with
  | false =>
    rw [if_neg Bool.false_ne_true] at e3 ⊢
    exact ⟨G, p0, ρ1, Hf1, r, ρ', R1, e3, fun v' H' Hf' le R' rr' => k v' H' Hf' (le1.trans le) R' rr'⟩
  | true =>
    rw [if_pos rfl] at e3 ⊢
    cases e3
    exact k _ H1 Hf1 le1 R1 (.bl true)
theorem de_not {g : GE} (h : DE X a g) : DE X (.UnaryOp .Not a pos) (gNotV g) := (pe_not h).weak fun σ H Q q => by
  obtain ⟨G, p0, ρ, Hf, r, ρ', R, eg, k⟩ := q
  unfold gNotV at eg
  simp only [Option.bind_eq_some_iff, Option.map_eq_some_iff, Prod.mk.injEq] at eg
  obtain ⟨⟨r1, ρ1⟩, e1, b1, e2, rfl, rfl⟩ := eg
  cases asB_some e2
  refine ⟨G, p0, ρ, Hf, _, ρ1, R, e1, fun v H1 Hf1 le1 R1 rr => ?_⟩
  cases rr
  exact ⟨b1, rfl, k _ H1 Hf1 le1 R1 (.bl _)⟩
def gIfE (c : GT) (g h : GE) : GE := fun ρ => (c ρ).bind fun p => if p.1 = true then g p.2 else h p.2
theorem de_if {gc : GT} {g h : GE} (hc : DT X c gc) (ha : DE X a g) (hb : DE X b h) : DE X (.IfExp c a b pos) (gIfE gc g h) := (pe_ifExp hc ha hb).weak fun σ H Q q => by
  obtain ⟨G, p0, ρ, Hf, r, ρ', R, eg, k⟩ := q
  unfold gIfE at eg
  rw [Option.bind_eq_some_iff] at eg
  obtain ⟨⟨b1, ρ1⟩, e1, e2⟩ := eg
  refine ⟨G, p0, ρ, Hf, b1, ρ1, R, e1, fun H1 Hf1 le1 R1 => ?_⟩
  cases b1 with
  | true =>
    rw [if_pos rfl] at e2 ⊢
    exact ⟨G, p0, ρ1, Hf1, r, ρ', R1, e2, fun v' H' Hf' le R' rr' => k v' H' Hf' (le1.trans le) R' rr'⟩
  | false =>
    rw [if_neg Bool.false_ne_true] at e2 ⊢
    exact ⟨G, p0, ρ1, Hf1, r, ρ', R1, e2, fun v' H' Hf' le R' rr' => k v' H' Hf' (le1.trans le) R' rr'⟩

/-! ### one-place operations -/
def gUn (op : D → Option Rv) (ga : GE) : GE := fun ρ => (ga ρ).bind fun p => (dat p.2 p.1).bind fun d => (op d).map fun r => (r.res, p.2)
/-- the general step: a part is evaluated, then by its data an end -/
theorem un_tE {K : PySem.W.Frag} {op : D → Option Rv} {ga : GE} {r : V → Hp → VK → Prop} (hr : ∀ x H Hf d res (Q : VK), Le Hf H → Dt K H Hf x d → op d = some res → (∀ v H', FinR K H Hf res v H' → Q v H') → r x H Q)
    {σ : L2.St} {H : Hp} {Q : VK} (q : tE K (gUn op ga) σ H Q) : tE K ga σ H fun x H' => r x H' Q := by
  obtain ⟨G, p0, ρ, Hf, r', ρ', R, eg, k⟩ := q
  unfold gUn at eg
  simp only [Option.bind_eq_some_iff, Option.map_eq_some_iff, Prod.mk.injEq] at eg
  obtain ⟨⟨r1, ρ1⟩, e1, d1, e3, res, e5, rfl, rfl⟩ := eg
  refine ⟨G, p0, ρ, Hf, r1, ρ1, R, e1, fun x H1 Hf1 le1 R1 rr1 => ?_⟩
  refine hr x H1 Hf1 d1 res _ R1.fh (rr1.dt R1 e3) e5 fun v H' f => ?_
  obtain ⟨Hf3, le3, R4, rr⟩ := fin_ok R1 f
  exact k v H' Hf3 (le1.trans le3) R4 rr
def oNeg : D → Option Rv
  | .int i => some (.val (.int (-i)))
  | _ => none
theorem de_neg {g : GE} (h : DE X a g) : DE X (.UnaryOp .USub a pos) (gUn oNeg g) := (pe_un un_neg h).weak fun σ H Q q => un_tE (K := X.K) (r := rU fun i => .int (-i)) (fun x H Hf d res Q le dx e k => by
  cases d with
  | int i => cases e; exact ⟨i, dx.int, k _ _ ⟨rfl, .int _⟩⟩
  | _ => cases e) q

/-! ### subscripts -/
def oIx : D → D → Option Rv
  | .lst xs, .int i => (atI xs i).map .val
  | .fls xs, .int i => (atI xs i).map .val
  | .tup xs, .int i => (atI xs i).map .val
  | .str s, .int i => if s.length ≤ 16777216 then (atI s i).map fun c => .val (.str [c]) else none
  | _, _ => none
theorem atI_rp {K : PySem.W.Frag} {H : Hp} {vs : List V} {ds : List D} {i : Int} {d : D} (r : RpA K H vs ds) (e : atI ds i = some d) : ∃ v, atI vs i = some v ∧ Rp K H v d := by
  unfold atI at e ⊢
  rw [r.length]
  cases q : ixN ds.length i with
  | none => rw [q] at e; cases e
  | some j =>
    rw [q] at e
    exact r.get e
structure IxS (X : Cx) (op : D → D → Option Rv) : Prop where
  ex : ∃ r : R2, IxR X r ∧ ∀ x y H Hf d1 d2 res (Q : VK), Le Hf H → Dt X.K H Hf x d1 → Dt X.K H Hf y d2 → op d1 d2 = some res → (∀ v H', FinR X.K H Hf res v H' → Q v H') → r x y H Q
theorem ix_S : IxS X oIx := by
  refine ⟨_, ix_seq, fun x y H Hf d1 d2 res Q le dx dy e k => ?_⟩
  cases d1 with
  | lst xs =>
    cases d2 with
    | int i =>
      have e' : (atI xs i).map Rv.val = some res := e
      obtain ⟨d, e1, rfl⟩ := Option.map_eq_some_iff.mp e'
      obtain ⟨p, vs, rfl, hp, hr⟩ := dx.lst le
      obtain ⟨v, e2, rv⟩ := atI_rp hr e1
      exact .inl ⟨p, vs, i, v, rfl, dy.int, .inl (.inl hp), e2, k _ _ ⟨rfl, rv⟩⟩
    | _ => cases e
  | fls xs =>
    cases d2 with
    | int i =>
      have e' : (atI xs i).map Rv.val = some res := e
      obtain ⟨d, e1, rfl⟩ := Option.map_eq_some_iff.mp e'
      obtain ⟨p, vs, rfl, hp, hr⟩ := dx.fls le
      obtain ⟨v, e2, rv⟩ := atI_rp hr e1
      exact .inl ⟨p, vs, i, v, rfl, dy.int, hp, e2, k _ _ ⟨rfl, rv⟩⟩
    | _ => cases e
  | tup xs =>
    cases d2 with
    | int i =>
      have e' : (atI xs i).map Rv.val = some res := e
      obtain ⟨d, e1, rfl⟩ := Option.map_eq_some_iff.mp e'
      obtain ⟨p, vs, rfl, hp, hr⟩ := dx.tup le
      obtain ⟨v, e2, rv⟩ := atI_rp hr e1
      exact .inr (.inl ⟨p, vs, i, v, rfl, dy.int, hp, e2, k _ _ ⟨rfl, rv⟩⟩)
    | _ => cases e
  | str s =>
    cases d2 with
    | int i =>
      have e' : (if s.length ≤ 16777216 then (atI s i).map fun c => Rv.val (.str [c]) else none) = some res := e
      split at e'
      · rename_i c
        obtain ⟨ch, e1, rfl⟩ := Option.map_eq_some_iff.mp e'
        refine .inr (.inr ⟨mkS s, i, ch, dx.str, dy.int, by rw [mkS_len, line_is]; exact c, ?_, k _ _ ⟨rfl, .str [ch]⟩⟩)
        exact e1
      · cases e'
    | _ => cases e
  | _ => cases e
theorem de_ix {ga gb : GE} (ha : DE X a ga) (hb : DE X b gb) (hs : PlainIx b := by exact fun _ _ => rfl) : DE X (.Subscript a b pos) (gBin oIx ga gb) := by
  obtain ⟨r, h1, h2⟩ := (ix_S (X := X)).ex
  exact (pe_ix h1 ha hb hs).weak fun σ H Q q => bin_tE h2 q

/-! slices -/
def cutD {α : Type} (xs : List α) (lo hi : Option Int) : List α := (xs.drop (HT.sIx xs.length 0 lo)).take (HT.sIx xs.length xs.length hi - HT.sIx xs.length 0 lo)
def oSl : D → Option Int → Option Int → Option Rv
  | .lst xs, lo, hi => some (.newL (cutD xs lo hi))
  | .fls xs, lo, hi => some (.newL (cutD xs lo hi))
  | .tup xs, lo, hi => some (.newT (cutD xs lo hi))
  | .str s, lo, hi => if s.length ≤ 16777216 then some (.val (.str (cutD s lo hi))) else none
  | _, _, _ => none
theorem cut_rp {K : PySem.W.Frag} {H : Hp} {vs : List V} {ds : List D} (r : RpA K H vs ds) (lo hi : Option Int) : RpA K H (cutV vs lo hi) (cutD ds lo hi) := by
  unfold cutV cutD
  rw [r.length]
  exact (r.drop _).take _
theorem cut_whole {α : Type} {xs : List α} {lo hi : Option Int} (h : HT.sIx xs.length 0 lo = 0 ∧ HT.sIx xs.length xs.length hi = xs.length) : cutD xs lo hi = xs := by
  unfold cutD
  rw [h.1, h.2]
  simp
theorem sl_ok : ∃ r : V → Option Int → Option Int → Hp → VK → Prop, SlR X r ∧ ∀ x lo hi H Hf d res (Q : VK), Le Hf H → Dt X.K H Hf x d → oSl d lo hi = some res → (∀ v H', FinR X.K H Hf res v H' → Q v H') → r x lo hi H Q := by
  refine ⟨_, (sl_list.or sl_tupA).or sl_str, fun x lo hi H Hf d res Q le dx e k => ?_⟩
  cases d with
  | lst xs =>
    cases e
    obtain ⟨p, vs, rfl, hp, hr⟩ := dx.lst le
    exact .inl (.inl ⟨p, vs, rfl, .inl (.inl hp), fun l hl => k _ _ ⟨l, _, rfl, hl, cut_rp hr lo hi, rfl⟩⟩)
  | fls xs =>
    cases e
    obtain ⟨p, vs, rfl, hp, hr⟩ := dx.fls le
    exact .inl (.inl ⟨p, vs, rfl, hp, fun l hl => k _ _ ⟨l, _, rfl, hl, cut_rp hr lo hi, rfl⟩⟩)
  | tup xs =>
    cases e
    obtain ⟨p, vs, rfl, hp, hr⟩ := dx.tup le
    have dxf : Rp X.K Hf (.ref p) (.tup xs) := by
      rcases dx with h | ⟨_, _, _, _, h, _⟩
      · exact h
      · cases h
    refine .inl (.inr ⟨p, vs, rfl, hp, fun z => ?_, fun z l hl => k _ _ (.inl ⟨l, _, rfl, hl, cut_rp hr lo hi, rfl⟩)⟩)
    rw [hr.length] at z
    exact k _ _ (.inr ⟨rfl, by rw [cut_whole z]; exact dxf⟩)
  | str s =>
    have e' : (if s.length ≤ 16777216 then some (Rv.val (.str (cutD s lo hi))) else none) = some res := e
    split at e'
    · rename_i c
      cases e'
      refine .inr ⟨mkS s, dx.str, by rw [mkS_len, line_is]; exact c, ?_⟩
      have : cutS (mkS s) lo hi = mkS (cutD s lo hi) := by
        unfold cutS cutD
        rw [mkS_len]
        show (⟨_⟩ : Str) = ⟨_⟩
        have z : (mkS s).cps.toList = s := by simp [mkS]
        rw [z]
      rw [this]
      exact k _ _ ⟨rfl, .str _⟩
    · cases e'
  | _ => cases e
abbrev GP := Ev → Option (Option Int × Ev)
def gNoP : GP := fun ρ => some (none, ρ)
def gP (g : GE) : GP := fun ρ => (g ρ).bind fun p => match p.1 with
  | .fz (.int i) => some (some i, p.2)
  | _ => none
def tO (K : PySem.W.Frag) (g : GP) : TO := fun σ H Q => ∃ G p0 ρ Hf o ρ', Rel K G p0 σ H Hf ρ ∧ g ρ = some (o, ρ') ∧ ∀ H' Hf', Le Hf Hf' → Rel K G p0 σ H' Hf' ρ' → Q o H'
abbrev DO (X : Cx) (e : Option Expr) (g : GP) : Prop := PO X e (tO X.K g)
theorem _root_.L2.PO.weak {X : Cx} {e : Option Expr} {t t' : TO} (h : PO X e t) (w : ∀ σ H Q, t' σ H Q → t σ H Q) : PO X e t' := ⟨fun pins s σ H Q I q => h.run pins s σ H Q I (w _ _ _ q)⟩
theorem do_none : DO X none gNoP := po_none.weak fun σ H Q q => by
  obtain ⟨G, p0, ρ, Hf, o, ρ', R, eg, k⟩ := q
  cases eg
  exact k H Hf (Le.refl _) R
theorem do_some {g : GE} (h : DE X e g) : DO X (some e) (gP g) := (po_some h).weak fun σ H Q q => by
  obtain ⟨G, p0, ρ, Hf, o, ρ', R, eg, k⟩ := q
  unfold gP at eg
  rw [Option.bind_eq_some_iff] at eg
  obtain ⟨⟨r, ρ1⟩, e1, e2⟩ := eg
  cases r with
  | fz d =>
    cases d with
    | int i =>
      cases e2
      refine ⟨G, p0, ρ, Hf, _, ρ1, R, e1, fun v H' Hf' le R' rr => ?_⟩
      cases rr
      exact ⟨i, rfl, k H' Hf' le R'⟩
    | _ => cases e2
  | nw _ => cases e2
  | bw _ => cases e2
def gSl (ga : GE) (gl gu : GP) : GE := fun ρ => (ga ρ).bind fun p1 => (gl p1.2).bind fun p2 => (gu p2.2).bind fun p3 => (dat p3.2 p1.1).bind fun d => (oSl d p2.1 p3.1).map fun r => (r.res, p3.2)
theorem de_sl {ga : GE} {gl gu : GP} {lo hi : Option Expr} {p2 : Pos} (ha : DE X a ga) (hl : DO X lo gl) (hu : DO X hi gu) : DE X (.Subscript a (.Slice lo hi none p2) pos) (gSl ga gl gu) := by
  obtain ⟨r, h1, h2⟩ := sl_ok (X := X)
  refine (pe_slice h1 ha hl hu).weak fun σ H Q q => ?_
  obtain ⟨G, p0, ρ, Hf, r', ρ', R, eg, k⟩ := q
  unfold gSl at eg
  simp only [Option.bind_eq_some_iff, Option.map_eq_some_iff, Prod.mk.injEq] at eg
  obtain ⟨⟨r1, ρ1⟩, e1, ⟨o2, ρ2⟩, e2, ⟨o3, ρ3⟩, e3, d, e4, res, e5, rfl, rfl⟩ := eg
  refine ⟨G, p0, ρ, Hf, r1, ρ1, R, e1, fun x H1 Hf1 le1 R1 rr1 => ?_⟩
  obtain ⟨G1, R1', back⟩ := keep_pending R1 rr1
  refine ⟨G1, p0, ρ1, Hf1, o2, ρ2, R1', e2, fun H2 Hf2 le2 R2 => ⟨G1, p0, ρ2, Hf2, o3, ρ3, R2, e3, fun H3 Hf3 le3 R3 => ?_⟩⟩
  obtain ⟨R4, dx⟩ := back H3 Hf3 ρ3 d (le2.trans le3) R3 e4
  refine h2 x o2 o3 H3 Hf3 d res _ R4.fh dx e5 fun v H' f => ?_
  obtain ⟨Hf4, le4, R5, rr⟩ := fin_ok R4 f
  exact k v H' Hf4 (((le1.trans le2).trans le3).trans le4) R5 rr
end
end DL
end

section
set_option Elab.async false
set_option linter.all false
set_option maxRecDepth 100000
set_option maxHeartbeats 4000000
/-! # Freezing, displays, calls of built-ins, methods of lists -/
namespace DL
open PySem PySem.Spec L2 StX

def Ev.put (ρ : Ev) (i : Nat) (s : Sl) : Ev := ⟨ρ.io, ρ.sl.set i s⟩
def frz (ρ : Ev) : Res → Option (D × Ev)
  | .fz d => some (d, ρ)
  | .nw ds => some (.lst ds, ρ)
  | .bw i => match ρ.sl[i]? with
    | some (.ow ds) => if (ρ.io && i == 0) = true then none else some (.lst ds, ρ.put i (.fz (.lst ds)))
    | some (.fz d) => some (d, ρ)
    | _ => none
section
variable {K : PySem.W.Frag} {G Hf H : Hp} {p0 : Addr} {σ : L2.St} {ρ ρ' : Ev} {v : V}
theorem get_put {ρ : Ev} {i j : Nat} {s : Sl} : (ρ.put i s).sl[j]? = if i = j then (if j < ρ.sl.length then some s else none) else ρ.sl[j]? := by
  unfold Ev.put
  rw [List.getElem?_set]
  by_cases h : i = j
  · subst h
    rw [if_pos rfl]
  · rw [if_neg h, if_neg h]
/-- an owned slot's list goes over into the frozen part -/
theorem Rel.thaw {i : Nat} {ds : List D} (R : Rel K G p0 σ H Hf ρ) (e : ρ.sl[i]? = some (.ow ds)) (hio : (ρ.io && i == 0) = false) :
    ∃ p vs, σ[i]? = some (some (V.ref p)) ∧ H p = some (.lst vs) ∧ Hf p = none ∧ Rel K G p0 σ H (upd Hf p (.lst vs)) (ρ.put i (.fz (.lst ds))) ∧ RpA K Hf vs ds := by
  obtain ⟨p, vs, h1, h2, h3, h4, h5⟩ := R.ow i ds e
  have hlt : i < ρ.sl.length := (List.getElem?_eq_some_iff.mp e).1
  refine ⟨p, vs, h1, h2, h3, ⟨fun b u q => ?_, R.gh, fun b u q => ?_, fun j d q => ?_, fun j es q => ?_, fun j k es fs q e1 e2 e3 e4 => ?_, fun q => ?_, ?_⟩, h5⟩
  · by_cases z : b = p
    · subst z; rw [upd_same] at q; cases q; exact h2
    · rw [upd_ne z] at q; exact R.fh b u q
  · have n := R.gf b u q
    by_cases z : b = p
    · subst z; rw [h4] at q; cases q
    · rw [upd_ne z]; exact n
  · rw [get_put] at q
    by_cases z : i = j
    · subst z
      rw [if_pos rfl, if_pos hlt] at q
      cases q
      exact ⟨_, h1, .lst upd_same (h5.le (le_upd h3))⟩
    · rw [if_neg z] at q
      obtain ⟨w, g1, g2⟩ := R.fz j d q
      exact ⟨w, g1, g2.le (le_upd h3)⟩
  · rw [get_put] at q
    by_cases z : i = j
    · subst z
      rw [if_pos rfl, if_pos hlt] at q
      cases q
    · rw [if_neg z] at q
      obtain ⟨w, us, g1, g2, g3, g4, g5⟩ := R.ow j es q
      have : w ≠ p := fun zz => z (R.ap i j ds es p e q h1 (by rw [← zz]; exact g1))
      exact ⟨w, us, g1, g2, by rw [upd_ne this]; exact g3, g4, g5.le (le_upd h3)⟩
  · rw [get_put] at e1 e2
    by_cases z : i = j
    · subst z; rw [if_pos rfl, if_pos hlt] at e1; cases e1
    · rw [if_neg z] at e1
      by_cases z2 : i = k
      · subst z2; rw [if_pos rfl, if_pos hlt] at e2; cases e2
      · rw [if_neg z2] at e2
        exact R.ap j k es fs q e1 e2 e3 e4
  · have q' : ρ.io = true := q
    obtain ⟨g1, es, g2⟩ := R.io q'
    rw [q'] at hio
    have z : i ≠ 0 := fun z => by subst z; simp at hio
    exact ⟨g1, es, by rw [get_put, if_neg z]; exact g2⟩
  · show (ρ.sl.set i _).length = _
    rw [List.length_set]; exact R.len
theorem frz_ok {r : Res} {d : D} (R : Rel K G p0 σ H Hf ρ) (h : RR K G σ H Hf ρ v r) (e : frz ρ r = some (d, ρ')) : ∃ Hf', Le Hf Hf' ∧ Rel K G p0 σ H Hf' ρ' ∧ Rp K Hf' v d := by
  cases r with
  | fz d' => cases e; exact ⟨Hf, Le.refl _, R, h⟩
  | nw ds =>
    cases e
    obtain ⟨p, vs, rfl, h2, h3, h4, h5, h6⟩ := h
    exact ⟨_, le_upd h3, R.freeze h2 h3 h4 h6, .lst upd_same (h5.le (le_upd h3))⟩
  | bw i =>
    obtain ⟨h1, ds, h2⟩ := h
    have e' : (match ρ.sl[i]? with
      | some (.ow ds) => if (ρ.io && i == 0) = true then none else some (D.lst ds, ρ.put i (.fz (.lst ds)))
      | some (.fz d) => some (d, ρ)
      | _ => none) = some (d, ρ') := e
    rw [h2] at e'
    have e' : (if (ρ.io && i == 0) = true then none else some (D.lst ds, ρ.put i (.fz (.lst ds)))) = some (d, ρ') := e'
    split at e'
    · cases e'
    · rename_i hio
      cases e'
      obtain ⟨p, vs, g1, g2, g3, g4, g5⟩ := R.thaw h2 (by simpa using hio)
      rw [h1] at g1; cases g1
      exact ⟨_, le_upd g3, g4, .lst upd_same (g5.le (le_upd g3))⟩
end

/-! ### lists of arguments -/
abbrev GA := Ev → Option (List D × Ev)
def tAr (K : PySem.W.Frag) (g : GA) : TA := fun σ H Q => ∃ G p0 ρ Hf ds ρ', Rel K G p0 σ H Hf ρ ∧ g ρ = some (ds, ρ') ∧
  ∀ vs H' Hf', Le Hf Hf' → Rel K G p0 σ H' Hf' ρ' → RpA K Hf' vs ds → Q vs H'
abbrev DA (X : Cx) (es : List Expr) (g : GA) : Prop := PA X es (tAr X.K g)
def aNil : GA := fun ρ => some ([], ρ)
def aCons (g : GE) (gs : GA) : GA := fun ρ => (g ρ).bind fun p => (frz p.2 p.1).bind fun q => (gs q.2).map fun s => (q.1 :: s.1, s.2)
def itemsOf : D → Option (List D)
  | .lst xs => some xs
  | .tup xs => some xs
  | .fls xs => some xs
  | _ => none
def aStar (g : GE) (gs : GA) : GA := fun ρ => (g ρ).bind fun p => (dat p.2 p.1).bind fun d => (itemsOf d).bind fun xs => (gs p.2).map fun s => (xs ++ s.1, s.2)
section
variable {X : Cx} {e : Expr} {es : List Expr} {pos p : Pos}
theorem da_nil : DA X [] aNil := pa_nil.weak fun σ H Q q => by
  obtain ⟨G, p0, ρ, Hf, ds, ρ', R, eg, k⟩ := q
  cases eg
  exact k [] H Hf (Le.refl _) R .nil
theorem da_cons {g : GE} {gs : GA} (h : DE X e g) (hs : DA X es gs) (hst : starEach (e :: es) X.env = (false, eval e X.env) :: starEach es X.env := by rfl) : DA X (e :: es) (aCons g gs) := (pa_cons h hs hst).weak fun σ H Q q => by
  obtain ⟨G, p0, ρ, Hf, ds, ρ', R, eg, k⟩ := q
  unfold aCons at eg
  simp only [Option.bind_eq_some_iff, Option.map_eq_some_iff, Prod.mk.injEq] at eg
  obtain ⟨⟨r, ρ1⟩, e1, ⟨d, ρ2⟩, e2, ⟨ds2, ρ3⟩, e3, rfl, rfl⟩ := eg
  refine ⟨G, p0, ρ, Hf, r, ρ1, R, e1, fun v H1 Hf1 le1 R1 rr => ?_⟩
  obtain ⟨Hf2, le2, R2, rp⟩ := frz_ok R1 rr e2
  exact ⟨G, p0, ρ2, Hf2, ds2, ρ3, R2, e3, fun vs H' Hf' le R' ra => k _ H' Hf' ((le1.trans le2).trans le) R' (.cons (rp.le le) ra)⟩
theorem items_dt {K : PySem.W.Frag} {H Hf : Hp} {d : D} {v : V} {xs : List D} (le : Le Hf H) (h : Dt K H Hf v d) (e : itemsOf d = some xs) : ∃ a vs, v = .ref a ∧ (SqT K H a vs ∨ SqL K H a vs) ∧ RpA K Hf vs xs := by
  cases d with
  | lst ys =>
    cases e
    obtain ⟨a, vs, h1, h2, h3⟩ := h.lst le
    exact ⟨a, vs, h1, .inr (.inl (.inl h2)), h3⟩
  | fls ys =>
    cases e
    obtain ⟨a, vs, h1, h2, h3⟩ := h.fls le
    exact ⟨a, vs, h1, .inr h2, h3⟩
  | tup ys =>
    cases e
    obtain ⟨a, vs, h1, h2, h3⟩ := h.tup le
    exact ⟨a, vs, h1, .inl h2, h3⟩
  | _ => cases e
theorem da_star {g : GE} {gs : GA} (h : DE X e g) (hs : DA X es gs) (hst : starEach (.Starred e p :: es) X.env = (true, eval e X.env) :: starEach es X.env := by rfl) : DA X (.Starred e p :: es) (aStar g gs) := (pa_star h hs hst).weak fun σ H Q q => by
  obtain ⟨G, p0, ρ, Hf, ds, ρ', R, eg, k⟩ := q
  unfold aStar at eg
  simp only [Option.bind_eq_some_iff, Option.map_eq_some_iff, Prod.mk.injEq] at eg
  obtain ⟨⟨r, ρ1⟩, e1, d, e2, xs, e3, ⟨ds2, ρ3⟩, e4, rfl, rfl⟩ := eg
  refine ⟨G, p0, ρ, Hf, r, ρ1, R, e1, fun v H1 Hf1 le1 R1 rr => ?_⟩
  obtain ⟨a, vs, h1, h2, h3⟩ := items_dt R1.fh (rr.dt R1 e2) e3
  refine ⟨a, vs, h1, h2, G, p0, ρ1, Hf1, ds2, ρ3, R1, e4, fun us H' Hf' le R' ra => k _ H' Hf' (le1.trans le) R' ((h3.le le).append ra)⟩

/-! ### displays -/
def gTup (g : GA) : GE := fun ρ => (g ρ).bind fun p => if p.1.length ≤ 16777216 then some (.fz (.tup p.1), p.2) else none
def gLst (g : GA) : GE := fun ρ => (g ρ).bind fun p => if p.1.length ≤ 16777216 then some (.nw p.1, p.2) else none
theorem de_tup {g : GA} {j} (h : DA X es g) : DE X (.Tuple es j pos) (gTup g) := (pe_tup h).weak fun σ H Q q => by
  obtain ⟨G, p0, ρ, Hf, r, ρ', R, eg, k⟩ := q
  unfold gTup at eg
  rw [Option.bind_eq_some_iff] at eg
  obtain ⟨⟨ds, ρ1⟩, e1, e2⟩ := eg
  split at e2
  · rename_i c
    cases e2
    refine ⟨G, p0, ρ, Hf, ds, ρ1, R, e1, fun vs H1 Hf1 le1 R1 ra => ⟨by rw [ra.length, line_is]; exact c, fun a ha => ?_⟩⟩
    obtain ⟨Hf2, le2, R2, rr⟩ := fin_ok R1 (r := .newT ds) (.inl ⟨a, vs, rfl, ha, ra, rfl⟩)
    exact k _ _ Hf2 (le1.trans le2) R2 rr
  · cases e2
theorem de_lst {g : GA} (h : DA X es g) : DE X (.List es pos) (gLst g) := (pe_lst h).weak fun σ H Q q => by
  obtain ⟨G, p0, ρ, Hf, r, ρ', R, eg, k⟩ := q
  unfold gLst at eg
  rw [Option.bind_eq_some_iff] at eg
  obtain ⟨⟨ds, ρ1⟩, e1, e2⟩ := eg
  split at e2
  · rename_i c
    cases e2
    refine ⟨G, p0, ρ, Hf, ds, ρ1, R, e1, fun vs H1 Hf1 le1 R1 ra => ⟨by rw [ra.length, line_is]; exact c, fun a ha => ?_⟩⟩
    obtain ⟨Hf2, le2, R2, rr⟩ := fin_ok R1 (r := .newL ds) ⟨a, vs, rfl, ha, ra, rfl⟩
    exact k _ _ Hf2 (le1.trans le2) R2 rr
  · cases e2

/-! ### built-ins of one argument -/
structure CallS (X : Cx) (f : Value) (op : D → Option Rv) : Prop where
  ex : ∃ r : List V → Hp → VK → Prop, CallR X f r ∧ ∀ x H Hf d res (Q : VK), Le Hf H → Dt X.K H Hf x d → op d = some res → (∀ v H', FinR X.K H Hf res v H' → Q v H') → r [x] H Q
theorem de_callB {x : Str} {id : String} {op : D → Option Rv} {g : GE} {p pos : Pos} (hc : CallS X (.builtin id) op) (hm : X.mg x = none) (hv : bootBuiltins x = some (.builtin id)) (h : DE X e g) (hg : Gl X x := by rfl) (hn : x ≠ "__name__" := by decide) (hdb : (x == ("__debug__" : Str)) = false := by decide)
    (he : starEach [e] X.env = (false, eval e X.env) :: starEach [] X.env := by rfl) (hpl : (backTo pos (starEach [] X.env)).any (·.1) = false := by rfl) : DE X (.Call (.Name x p) [e] [] pos) (gUn op g) := by
  obtain ⟨r, h1, h2⟩ := hc.ex
  exact (pe_callB h1 hg hm hv (pa_cons h pa_nil he) hn hdb he hpl).weak fun σ H Q q => un_tE (r := fun x H Q => r [x] H Q) h2 q
theorem de_callTy {x : Str} {T : String} {op : D → Option Rv} {g : GE} {p pos : Pos} (hc : CallS X (.type T) op) (hm : X.mg x = none) (hv : bootBuiltins x = some (.type T)) (h : DE X e g) (hg : Gl X x := by rfl) (hn : x ≠ "__name__" := by decide) (hdb : (x == ("__debug__" : Str)) = false := by decide)
    (he : starEach [e] X.env = (false, eval e X.env) :: starEach [] X.env := by rfl) (hpl : (backTo pos (starEach [] X.env)).any (·.1) = false := by rfl) : DE X (.Call (.Name x p) [e] [] pos) (gUn op g) := by
  obtain ⟨r, h1, h2⟩ := hc.ex
  exact (pe_callTy h1 hg hm hv (pa_cons h pa_nil he) hn hdb he hpl).weak fun σ H Q q => un_tE (r := fun x H Q => r [x] H Q) h2 q
theorem CallR.or {f : Value} {r r' : List V → Hp → VK → Prop} (h : CallR X f r) (h' : CallR X f r') : CallR X f (fun xs H Q => r xs H Q ∨ r' xs H Q) := by
  intro pins s σ H xs us Q I rx q
  rcases q with q | q
  · exact h pins s σ H xs us Q I rx q
  · exact h' pins s σ H xs us Q I rx q
def oLen : D → Option Rv
  | .str s => if s.length ≤ 16777216 then some (.val (.int s.length)) else none
  | .lst xs => some (.val (.int xs.length))
  | .fls xs => some (.val (.int xs.length))
  | .tup xs => some (.val (.int xs.length))
  | _ => none
theorem c_len : CallS X (.builtin "len") oLen := by
  refine ⟨_, call_len, fun x H Hf d res Q le dx e k => ?_⟩
  cases d with
  | str s =>
    have e' : (if s.length ≤ 16777216 then some (Rv.val (.int s.length)) else none) = some res := e
    split at e'
    · rename_i c
      cases e'
      refine ⟨_, s.length, rfl, ?_, k _ _ ⟨rfl, .int _⟩⟩
      rw [dx.str]
      exact ⟨by rw [mkS_len, line_is]; exact c, by rw [mkS_len]⟩
    · cases e'
  | lst xs =>
    cases e
    obtain ⟨p, vs, rfl, h1, h2⟩ := dx.lst le
    exact ⟨_, xs.length, rfl, .inl ⟨vs, .inl (.inl h1), h2.length.symm⟩, k _ _ ⟨rfl, .int _⟩⟩
  | fls xs =>
    cases e
    obtain ⟨p, vs, rfl, h1, h2⟩ := dx.fls le
    exact ⟨_, xs.length, rfl, .inl ⟨vs, h1, h2.length.symm⟩, k _ _ ⟨rfl, .int _⟩⟩
  | tup xs =>
    cases e
    obtain ⟨p, vs, rfl, h1, h2⟩ := dx.tup le
    exact ⟨_, xs.length, rfl, .inr ⟨vs, h1, h2.length.symm⟩, k _ _ ⟨rfl, .int _⟩⟩
  | _ => cases e
def oAbs : D → Option Rv
  | .int i => some (.val (.int (if i < 0 then -i else i)))
  | _ => none
theorem c_abs : CallS X (.builtin "abs") oAbs := by
  refine ⟨_, call_abs, fun x H Hf d res Q le dx e k => ?_⟩
  cases d with
  | int i => cases e; exact ⟨i, by rw [dx.int], k _ _ ⟨rfl, .int _⟩⟩
  | _ => cases e
def oInt : D → Option Rv
  | .int i => some (.val (.int i))
  | .bl b => some (.val (.int (if b then 1 else 0)))
  | _ => none
theorem c_int : CallS X (.type "int") oInt := by
  refine ⟨_, call_int1, fun x H Hf d res Q le dx e k => ?_⟩
  cases d with
  | int i => cases e; exact .inl ⟨i, by rw [dx.int], k _ _ ⟨rfl, .int _⟩⟩
  | bl b => cases e; exact .inr ⟨b, by rw [dx.bl], k _ _ ⟨rfl, .int _⟩⟩
  | _ => cases e
def oBool : D → Option Rv
  | .int i => some (.val (.bl (i != 0)))
  | .bl b => some (.val (.bl b))
  | _ => none
theorem c_bool : CallS X (.type "bool") oBool := by
  refine ⟨_, call_bool1, fun x H Hf d res Q le dx e k => ?_⟩
  cases d with
  | int i => cases e; exact .inl ⟨i, by rw [dx.int], k _ _ ⟨rfl, .bl _⟩⟩
  | bl b => cases e; exact .inr ⟨b, by rw [dx.bl], k _ _ ⟨rfl, .bl _⟩⟩
  | _ => cases e
def oTuple : D → Option Rv
  | .lst xs => some (.newT xs)
  | .fls xs => some (.newT xs)
  | .tup xs => some (.val (.tup xs))
  | _ => none
theorem Dt.tupF {K : PySem.W.Frag} {H Hf : Hp} {v : V} {xs : List D} (dx : Dt K H Hf v (.tup xs)) : Rp K Hf v (.tup xs) := by
  rcases dx with h | ⟨_, _, _, _, h, _⟩
  · exact h
  · cases h
theorem c_tuple : CallS X (.type "tuple") oTuple := by
  refine ⟨_, call_tuple_of, fun x H Hf d res Q le dx e k => ?_⟩
  cases d with
  | lst xs =>
    cases e
    obtain ⟨p, vs, rfl, h1, h2⟩ := dx.lst le
    exact ⟨p, vs, rfl, .inl ⟨.inl (.inl h1), fun l hl => k _ _ (.inl ⟨l, vs, rfl, hl, h2, rfl⟩)⟩⟩
  | fls xs =>
    cases e
    obtain ⟨p, vs, rfl, h1, h2⟩ := dx.fls le
    exact ⟨p, vs, rfl, .inl ⟨h1, fun l hl => k _ _ (.inl ⟨l, vs, rfl, hl, h2, rfl⟩)⟩⟩
  | tup xs =>
    cases e
    obtain ⟨p, vs, rfl, h1, h2⟩ := dx.tup le
    exact ⟨p, vs, rfl, .inr ⟨h1, k _ _ ⟨rfl, dx.tupF⟩⟩⟩
  | _ => cases e
def oList : D → Option Rv
  | .lst xs => some (.newL xs)
  | .fls xs => some (.newL xs)
  | .tup xs => some (.newL xs)
  | _ => none
theorem c_list : CallS X (.type "list") oList := by
  refine ⟨_, call_list_of, fun x H Hf d res Q le dx e k => ?_⟩
  cases d with
  | lst xs =>
    cases e
    obtain ⟨p, vs, rfl, h1, h2⟩ := dx.lst le
    exact ⟨p, vs, rfl, .inl (.inl (.inl h1)), fun l hl => k _ _ ⟨l, vs, rfl, hl, h2, rfl⟩⟩
  | fls xs =>
    cases e
    obtain ⟨p, vs, rfl, h1, h2⟩ := dx.fls le
    exact ⟨p, vs, rfl, .inl h1, fun l hl => k _ _ ⟨l, vs, rfl, hl, h2, rfl⟩⟩
  | tup xs =>
    cases e
    obtain ⟨p, vs, rfl, h1, h2⟩ := dx.tup le
    exact ⟨p, vs, rfl, .inr h1, fun l hl => k _ _ ⟨l, vs, rfl, hl, h2, rfl⟩⟩
  | _ => cases e
def blsD : List D → Option (List Bool)
  | [] => some []
  | .bl b :: r => (blsD r).map (b :: ·)
  | _ :: _ => none
theorem bls_vs {K : PySem.W.Frag} {H : Hp} : ∀ {ds : List D} {vs : List V} {bs : List Bool}, RpA K H vs ds → blsD ds = some bs → vs = bs.map V.bl
  | [], _, _, r, e => by cases r; cases e; rfl
  | d :: ds, _, bs, r, e => by
    cases r with
    | cons h t =>
      cases d with
      | bl b =>
        have e' : (blsD ds).map (b :: ·) = some bs := e
        obtain ⟨cs, e1, rfl⟩ := Option.map_eq_some_iff.mp e'
        cases h
        rw [bls_vs t e1]; rfl
      | _ => cases e
def intsD : List D → Option (List Int)
  | [] => some []
  | .int b :: r => (intsD r).map (b :: ·)
  | _ :: _ => none
theorem ints_vs {K : PySem.W.Frag} {H : Hp} : ∀ {ds : List D} {vs : List V} {bs : List Int}, RpA K H vs ds → intsD ds = some bs → vs = bs.map V.int
  | [], _, _, r, e => by cases r; cases e; rfl
  | d :: ds, _, bs, r, e => by
    cases r with
    | cons h t =>
      cases d with
      | int b =>
        have e' : (intsD ds).map (b :: ·) = some bs := e
        obtain ⟨cs, e1, rfl⟩ := Option.map_eq_some_iff.mp e'
        cases h
        rw [ints_vs t e1]; rfl
      | _ => cases e
def strsD : List D → Option (List (List Nat))
  | [] => some []
  | .str b :: r => (strsD r).map (b :: ·)
  | _ :: _ => none
theorem strs_vs {K : PySem.W.Frag} {H : Hp} : ∀ {ds : List D} {vs : List V} {bs : List (List Nat)}, RpA K H vs ds → strsD ds = some bs → vs = (bs.map mkS).map V.str
  | [], _, _, r, e => by cases r; cases e; rfl
  | d :: ds, _, bs, r, e => by
    cases r with
    | cons h t =>
      cases d with
      | str b =>
        have e' : (strsD ds).map (b :: ·) = some bs := e
        obtain ⟨cs, e1, rfl⟩ := Option.map_eq_some_iff.mp e'
        cases h
        rw [strs_vs t e1]; rfl
      | _ => cases e
def oAll : D → Option Rv
  | .lst xs => (blsD xs).map fun bs => .val (.bl (bs.all id))
  | _ => none
theorem c_all (hc : X.calm = true := by rfl) : CallS X (.builtin "all") oAll := by
  refine ⟨_, cr_all hc, fun x H Hf d res Q le dx e k => ?_⟩
  cases d with
  | lst xs =>
    have e' : (blsD xs).map (fun bs => Rv.val (.bl (bs.all id))) = some res := e
    obtain ⟨bs, e1, rfl⟩ := Option.map_eq_some_iff.mp e'
    obtain ⟨p, vs, rfl, h1, h2⟩ := dx.lst le
    have := bls_vs h2 e1
    subst this
    exact ⟨p, bs, rfl, .inl (.inl h1), k _ _ ⟨rfl, .bl _⟩⟩
  | _ => cases e
def oAny : D → Option Rv
  | .lst xs => (blsD xs).map fun bs => .val (.bl (bs.any id))
  | _ => none
theorem c_any (hc : X.calm = true := by rfl) : CallS X (.builtin "any") oAny := by
  refine ⟨_, cr_any hc, fun x H Hf d res Q le dx e k => ?_⟩
  cases d with
  | lst xs =>
    have e' : (blsD xs).map (fun bs => Rv.val (.bl (bs.any id))) = some res := e
    obtain ⟨bs, e1, rfl⟩ := Option.map_eq_some_iff.mp e'
    obtain ⟨p, vs, rfl, h1, h2⟩ := dx.lst le
    have := bls_vs h2 e1
    subst this
    exact ⟨p, bs, rfl, .inl (.inl h1), k _ _ ⟨rfl, .bl _⟩⟩
  | _ => cases e
def oSum : D → Option Rv
  | .lst xs => (intsD xs).map fun bs => .val (.int bs.sum)
  | _ => none
theorem c_sum (hc : X.calm = true := by rfl) : CallS X (.builtin "sum") oSum := by
  refine ⟨_, cr_sum hc, fun x H Hf d res Q le dx e k => ?_⟩
  cases d with
  | lst xs =>
    have e' : (intsD xs).map (fun bs => Rv.val (.int bs.sum)) = some res := e
    obtain ⟨bs, e1, rfl⟩ := Option.map_eq_some_iff.mp e'
    obtain ⟨p, vs, rfl, h1, h2⟩ := dx.lst le
    have := ints_vs h2 e1
    subst this
    exact ⟨p, bs, rfl, .inl (.inl h1), k _ _ ⟨rfl, .int _⟩⟩
  | _ => cases e
def maxI : List Int → Int
  | [] => 0
  | [a] => a
  | a :: r => max a (maxI r)
def minI : List Int → Int
  | [] => 0
  | [a] => a
  | a :: r => min a (minI r)
theorem maxI_spec : ∀ l : List Int, l ≠ [] → maxI l ∈ l ∧ ∀ y ∈ l, y ≤ maxI l
  | [], h => absurd rfl h
  | [a], _ => by simp [maxI]
  | a :: b :: r, _ => by
    obtain ⟨h1, h2⟩ := maxI_spec (b :: r) (by simp)
    show max a (maxI (b :: r)) ∈ a :: b :: r ∧ ∀ y ∈ a :: b :: r, y ≤ max a (maxI (b :: r))
    constructor
    · by_cases z : a ≤ maxI (b :: r)
      · rw [Int.max_eq_right z]; exact List.mem_cons_of_mem _ h1
      · rw [Int.max_eq_left (by omega)]; exact List.mem_cons_self
    · intro y hy
      rcases List.mem_cons.mp hy with rfl | hy
      · exact Int.le_max_left _ _
      · exact Int.le_trans (h2 y hy) (Int.le_max_right _ _)
theorem minI_spec : ∀ l : List Int, l ≠ [] → minI l ∈ l ∧ ∀ y ∈ l, minI l ≤ y
  | [], h => absurd rfl h
  | [a], _ => by simp [minI]
  | a :: b :: r, _ => by
    obtain ⟨h1, h2⟩ := minI_spec (b :: r) (by simp)
    show min a (minI (b :: r)) ∈ a :: b :: r ∧ ∀ y ∈ a :: b :: r, min a (minI (b :: r)) ≤ y
    constructor
    · by_cases z : minI (b :: r) ≤ a
      · rw [Int.min_eq_right z]; exact List.mem_cons_of_mem _ h1
      · rw [Int.min_eq_left (by omega)]; exact List.mem_cons_self
    · intro y hy
      rcases List.mem_cons.mp hy with rfl | hy
      · exact Int.min_le_left _ _
      · exact Int.le_trans (Int.min_le_right _ _) (h2 y hy)
def oMax : D → Option Rv
  | .lst xs => (intsD xs).bind fun bs => if bs = [] then none else some (.val (.int (maxI bs)))
  | _ => none
theorem c_max (hc : X.calm = true := by rfl) : CallS X (.builtin "max") oMax := by
  refine ⟨_, cr_max hc, fun x H Hf d res Q le dx e k => ?_⟩
  cases d with
  | lst xs =>
    have e' : ((intsD xs).bind fun bs => if bs = [] then none else some (Rv.val (.int (maxI bs)))) = some res := e
    obtain ⟨bs, e1, e2⟩ := Option.bind_eq_some_iff.mp e'
    split at e2
    · cases e2
    · rename_i hne
      cases e2
      obtain ⟨p, vs, rfl, h1, h2⟩ := dx.lst le
      have := ints_vs h2 e1
      subst this
      refine ⟨p, bs, rfl, .inl (.inl h1), List.length_pos_iff.mpr hne, fun m hm hle => ?_⟩
      have hs := maxI_spec bs hne
      have : m = maxI bs := Int.le_antisymm (hs.2 m hm) (hle _ hs.1)
      subst this
      exact k _ _ ⟨rfl, .int _⟩
  | _ => cases e
def oMin : D → Option Rv
  | .lst xs => (intsD xs).bind fun bs => if bs = [] then none else some (.val (.int (minI bs)))
  | _ => none
theorem c_min (hc : X.calm = true := by rfl) : CallS X (.builtin "min") oMin := by
  refine ⟨_, cr_min hc, fun x H Hf d res Q le dx e k => ?_⟩
  cases d with
  | lst xs =>
    have e' : ((intsD xs).bind fun bs => if bs = [] then none else some (Rv.val (.int (minI bs)))) = some res := e
    obtain ⟨bs, e1, e2⟩ := Option.bind_eq_some_iff.mp e'
    split at e2
    · cases e2
    · rename_i hne
      cases e2
      obtain ⟨p, vs, rfl, h1, h2⟩ := dx.lst le
      have := ints_vs h2 e1
      subst this
      refine ⟨p, bs, rfl, .inl (.inl h1), List.length_pos_iff.mpr hne, fun m hm hle => ?_⟩
      have hs := minI_spec bs hne
      have : m = minI bs := Int.le_antisymm (hle _ hs.1) (hs.2 m hm)
      subst this
      exact k _ _ ⟨rfl, .int _⟩
  | _ => cases e

/-! ### min(a, b), max(a, b) -/
structure CallS2 (X : Cx) (f : Value) (op : D → D → Option Rv) : Prop where
  ex : ∃ r : List V → Hp → VK → Prop, CallR X f r ∧ ∀ x y H Hf d1 d2 res (Q : VK), Le Hf H → Dt X.K H Hf x d1 → Dt X.K H Hf y d2 → op d1 d2 = some res → (∀ v H', FinR X.K H Hf res v H' → Q v H') → r [x, y] H Q
theorem de_callB2 {x : Str} {id : String} {op : D → D → Option Rv} {a b : Expr} {ga gb : GE} {p pos : Pos} (hc : CallS2 X (.builtin id) op) (hm : X.mg x = none) (hv : bootBuiltins x = some (.builtin id)) (ha : DE X a ga) (hb : DE X b gb) (hg : Gl X x := by rfl) (hn : x ≠ "__name__" := by decide) (hdb : (x == ("__debug__" : Str)) = false := by decide)
    (he : starEach [a, b] X.env = (false, eval a X.env) :: starEach [b] X.env := by rfl) (he2 : starEach [b] X.env = (false, eval b X.env) :: starEach [] X.env := by rfl) (hpl : (backTo pos (starEach [b] X.env)).any (·.1) = false := by rfl) : DE X (.Call (.Name x p) [a, b] [] pos) (gBin op ga gb) := by
  obtain ⟨r, h1, h2⟩ := hc.ex
  exact (pe_callB h1 hg hm hv (pa_cons ha (pa_cons hb pa_nil he2) he) hn hdb he hpl).weak fun σ H Q q => bin_tE (r := fun x y H Q => r [x, y] H Q) h2 q
def oMin2 : D → D → Option Rv
  | .int i, .int j => some (.val (.int (if j < i then j else i)))
  | _, _ => none
theorem c_min2 (hc : X.calm = true := by rfl) : CallS2 X (.builtin "min") oMin2 := by
  refine ⟨_, call_min2 hc, fun x y H Hf d1 d2 res Q le dx dy e k => ?_⟩
  cases d1 with
  | int i =>
    cases d2 with
    | int j => cases e; exact ⟨i, j, by rw [dx.int, dy.int], k _ _ ⟨rfl, .int _⟩⟩
    | _ => cases e
  | _ => cases e
def oMax2 : D → D → Option Rv
  | .int i, .int j => some (.val (.int (if j > i then j else i)))
  | _, _ => none
theorem c_max2 (hc : X.calm = true := by rfl) : CallS2 X (.builtin "max") oMax2 := by
  refine ⟨_, call_max2 hc, fun x y H Hf d1 d2 res Q le dx dy e k => ?_⟩
  cases d1 with
  | int i =>
    cases d2 with
    | int j => cases e; exact ⟨i, j, by rw [dx.int, dy.int], k _ _ ⟨rfl, .int _⟩⟩
    | _ => cases e
  | _ => cases e

/-! ### isinstance -/
def tyD : D → String
  | .non => "NoneType"
  | .bl _ => "bool"
  | .int _ => "int"
  | .str _ => "str"
  | .lst _ => "list"
  | .fls _ => "list"
  | .tup _ => "tuple"
  | .dic _ => "dict"
theorem Dt.tyx {K : PySem.W.Frag} {H Hf : Hp} {d : D} {v : V} (le : Le Hf H) (h : Dt K H Hf v d) : TyX K H v (.type (tyD d)) := by
  have sql : ∀ {a : Addr} {vs : List V}, SqL K H a vs → TyX K H (.ref a) (.type "list") := fun {a vs} q => by
    rcases q with (q | ⟨o, q⟩) | ⟨o, its, n, q1, q2, _⟩
    · exact .base (.lst q)
    · exact .base (.frz q)
    · exact .kList q1 q2
  have sqt : ∀ {a : Addr} {vs : List V}, SqT K H a vs → TyX K H (.ref a) (.type "tuple") := fun {a vs} q => by
    rcases q with (q | ⟨o, q⟩) | ⟨o, its, n, q1, q2, _⟩
    · exact .base (.tup q)
    · exact .fTuple q
    · exact .kTuple q1 q2
  cases d with
  | non => rw [h.non]; exact .base .non
  | bl b => rw [h.bl]; exact .base (.bl b)
  | int b => rw [h.int]; exact .base (.int b)
  | str b => rw [h.str]; exact .base (.str _)
  | lst xs => obtain ⟨p, vs, rfl, h1, h2⟩ := h.lst le; exact .base (.lst h1)
  | fls xs => obtain ⟨p, vs, rfl, h1, h2⟩ := h.fls le; exact sql h1
  | tup xs => obtain ⟨p, vs, rfl, h1, h2⟩ := h.tup le; exact sqt h1
  | dic xs => obtain ⟨p, vs, rfl, h1, h2⟩ := h.dic le; exact .base (.dK h1)
def isT (a b : String) : Bool := a == b || (a == "bool" && b == "int")
theorem kit_all : ∀ a ∈ ["NoneType", "bool", "int", "str", "list", "tuple", "dict"], ∀ b ∈ ["bool", "int", "str", "list", "tuple", "dict"], kitB a b = some (isT a b) := by decide +kernel
theorem tyD_mem (d : D) : tyD d ∈ ["NoneType", "bool", "int", "str", "list", "tuple", "dict"] := by cases d <;> simp [tyD]
def oIsi (T : String) (d : D) : Option Rv := some (.val (.bl (isT (tyD d) T)))
theorem de_isi {T : Str} {Ts : String} {g : GE} {p pos pT : Pos} (hm : X.mg "isinstance" = none) (hmT : X.mg T = none) (hvT : bootBuiltins T = some (.type Ts)) (hT : Ts ∈ ["bool", "int", "str", "list", "tuple", "dict"]) (h : DE X e g)
    (hg : Gl X "isinstance" := by rfl) (hgT : Gl X T := by rfl) (hnT : T ≠ "__name__" := by decide) (hdT : (T == ("__debug__" : Str)) = false := by decide)
    (he : starEach [e, .Name T pT] X.env = (false, eval e X.env) :: starEach [.Name T pT] X.env := by rfl) : DE X (.Call (.Name "isinstance" p) [e, .Name T pT] [] pos) (gUn (oIsi Ts) g) :=
  (pe_callB call_isi hg hm PyProof.Rows.boot_isinstance (pa_cons h (pa_cons (pe_bltn (v := .ty Ts) hgT hmT hvT rfl hnT hdT) pa_nil) he) (by decide) (by decide) he (by rfl)).weak fun σ H Q q =>
    un_tE (K := X.K) (op := oIsi Ts) (r := fun x H Q => rIsi X.K [x, .ty Ts] H Q) (fun x H Hf d res Q le dx e k => by
      cases e
      exact ⟨x, _, _, _, _, rfl, .ty Ts, dx.tyx le, kit_ty (kit_all _ (tyD_mem d) Ts hT), k _ _ ⟨rfl, .bl _⟩⟩) q
/-- isinstance(e, (T, U)) -/
def oIsi2 (T U : String) (d : D) : Option Rv := some (.val (.bl (isT (tyD d) T || isT (tyD d) U)))
theorem de_isi2 {T U : Str} {Ts Us : String} {g : GE} {j} {p pos pT pU pp : Pos} (hm : X.mg "isinstance" = none) (hmT : X.mg T = none) (hvT : bootBuiltins T = some (.type Ts)) (hT : Ts ∈ ["bool", "int", "str", "list", "tuple", "dict"])
    (hmU : X.mg U = none) (hvU : bootBuiltins U = some (.type Us)) (hU : Us ∈ ["bool", "int", "str", "list", "tuple", "dict"]) (h : DE X e g)
    (hg : Gl X "isinstance" := by rfl) (hgT : Gl X T := by rfl) (hnT : T ≠ "__name__" := by decide) (hdT : (T == ("__debug__" : Str)) = false := by decide) (hgU : Gl X U := by rfl) (hnU : U ≠ "__name__" := by decide) (hdU : (U == ("__debug__" : Str)) = false := by decide)
    (he : starEach [e, .Tuple [.Name T pT, .Name U pU] j pp] X.env = (false, eval e X.env) :: starEach [.Tuple [.Name T pT, .Name U pU] j pp] X.env := by rfl) : DE X (.Call (.Name "isinstance" p) [e, .Tuple [.Name T pT, .Name U pU] j pp] [] pos) (gUn (oIsi2 Ts Us) g) :=
  (pe_callB call_isiT hg hm PyProof.Rows.boot_isinstance (pa_cons h (pa_cons (pe_tup (pa_cons (pe_bltn (v := .ty Ts) hgT hmT hvT rfl hnT hdT) (pa_cons (pe_bltn (v := .ty Us) hgU hmU hvU rfl hnU hdU) pa_nil))) pa_nil) he) (by decide) (by decide) he (by rfl)).weak fun σ H Q q => by
    obtain ⟨G, p0, ρ, Hf, r', ρ', R, eg, k⟩ := q
    unfold gUn at eg
    simp only [Option.bind_eq_some_iff, Option.map_eq_some_iff, Prod.mk.injEq] at eg
    obtain ⟨⟨r1, ρ1⟩, e1, d, e3, res, e5, rfl, rfl⟩ := eg
    refine ⟨G, p0, ρ, Hf, r1, ρ1, R, e1, fun x H1 Hf1 le1 R1 rr1 => ?_⟩
    have dx := rr1.dt R1 e3
    refine ⟨by rw [line_is]; exact (by decide : 2 ≤ 16777216), fun p hp => ?_⟩
    cases e5
    have dx2 : Dt X.K (upd H1 p (.tup [.ty Ts, .ty Us])) Hf1 x d := by
      rcases dx with z | ⟨q, vs, ds, z1, z2, z3, z4⟩
      · exact .inl z
      · exact .inr ⟨q, vs, ds, z1, z2, by rw [upd_ne (ne_of_none z3 hp)]; exact z3, z4⟩
    have R2 := R1.alloc (o := .tup [.ty Ts, .ty Us]) hp
    refine ⟨x, p, _, _, [.type Ts, .type Us], _, rfl, upd_same, .cons (.ty Ts) (.cons (.ty Us) .nil), dx2.tyx R2.fh, kitAny_cons (r := isT (tyD d) Ts || isT (tyD d) Us) (kit_ty (kit_all _ (tyD_mem d) Ts hT)) (fun z => kitAny_cons (kit_ty (kit_all _ (tyD_mem d) Us hU)) (fun z2 => ?_) (fun z2 => ?_)) (fun z => ?_), k _ _ Hf1 le1 R2 (.bl _)⟩
    · rw [z, z2]; exact kitAny_nil
    · rw [z, z2]; rfl
    · rw [z]; rfl
end
end DL
end

section
set_option Elab.async false
set_option linter.all false
set_option maxRecDepth 100000
set_option maxHeartbeats 4000000
/-! # Statements over data -/
namespace DL
open PySem PySem.Spec L2 StX

inductive RF where
  | val (d : D) | new (ds : List D)
inductive Out where
  | nx (ρ : Ev) | rt (r : RF) (ρ : Ev) | bk (ρ : Ev) | ct (ρ : Ev)
abbrev GS := Ev → Option Out
def RRf (K : PySem.W.Frag) (G : Hp) (p0 : Addr) (H Hf : Hp) (ρ : Ev) (v : V) : RF → Prop
  | .val d => Rp K Hf v d
  | .new ds => ∃ p vs, v = .ref p ∧ H p = some (.lst vs) ∧ Hf p = none ∧ G p = none ∧ RpA K Hf vs ds ∧ (ρ.io = true → p ≠ p0)
def OutP (K : PySem.W.Frag) (G : Hp) (p0 : Addr) (Hf : Hp) (D : Ends) : Out → Prop
  | .nx ρ' => ∀ σ' H' Hf', Le Hf Hf' → Rel K G p0 σ' H' Hf' ρ' → D.nx σ' H'
  | .bk ρ' => ∀ σ' H' Hf', Le Hf Hf' → Rel K G p0 σ' H' Hf' ρ' → D.bk σ' H'
  | .ct ρ' => ∀ σ' H' Hf', Le Hf Hf' → Rel K G p0 σ' H' Hf' ρ' → D.ct σ' H'
  | .rt r ρ' => ∀ σ' v H' Hf', Le Hf Hf' → Rel K G p0 σ' H' Hf' ρ' → RRf K G p0 H' Hf' ρ' v r → D.rt v H'
def tS (K : PySem.W.Frag) (g : GS) : TS := fun D σ H => ∃ G p0 ρ Hf out, Rel K G p0 σ H Hf ρ ∧ g ρ = some out ∧ OutP K G p0 Hf D out
abbrev DS (X : Cx) (st : Stmt) (g : GS) : Prop := PS X st (tS X.K g)
abbrev DSs (X : Cx) (st : List Stmt) (g : GS) : Prop := PSs X st (tS X.K g)
theorem OutP.le {K : PySem.W.Frag} {G : Hp} {p0 : Addr} {Hf Hf1 : Hp} {D : Ends} {o : Out} (le : Le Hf Hf1) (h : OutP K G p0 Hf D o) : OutP K G p0 Hf1 D o := by
  cases o with
  | nx ρ => exact fun σ' H' Hf' l R => h σ' H' Hf' (le.trans l) R
  | bk ρ => exact fun σ' H' Hf' l R => h σ' H' Hf' (le.trans l) R
  | ct ρ => exact fun σ' H' Hf' l R => h σ' H' Hf' (le.trans l) R
  | rt r ρ => exact fun σ' v H' Hf' l R rr => h σ' v H' Hf' (le.trans l) R rr

def sNx : GS := fun ρ => some (.nx ρ)
def sBk : GS := fun ρ => some (.bk ρ)
def sCt : GS := fun ρ => some (.ct ρ)
def sSeq (g h : GS) : GS := fun ρ => (g ρ).bind fun o => match o with
  | .nx ρ1 => h ρ1
  | o => some o
def sIf (c : GT) (g h : GS) : GS := fun ρ => (c ρ).bind fun p => if p.1 = true then g p.2 else h p.2
def sNever : GS := fun _ => none
section
variable {X : Cx} {st : Stmt} {rest a b : List Stmt} {e c : Expr} {pos : Pos}
theorem dss_nil : DSs X [] sNx := pss_nil.weak fun D σ H q => by
  obtain ⟨G, p0, ρ, Hf, out, R, eg, k⟩ := q
  cases eg
  exact k σ H Hf (Le.refl _) R
theorem seq_tS {K : PySem.W.Frag} {g h : GS} {D : Ends} {σ : L2.St} {H : Hp} (q : tS K (sSeq g h) D σ H) : tSeq (tS K g) (tS K h) D σ H := by
  obtain ⟨G, p0, ρ, Hf, out, R, eg, k⟩ := q
  unfold sSeq at eg
  rw [Option.bind_eq_some_iff] at eg
  obtain ⟨o, e1, e2⟩ := eg
  refine ⟨G, p0, ρ, Hf, o, R, e1, ?_⟩
  cases o with
  | nx ρ1 => exact fun σ' H' Hf' le R' => ⟨G, p0, ρ1, Hf', out, R', e2, k.le le⟩
  | bk ρ1 => cases e2; exact k
  | ct ρ1 => cases e2; exact k
  | rt r ρ1 => cases e2; exact k
theorem dss_cons {g h : GS} (h1 : DS X st g) (h2 : DSs X rest h) : DSs X (st :: rest) (sSeq g h) := (pss_cons h1 h2).weak fun D σ H q => seq_tS q
theorem dss_one {g : GS} (h1 : DS X st g) : DSs X [st] g := (pss_one h1).weak fun D σ H q => q
theorem ds_pass : DS X (.Pass pos) sNx := ps_pass.weak fun D σ H q => by
  obtain ⟨G, p0, ρ, Hf, out, R, eg, k⟩ := q
  cases eg
  exact k σ H Hf (Le.refl _) R
theorem ds_break : DS X (.Break pos) sBk := ps_break.weak fun D σ H q => by
  obtain ⟨G, p0, ρ, Hf, out, R, eg, k⟩ := q
  cases eg
  exact k σ H Hf (Le.refl _) R
theorem ds_continue : DS X (.Continue pos) sCt := ps_continue.weak fun D σ H q => by
  obtain ⟨G, p0, ρ, Hf, out, R, eg, k⟩ := q
  cases eg
  exact k σ H Hf (Le.refl _) R
theorem ds_never : DS X st sNever := ps_never.weak fun D σ H q => by
  obtain ⟨G, p0, ρ, Hf, out, R, eg, k⟩ := q
  cases eg
theorem ds_if {gc : GT} {g h : GS} (hc : DT X c gc) (ha : DSs X a g) (hb : DSs X b h) : DS X (.If c a b pos) (sIf gc g h) := (ps_if hc ha hb).weak fun D σ H q => by
  obtain ⟨G, p0, ρ, Hf, out, R, eg, k⟩ := q
  unfold sIf at eg
  rw [Option.bind_eq_some_iff] at eg
  obtain ⟨⟨b1, ρ1⟩, e1, e2⟩ := eg
  refine ⟨G, p0, ρ, Hf, b1, ρ1, R, e1, fun H1 Hf1 le1 R1 => ?_⟩
  cases b1 with
  | true =>
    rw [if_pos rfl] at e2 ⊢
    exact ⟨G, p0, ρ1, Hf1, out, R1, e2, k.le le1⟩
  | false =>
    rw [if_neg Bool.false_ne_true] at e2 ⊢
    exact ⟨G, p0, ρ1, Hf1, out, R1, e2, k.le le1⟩
/-- what is handed back -/
def retR (ρ : Ev) : Res → Option RF
  | .fz d => some (.val d)
  | .nw ds => some (.new ds)
  | .bw i => match ρ.sl[i]? with
    | some (.ow ds) => if (ρ.io && i == 0) = true then none else some (.new ds)
    | some (.fz d) => some (.val d)
    | _ => none
def sRet (g : GE) : GS := fun ρ => (g ρ).bind fun p => (retR p.2 p.1).map fun r => .rt r p.2
theorem ret_ok {K : PySem.W.Frag} {G Hf H : Hp} {p0 : Addr} {σ : L2.St} {ρ : Ev} {v : V} {r : Res} {f : RF} (R : Rel K G p0 σ H Hf ρ) (h : RR K G σ H Hf ρ v r) (e : retR ρ r = some f) : RRf K G p0 H Hf ρ v f := by
  cases r with
  | fz d => cases e; exact h
  | nw ds =>
    cases e
    obtain ⟨p, vs, h1, h2, h3, h4, h5, h6⟩ := h
    refine ⟨p, vs, h1, h2, h3, h4, h5, fun q z => ?_⟩
    obtain ⟨g1, es, g2⟩ := R.io q
    exact h6 0 es g2 (by rw [z]; exact g1)
  | bw i =>
    obtain ⟨h1, ds, h2⟩ := h
    have e' : (match ρ.sl[i]? with
      | some (.ow ds) => if (ρ.io && i == 0) = true then none else some (RF.new ds)
      | some (.fz d) => some (.val d)
      | _ => none) = some f := e
    rw [h2] at e'
    have e' : (if (ρ.io && i == 0) = true then none else some (RF.new ds)) = some f := e'
    split at e'
    · cases e'
    · rename_i hio
      cases e'
      obtain ⟨p, vs, g1, g2, g3, g4, g5⟩ := R.ow i ds h2
      rw [h1] at g1; cases g1
      refine ⟨p, vs, rfl, g2, g3, g4, g5, fun q z => ?_⟩
      obtain ⟨k1, es, k2⟩ := R.io q
      have : i = 0 := R.ap i 0 ds es p h2 k2 h1 (by rw [z]; exact k1)
      subst this
      rw [q] at hio
      simp at hio
theorem ds_ret {g : GE} (h : DE X e g) : DS X (.Return (some e) pos) (sRet g) := (ps_ret h).weak fun D σ H q => by
  obtain ⟨G, p0, ρ, Hf, out, R, eg, k⟩ := q
  unfold sRet at eg
  simp only [Option.bind_eq_some_iff, Option.map_eq_some_iff] at eg
  obtain ⟨⟨r, ρ1⟩, e1, f, e2, rfl⟩ := eg
  exact ⟨G, p0, ρ, Hf, r, ρ1, R, e1, fun v H1 Hf1 le1 R1 rr => k σ v H1 Hf1 le1 R1 (ret_ok R1 rr e2)⟩
def sRetN : GS := fun ρ => some (.rt (.val .non) ρ)
theorem ds_retN : DS X (.Return none pos) sRetN := ps_retN.weak fun D σ H q => by
  obtain ⟨G, p0, ρ, Hf, out, R, eg, k⟩ := q
  cases eg
  exact k σ .non H Hf (Le.refl _) R .non
def sDrop (g : GE) : GS := fun ρ => (g ρ).map fun p => .nx p.2
theorem ds_expr {g : GE} (h : DE X e g) (hs : swapsWith e none pos.line X.env = pure false := by rfl) : DS X (.Expr e pos) (sDrop g) := (ps_expr h hs).weak fun D σ H q => by
  obtain ⟨G, p0, ρ, Hf, out, R, eg, k⟩ := q
  unfold sDrop at eg
  obtain ⟨⟨r, ρ1⟩, e1, rfl⟩ := Option.map_eq_some_iff.mp eg
  exact ⟨G, p0, ρ, Hf, r, ρ1, R, e1, fun v H1 Hf1 le1 R1 rr => k σ H1 Hf1 le1 R1⟩
end

/-! ### stores -/
/-- the slots outside vs are as they were -/
def SameOut (vs : List Nat) (σ σ' : L2.St) : Prop := σ'.length = σ.length ∧ ∀ j, j ∉ vs → σ'[j]? = σ[j]?
section
variable {K : PySem.W.Frag} {G Hf H : Hp} {p0 : Addr} {σ : L2.St} {ρ ρ' : Ev} {v : V}
/-- a frozen value into a slot -/
theorem Rel.setFz {i : Nat} {d : D} (R : Rel K G p0 σ H Hf ρ) (h : Rp K Hf v d) (hio : (ρ.io && i == 0) = false) : Rel K G p0 (σ.set i (some v)) H Hf (ρ.put i (.fz d)) where
  fh := R.fh
  gh := R.gh
  gf := R.gf
  fz := fun j e q => by
    rw [get_put] at q
    by_cases z : i = j
    · subst z
      rw [if_pos rfl] at q
      split at q
      · rename_i hl
        cases q
        exact ⟨v, by rw [List.getElem?_set_self (by rw [← R.len]; exact hl)], h⟩
      · cases q
    · rw [if_neg z] at q
      obtain ⟨w, g1, g2⟩ := R.fz j e q
      exact ⟨w, by rw [List.getElem?_set_ne z]; exact g1, g2⟩
  ow := fun j es q => by
    rw [get_put] at q
    by_cases z : i = j
    · subst z
      rw [if_pos rfl] at q
      split at q <;> cases q
    · rw [if_neg z] at q
      obtain ⟨w, us, g1, g2⟩ := R.ow j es q
      exact ⟨w, us, by rw [List.getElem?_set_ne z]; exact g1, g2⟩
  ap := fun j k es fs q e1 e2 e3 e4 => by
    rw [get_put] at e1 e2
    by_cases z : i = j
    · subst z; rw [if_pos rfl] at e1; split at e1 <;> cases e1
    · by_cases z2 : i = k
      · subst z2; rw [if_pos rfl] at e2; split at e2 <;> cases e2
      · rw [if_neg z] at e1
        rw [if_neg z2] at e2
        rw [List.getElem?_set_ne z] at e3
        rw [List.getElem?_set_ne z2] at e4
        exact R.ap j k es fs q e1 e2 e3 e4
  io := fun q => by
    have q' : ρ.io = true := q
    obtain ⟨g1, es, g2⟩ := R.io q'
    rw [q'] at hio
    have z : i ≠ 0 := fun z => by subst z; simp at hio
    exact ⟨by rw [List.getElem?_set_ne z]; exact g1, es, by rw [get_put, if_neg z]; exact g2⟩
  len := by
    show (ρ.sl.set i _).length = _
    rw [List.length_set, List.length_set]; exact R.len
/-- a new list into a slot, which then owns it -/
theorem Rel.setOw {i : Nat} {ds : List D} {p : Addr} {vs : List V} (R : Rel K G p0 σ H Hf ρ) (h2 : H p = some (.lst vs)) (h3 : Hf p = none) (h4 : G p = none) (h5 : RpA K Hf vs ds) (h6 : Un1 σ ρ p) (hio : (ρ.io && i == 0) = false) :
    Rel K G p0 (σ.set i (some (.ref p))) H Hf (ρ.put i (.ow ds)) where
  fh := R.fh
  gh := R.gh
  gf := R.gf
  fz := fun j e q => by
    rw [get_put] at q
    by_cases z : i = j
    · subst z
      rw [if_pos rfl] at q
      split at q <;> cases q
    · rw [if_neg z] at q
      obtain ⟨w, g1, g2⟩ := R.fz j e q
      exact ⟨w, by rw [List.getElem?_set_ne z]; exact g1, g2⟩
  ow := fun j es q => by
    rw [get_put] at q
    by_cases z : i = j
    · subst z
      rw [if_pos rfl] at q
      split at q
      · rename_i hl
        cases q
        exact ⟨p, vs, by rw [List.getElem?_set_self (by rw [← R.len]; exact hl)], h2, h3, h4, h5⟩
      · cases q
    · rw [if_neg z] at q
      obtain ⟨w, us, g1, g2⟩ := R.ow j es q
      exact ⟨w, us, by rw [List.getElem?_set_ne z]; exact g1, g2⟩
  ap := fun j k es fs q e1 e2 e3 e4 => by
    rw [get_put] at e1 e2
    by_cases z : i = j
    · subst z
      by_cases z2 : i = k
      · exact z2
      · rw [if_neg z2] at e2
        rw [List.getElem?_set_ne z2] at e4
        rw [if_pos rfl] at e1
        split at e1
        · rename_i hl
          rw [List.getElem?_set_self (by rw [← R.len]; exact hl)] at e3
          cases e3
          exact absurd e4 (h6 k fs e2)
        · cases e1
    · rw [if_neg z] at e1
      rw [List.getElem?_set_ne z] at e3
      by_cases z2 : i = k
      · subst z2
        rw [if_pos rfl] at e2
        split at e2
        · rename_i hl
          rw [List.getElem?_set_self (by rw [← R.len]; exact hl)] at e4
          cases e4
          exact absurd e3 (h6 j es e1)
        · cases e2
      · rw [if_neg z2] at e2
        rw [List.getElem?_set_ne z2] at e4
        exact R.ap j k es fs q e1 e2 e3 e4
  io := fun q => by
    have q' : ρ.io = true := q
    obtain ⟨g1, es, g2⟩ := R.io q'
    rw [q'] at hio
    have z : i ≠ 0 := fun z => by subst z; simp at hio
    exact ⟨by rw [List.getElem?_set_ne z]; exact g1, es, by rw [get_put, if_neg z]; exact g2⟩
  len := by
    show (ρ.sl.set i _).length = _
    rw [List.length_set, List.length_set]; exact R.len
/-- an owned list is changed -/
theorem Rel.chg {i : Nat} {ds ds' : List D} {p : Addr} {vs vs' : List V} (R : Rel K G p0 σ H Hf ρ) (e : ρ.sl[i]? = some (.ow ds)) (hs : σ[i]? = some (some (V.ref p))) (h : H p = some (.lst vs)) (h5 : RpA K Hf vs' ds') :
    Rel K G p0 σ (upd H p (.lst vs')) Hf (ρ.put i (.ow ds')) := by
  obtain ⟨p', us, g1, g2, g3, g4, g5⟩ := R.ow i ds e
  rw [hs] at g1; cases g1
  have hlt : i < ρ.sl.length := (List.getElem?_eq_some_iff.mp e).1
  refine ⟨fun b u q => ?_, fun b u q => ?_, R.gf, fun j d q => ?_, fun j es q => ?_, fun j k es fs q e1 e2 e3 e4 => ?_, fun q => ?_, ?_⟩
  · have z : b ≠ p := fun z => by subst z; rw [g3] at q; cases q
    rw [upd_ne z]; exact R.fh b u q
  · have z : b ≠ p := fun z => by subst z; rw [g4] at q; cases q
    rw [upd_ne z]; exact R.gh b u q
  · rw [get_put] at q
    by_cases z : i = j
    · subst z
      rw [if_pos rfl, if_pos hlt] at q
      cases q
    · rw [if_neg z] at q
      exact R.fz j d q
  · rw [get_put] at q
    by_cases z : i = j
    · subst z
      rw [if_pos rfl, if_pos hlt] at q
      cases q
      exact ⟨p, vs', hs, upd_same, g3, g4, h5⟩
    · rw [if_neg z] at q
      obtain ⟨w, ws, k1, k2, k3⟩ := R.ow j es q
      have : w ≠ p := fun zz => z (R.ap i j ds es p e q hs (by rw [← zz]; exact k1))
      exact ⟨w, ws, k1, by rw [upd_ne this]; exact k2, k3⟩
  · have back : ∀ (l : Nat) (gs : List D), (ρ.put i (.ow ds')).sl[l]? = some (.ow gs) → ∃ hs, ρ.sl[l]? = some (.ow hs) := fun l gs q => by
      rw [get_put] at q
      by_cases z : i = l
      · subst z; exact ⟨ds, e⟩
      · rw [if_neg z] at q; exact ⟨gs, q⟩
    obtain ⟨a1, b1⟩ := back j es e1
    obtain ⟨a2, b2⟩ := back k fs e2
    exact R.ap j k a1 a2 q b1 b2 e3 e4
  · have q' : ρ.io = true := q
    obtain ⟨k1, es, k2⟩ := R.io q'
    refine ⟨k1, ?_⟩
    by_cases z : i = 0
    · subst z
      exact ⟨ds', by rw [get_put, if_pos rfl, if_pos hlt]⟩
    · exact ⟨es, by rw [get_put, if_neg z]; exact k2⟩
  · show (ρ.sl.set i _).length = _
    rw [List.length_set]; exact R.len
end
/-- name = e -/
def setR (i : Nat) (ρ : Ev) (r : Res) : Option Ev := if (ρ.io && i == 0) = true then none else match r with
  | .fz d => some (ρ.put i (.fz d))
  | .nw ds => some (ρ.put i (.ow ds))
  | .bw j => (frz ρ (.bw j)).map fun p => p.2.put i (.fz p.1)
theorem frz_io {ρ ρ' : Ev} {r : Res} {d : D} (h : frz ρ r = some (d, ρ')) : ρ'.io = ρ.io := by
  cases r with
  | fz _ => cases h; rfl
  | nw _ => cases h; rfl
  | bw i =>
    have h' : (match ρ.sl[i]? with
      | some (.ow ds) => if (ρ.io && i == 0) = true then none else some (D.lst ds, ρ.put i (.fz (.lst ds)))
      | some (.fz d) => some (d, ρ)
      | _ => none) = some (d, ρ') := h
    cases q : ρ.sl[i]? with
    | none => rw [q] at h'; cases h'
    | some x =>
      rw [q] at h'
      cases x with
      | un => cases h'
      | fz _ => cases h'; rfl
      | ow ds =>
        have h' : (if (ρ.io && i == 0) = true then none else some (D.lst ds, ρ.put i (.fz (.lst ds)))) = some (d, ρ') := h'
        split at h'
        · cases h'
        · cases h'; rfl
theorem setR_ok {K : PySem.W.Frag} {G Hf H : Hp} {p0 : Addr} {σ : L2.St} {ρ ρ' : Ev} {v : V} {i : Nat} {r : Res} (R : Rel K G p0 σ H Hf ρ) (h : RR K G σ H Hf ρ v r) (e : setR i ρ r = some ρ') :
    ∃ Hf', Le Hf Hf' ∧ Rel K G p0 (σ.set i (some v)) H Hf' ρ' := by
  unfold setR at e
  split at e
  · cases e
  · rename_i hio
    have hio : (ρ.io && i == 0) = false := by simpa using hio
    cases r with
    | fz d => cases e; exact ⟨Hf, Le.refl _, R.setFz h hio⟩
    | nw ds =>
      cases e
      obtain ⟨p, vs, rfl, h2, h3, h4, h5, h6⟩ := h
      exact ⟨Hf, Le.refl _, R.setOw h2 h3 h4 h5 h6 hio⟩
    | bw j =>
      obtain ⟨⟨d, ρ1⟩, e1, rfl⟩ := Option.map_eq_some_iff.mp e
      obtain ⟨Hf', le, R', rp⟩ := frz_ok R h e1
      exact ⟨Hf', le, R'.setFz rp (by rw [frz_io e1]; exact hio)⟩
def sSet (i : Nat) (g : GE) : GS := fun ρ => (g ρ).bind fun p => (setR i p.2 p.1).map .nx
section
variable {X : Cx} {e : Expr} {pos : Pos}
theorem set_tS {K : PySem.W.Frag} {i : Nat} {g : GE} {D : Ends} {σ : L2.St} {H : Hp} (q : tS K (sSet i g) D σ H) : tAsg (tE K g) (gName i) D σ H := by
  obtain ⟨G, p0, ρ, Hf, out, R, eg, k⟩ := q
  unfold sSet at eg
  simp only [Option.bind_eq_some_iff, Option.map_eq_some_iff] at eg
  obtain ⟨⟨r, ρ1⟩, e1, ρ2, e2, rfl⟩ := eg
  refine ⟨G, p0, ρ, Hf, r, ρ1, R, e1, fun v H1 Hf1 le1 R1 rr => ?_⟩
  obtain ⟨Hf2, le2, R2⟩ := setR_ok R1 rr e2
  exact k _ H1 Hf2 (le1.trans le2) R2
theorem ds_set {i : Nat} {x : Str} {pos' : Pos} {g : GE} (hN : X.N.Nodup) (h : DE X e g) (hi : X.N[i]? = some x := by rfl) (hx : Loc X.env.scope x := by first | exact .inl rfl | exact .inr rfl) (hs : swapsWith e (some (.Name x pos')) pos.line X.env = pure false := by rfl) (hf : X.fn x = true ∨ X.env.scope.names.lookup x = some .local := by first | exact .inl rfl | exact .inr rfl) :
    DS X (.Assign [.Name x pos'] e pos) (sSet i g) := (ps_set hN hi hx h hs hf).weak fun D σ H q => set_tS q

/-! targets -/
inductive Tg where
  | nm (i : Nat) | tp (ts : List Tg)
mutual
def asg : Tg → D → Ev → Option Ev
  | .nm i, d, ρ => if (ρ.io && i == 0) = true then none else some (ρ.put i (.fz d))
  | .tp ts, .tup ds, ρ => asgs ts ds ρ
  | .tp _, _, _ => none
def asgs : List Tg → List D → Ev → Option Ev
  | [], [], ρ => some ρ
  | t :: ts, d :: ds, ρ => (asg t d ρ).bind (asgs ts ds)
  | _, _, _ => none
end
mutual
def tgIx : Tg → List Nat
  | .nm i => [i]
  | .tp ts => tgIxs ts
def tgIxs : List Tg → List Nat
  | [] => []
  | t :: ts => tgIx t ++ tgIxs ts
end
def tG (K : PySem.W.Frag) (tg : Tg) : TG := fun v σ H Q => ∃ G p0 ρ Hf d ρ', Rel K G p0 σ H Hf ρ ∧ Rp K Hf v d ∧ asg tg d ρ = some ρ' ∧
  ∀ σ' H' Hf', Le Hf Hf' → SameOut (tgIx tg) σ σ' → Rel K G p0 σ' H' Hf' ρ' → H' = H → Q σ' H'
def tGs (K : PySem.W.Frag) (ts : List Tg) : TGs := fun vs σ H Q => ∃ G p0 ρ Hf ds ρ', Rel K G p0 σ H Hf ρ ∧ RpA K Hf vs ds ∧ asgs ts ds ρ = some ρ' ∧
  ∀ σ' H' Hf', Le Hf Hf' → SameOut (tgIxs ts) σ σ' → Rel K G p0 σ' H' Hf' ρ' → H' = H → Q σ' H'
abbrev DG (X : Cx) (t : Expr) (g : Tg) : Prop := PG X t (tG X.K g)
abbrev DGs (X : Cx) (t : List Expr) (g : List Tg) : Prop := PGs X t (tGs X.K g)
theorem _root_.L2.PG.weak {X : Cx} {e : Expr} {t t' : TG} (h : PG X e t) (w : ∀ v σ H Q, t' v σ H Q → t v σ H Q) : PG X e t' := ⟨fun pins s σ H v u Q I r q => h.run pins s σ H v u Q I r (w _ _ _ _ q)⟩
theorem _root_.L2.PGs.weak {X : Cx} {e : List Expr} {t t' : TGs} (h : PGs X e t) (w : ∀ v σ H Q, t' v σ H Q → t v σ H Q) : PGs X e t' := ⟨fun pins s σ H v u Q I r q => h.run pins s σ H v u Q I r (w _ _ _ _ q)⟩
theorem dg_name {i : Nat} {x : Str} (hN : X.N.Nodup) (hi : X.N[i]? = some x := by rfl) (hx : Loc X.env.scope x := by first | exact .inl rfl | exact .inr rfl) (hf : X.fn x = true ∨ X.env.scope.names.lookup x = some .local := by first | exact .inl rfl | exact .inr rfl) : DG X (.Name x pos) (.nm i) :=
  (pg_name hN hi hx hf).weak fun v σ H Q q => by
    obtain ⟨G, p0, ρ, Hf, d, ρ', R, rp, ea, k⟩ := q
    have ea : (if (ρ.io && i == 0) = true then none else some (ρ.put i (.fz d))) = some ρ' := ea
    split at ea
    · cases ea
    · rename_i hio
      cases ea
      refine k _ H Hf (Le.refl _) ⟨List.length_set, fun j hj => ?_⟩ (R.setFz rp (by simpa using hio)) rfl
      have : i ≠ j := fun z => hj (by rw [z]; exact List.mem_singleton.mpr rfl)
      rw [List.getElem?_set_ne this]
theorem dgs_nil : DGs X [] [] := pgs_nil.weak fun v σ H Q q => by
  obtain ⟨G, p0, ρ, Hf, ds, ρ', R, rp, ea, k⟩ := q
  cases ds with
  | nil =>
    cases rp
    cases ea
    exact ⟨rfl, k σ H Hf (Le.refl _) ⟨rfl, fun _ _ => rfl⟩ R rfl⟩
  | cons d ds => cases ea
theorem dgs_cons {t : Expr} {ts : List Expr} {g : Tg} {gs : List Tg} (h1 : DG X t g) (h2 : DGs X ts gs) (hs : (assignEach (t :: ts) X.env).map (·.2) = assign t X.env :: (assignEach ts X.env).map (·.2) := by rfl) : DGs X (t :: ts) (g :: gs) :=
  (pgs_cons h1 h2 hs).weak fun v σ H Q q => by
    obtain ⟨G, p0, ρ, Hf, ds, ρ', R, rp, ea, k⟩ := q
    cases ds with
    | nil => cases ea
    | cons d ds =>
      cases rp with
      | cons r t =>
        have ea : (asg g d ρ).bind (asgs gs ds) = some ρ' := ea
        obtain ⟨ρ1, e1, e2⟩ := Option.bind_eq_some_iff.mp ea
        refine ⟨_, _, rfl, G, p0, ρ, Hf, d, ρ1, R, r, e1, fun σ1 H1 Hf1 le1 s1 R1 z1 => ?_⟩
        refine ⟨G, p0, ρ1, Hf1, ds, ρ', R1, t.le le1, e2, fun σ2 H2 Hf2 le2 s2 R2 z2 => k σ2 H2 Hf2 (le1.trans le2) ⟨s2.1.trans s1.1, fun j hj => ?_⟩ R2 (z2.trans z1)⟩
        have hj' : j ∉ tgIx g ∧ j ∉ tgIxs gs := by
          constructor
          · intro z; exact hj (List.mem_append_left _ z)
          · intro z; exact hj (List.mem_append_right _ z)
        exact (s2.2 j hj'.2).trans (s1.2 j hj'.1)
theorem asgs_length : ∀ {ts : List Tg} {ds : List D} {ρ ρ' : Ev}, asgs ts ds ρ = some ρ' → ds.length = ts.length
  | [], [], _, _, _ => rfl
  | [], _ :: _, _, _, h => by cases h
  | _ :: _, [], _, _, h => by cases h
  | t :: ts, d :: ds, ρ, ρ', h => by
    have h : (asg t d ρ).bind (asgs ts ds) = some ρ' := h
    obtain ⟨ρ1, e1, e2⟩ := Option.bind_eq_some_iff.mp h
    simp [asgs_length e2]
theorem dg_tup {ts : List Expr} {k : Nat} {gs : List Tg} (hc : X.calm = true) (h : DGs X ts gs) (hn : (assignEach ts X.env).length = gs.length := by rfl) (hst : (assignEach ts X.env).findIdx? (·.1) = none := by rfl) : DG X (.Tuple ts k pos) (.tp gs) :=
  (pg_tup hc h hn hst).weak fun v σ H Q q => by
    obtain ⟨G, p0, ρ, Hf, d, ρ', R, rp, ea, k⟩ := q
    cases d with
    | tup ds =>
      have ea : asgs gs ds ρ = some ρ' := ea
      cases rp with
      | tup a r => exact ⟨_, _, rfl, SqT.le R.fh a, by rw [r.length]; exact asgs_length ea, G, p0, ρ, Hf, ds, ρ', R, r, ea, k⟩
    | _ => cases ea
/-- target = e -/
def sAsg (tg : Tg) (g : GE) : GS := fun ρ => (g ρ).bind fun p => (frz p.2 p.1).bind fun q => (asg tg q.1 q.2).map .nx
theorem ds_asg {t : Expr} {tg : Tg} {g : GE} (h : DE X e g) (ht : DG X t tg) (hs : swapsWithSole [t] e pos.line X.env = pure false := by rfl) (hw : swappedStores [t] e X.env = pure none := by rfl)
    (h1 : (assignEach [t] X.env).map (·.2) = [assign t X.env] := by rfl) : DS X (.Assign [t] e pos) (sAsg tg g) := (ps_asg h ht hs hw h1).weak fun D σ H q => by
  obtain ⟨G, p0, ρ, Hf, out, R, eg, k⟩ := q
  unfold sAsg at eg
  simp only [Option.bind_eq_some_iff, Option.map_eq_some_iff] at eg
  obtain ⟨⟨r, ρ1⟩, e1, ⟨d, ρ2⟩, e2, ρ3, e3, rfl⟩ := eg
  refine ⟨G, p0, ρ, Hf, r, ρ1, R, e1, fun v H1 Hf1 le1 R1 rr => ?_⟩
  obtain ⟨Hf2, le2, R2, rp⟩ := frz_ok R1 rr e2
  exact ⟨G, p0, ρ2, Hf2, d, ρ3, R2, rp, e3, fun σ' H' Hf' le _ R' _ => k σ' H' Hf' ((le1.trans le2).trans le) R'⟩
end
end DL
end

section
set_option Elab.async false
set_option linter.all false
set_option maxRecDepth 100000
set_option maxHeartbeats 4000000
/-! # Pairs of stores, methods of lists, stores to items, calls of defs -/
namespace DL
open PySem PySem.Spec L2 StX

/-! ### a, b = e1, e2 -/
/-- a borrowed result is frozen, others are kept -/
def unb (ρ : Ev) : Res → Option (Res × Ev)
  | .bw j => (frz ρ (.bw j)).map fun p => (.fz p.1, p.2)
  | r => some (r, ρ)
theorem unb_ok {K : PySem.W.Frag} {G Hf H : Hp} {p0 : Addr} {σ : L2.St} {ρ ρ' : Ev} {v : V} {r r' : Res} (R : Rel K G p0 σ H Hf ρ) (h : RR K G σ H Hf ρ v r) (e : unb ρ r = some (r', ρ')) :
    (∃ Hf', Le Hf Hf' ∧ Rel K G p0 σ H Hf' ρ' ∧ RR K G σ H Hf' ρ' v r') ∧ ∀ i, r' ≠ .bw i := by
  cases r with
  | fz d => cases e; exact ⟨⟨Hf, Le.refl _, R, h⟩, fun i z => by cases z⟩
  | nw ds => cases e; exact ⟨⟨Hf, Le.refl _, R, h⟩, fun i z => by cases z⟩
  | bw j =>
    obtain ⟨⟨d, ρ1⟩, e1, e2⟩ := Option.map_eq_some_iff.mp e
    cases e2
    obtain ⟨Hf', le, R', rp⟩ := frz_ok R h e1
    exact ⟨⟨Hf', le, R', rp⟩, fun i z => by cases z⟩
/-- a pending result (not borrowed) is kept in the frame; later it may be stored -/
theorem keep_res {K : PySem.W.Frag} {G Hf H : Hp} {p0 : Addr} {σ : L2.St} {ρ : Ev} {v : V} {r : Res} (nb : ∀ i, r ≠ .bw i) (R : Rel K G p0 σ H Hf ρ) (h : RR K G σ H Hf ρ v r) :
    ∃ G1, Rel K G1 p0 σ H Hf ρ ∧ Le G G1 ∧ ∀ σ' H' Hf' ρ', Le Hf Hf' → Rel K G1 p0 σ' H' Hf' ρ' → Rel K G p0 σ' H' Hf' ρ' ∧ RR K G σ' H' Hf' ρ' v r := by
  cases r with
  | fz d => exact ⟨G, R, Le.refl _, fun σ' H' Hf' ρ' le R' => ⟨R', h.le le⟩⟩
  | nw ds =>
    obtain ⟨p, vs, h1, h2, h3, h4, h5, h6⟩ := h
    refine ⟨upd G p (.lst vs), R.guard h2 h3 h6, le_upd h4, fun σ' H' Hf' ρ' le R' => ?_⟩
    obtain ⟨R2, g1, g2, g3⟩ := R'.unguard h4
    exact ⟨R2, p, vs, h1, g1, g2, h4, h5.le le, g3⟩
  | bw i => exact absurd rfl (nb i)
def sPar (i j : Nat) (ga gb : GE) : GS := fun ρ => (ga ρ).bind fun p1 => (unb p1.2 p1.1).bind fun q1 => (gb q1.2).bind fun p2 => (unb p2.2 p2.1).bind fun q2 => (setR j q2.2 q2.1).bind fun ρ3 => (setR i ρ3 q1.1).map .nx
def sPar3 (i j l : Nat) (ga gb gc : GE) : GS := fun ρ => (ga ρ).bind fun p1 => (unb p1.2 p1.1).bind fun q1 => (gb q1.2).bind fun p2 => (unb p2.2 p2.1).bind fun q2 => (gc q2.2).bind fun p3 => (unb p3.2 p3.1).bind fun q3 =>
  (setR l q3.2 q3.1).bind fun ρ3 => (setR j ρ3 q2.1).bind fun ρ4 => (setR i ρ4 q1.1).map .nx
section
variable {X : Cx} {a b c e : Expr} {pos : Pos}
theorem ds_par {i j : Nat} {x y : Str} {px py pt : Pos} {kt k2 pt2} {ga gb : GE} (hc : X.calm = true) (hN : X.N.Nodup) (ha : DE X a ga) (hb : DE X b gb) (hi : X.N[i]? = some x := by rfl) (hj : X.N[j]? = some y := by rfl) (hij : i ≠ j := by decide)
    (hx : X.env.scope.names.lookup x = some .local := by rfl) (hy : X.env.scope.names.lookup y = some .local := by rfl)
    (hst1 : starEach [a, b] X.env = (false, eval a X.env) :: starEach [b] X.env := by rfl) (hst2 : starEach [b] X.env = (false, eval b X.env) :: starEach [] X.env := by rfl)
    (hw : swappedStores [.Tuple [.Name x px, .Name y py] kt pt] (.Tuple [a, b] k2 pt2) X.env = pure (some [x, y]) := by rfl)
    (hs : swapsWithSole [.Tuple [.Name x px, .Name y py] kt pt] (.Tuple [a, b] k2 pt2) pos.line X.env = pure false := by rfl) :
    DS X (.Assign [.Tuple [.Name x px, .Name y py] kt pt] (.Tuple [a, b] k2 pt2) pos) (sPar i j ga gb) :=
  (ps_par hc hN hi hj hij hx hy (pa_cons ha (pa_cons hb pa_nil hst2) hst1) hw hs).weak fun D σ H q => by
    obtain ⟨G, p0, ρ, Hf, out, R, eg, k⟩ := q
    unfold sPar at eg
    simp only [Option.bind_eq_some_iff, Option.map_eq_some_iff] at eg
    obtain ⟨⟨r1, ρ1⟩, e1, ⟨s1, ρ2⟩, e2, ⟨r2, ρ3⟩, e3, ⟨s2, ρ4⟩, e4, ρ5, e5, ρ6, e6, rfl⟩ := eg
    refine ⟨G, p0, ρ, Hf, r1, ρ1, R, e1, fun v H1 Hf1 le1 R1 rr1 => ?_⟩
    obtain ⟨⟨Hf2, le2, R2, rr2⟩, nb1⟩ := unb_ok R1 rr1 e2
    obtain ⟨G1, R2', _, back⟩ := keep_res nb1 R2 rr2
    refine ⟨G1, p0, ρ2, Hf2, r2, ρ3, R2', e3, fun w H3 Hf3 le3 R3 rr3 => ?_⟩
    obtain ⟨⟨Hf4, le4, R4, rr4⟩, nb2⟩ := unb_ok R3 rr3 e4
    obtain ⟨Hf5, le5, R5⟩ := setR_ok R4 rr4 e5
    obtain ⟨R5', rr5⟩ := back _ _ _ _ ((le3.trans le4).trans le5) R5
    obtain ⟨Hf6, le6, R6⟩ := setR_ok R5' rr5 e6
    refine ⟨v, w, rfl, ?_⟩
    rw [List.set_comm _ _ hij]
    exact k _ H3 Hf6 (((((le1.trans le2).trans le3).trans le4).trans le5).trans le6) R6
theorem ds_par3 {i j l : Nat} {x y z : Str} {px py pz pt : Pos} {kt k2 pt2} {ga gb gc : GE} (hc : X.calm = true) (hN : X.N.Nodup) (ha : DE X a ga) (hb : DE X b gb) (hcc : DE X c gc) (hi : X.N[i]? = some x := by rfl) (hj : X.N[j]? = some y := by rfl) (hl : X.N[l]? = some z := by rfl) (hij : i ≠ j := by decide) (hil : i ≠ l := by decide) (hjl : j ≠ l := by decide)
    (hx : X.env.scope.names.lookup x = some .local := by rfl) (hy : X.env.scope.names.lookup y = some .local := by rfl) (hz : X.env.scope.names.lookup z = some .local := by rfl)
    (hst1 : starEach [a, b, c] X.env = (false, eval a X.env) :: starEach [b, c] X.env := by rfl) (hst2 : starEach [b, c] X.env = (false, eval b X.env) :: starEach [c] X.env := by rfl) (hst3 : starEach [c] X.env = (false, eval c X.env) :: starEach [] X.env := by rfl)
    (hw : swappedStores [.Tuple [.Name x px, .Name y py, .Name z pz] kt pt] (.Tuple [a, b, c] k2 pt2) X.env = pure (some [x, y, z]) := by rfl)
    (hs : swapsWithSole [.Tuple [.Name x px, .Name y py, .Name z pz] kt pt] (.Tuple [a, b, c] k2 pt2) pos.line X.env = pure false := by rfl) :
    DS X (.Assign [.Tuple [.Name x px, .Name y py, .Name z pz] kt pt] (.Tuple [a, b, c] k2 pt2) pos) (sPar3 i j l ga gb gc) :=
  (ps_par3 hc hN hi hj hl hij hil hjl hx hy hz (pa_cons ha (pa_cons hb (pa_cons hcc pa_nil hst3) hst2) hst1) hw hs).weak fun D σ H q => by
    obtain ⟨G, p0, ρ, Hf, out, R, eg, k⟩ := q
    unfold sPar3 at eg
    simp only [Option.bind_eq_some_iff, Option.map_eq_some_iff] at eg
    obtain ⟨⟨r1, ρ1⟩, e1, ⟨s1, ρ2⟩, e2, ⟨r2, ρ3⟩, e3, ⟨s2, ρ4⟩, e4, ⟨r3, ρ5⟩, e5, ⟨s3, ρ6⟩, e6, ρ7, e7, ρ8, e8, ρ9, e9, rfl⟩ := eg
    refine ⟨G, p0, ρ, Hf, r1, ρ1, R, e1, fun v H1 Hf1 le1 R1 rr1 => ?_⟩
    obtain ⟨⟨Hf2, le2, R2, rr2⟩, nb1⟩ := unb_ok R1 rr1 e2
    obtain ⟨G1, R2', _, back⟩ := keep_res nb1 R2 rr2
    refine ⟨G1, p0, ρ2, Hf2, r2, ρ3, R2', e3, fun w H3 Hf3 le3 R3 rr3 => ?_⟩
    obtain ⟨⟨Hf4, le4, R4, rr4⟩, nb2⟩ := unb_ok R3 rr3 e4
    obtain ⟨G2, R4', _, back2⟩ := keep_res nb2 R4 rr4
    refine ⟨G2, p0, ρ4, Hf4, r3, ρ5, R4', e5, fun u H5 Hf5 le5 R5 rr5 => ?_⟩
    obtain ⟨⟨Hf6, le6, R6, rr6⟩, nb3⟩ := unb_ok R5 rr5 e6
    obtain ⟨Hf7, le7, R7⟩ := setR_ok R6 rr6 e7
    obtain ⟨R7', rr7⟩ := back2 _ _ _ _ ((le5.trans le6).trans le7) R7
    obtain ⟨Hf8, le8, R8⟩ := setR_ok R7' rr7 e8
    obtain ⟨R8', rr8⟩ := back _ _ _ _ ((((le3.trans le4).trans ((le5.trans le6).trans le7))).trans le8) R8
    obtain ⟨Hf9, le9, R9⟩ := setR_ok R8' rr8 e9
    refine ⟨v, w, u, rfl, ?_⟩
    rw [List.set_comm _ _ hij, List.set_comm _ _ hil, List.set_comm _ _ hjl]
    exact k _ H5 Hf9 ((((((((le1.trans le2).trans le3).trans le4).trans le5).trans le6).trans le7).trans le8).trans le9) R9

/-! ### methods of an owned list -/
structure MS (X : Cx) (id : String) (op : List D → List D → Option (D × List D)) : Prop where
  ex : ∃ r : V → List V → Hp → VK → Prop, MtR X id r ∧ ∀ p vs cs us ds d cs' H Hf (Q : VK), Le Hf H → H p = some (.lst vs) → RpA X.K Hf vs cs → RpA X.K Hf us ds → op cs ds = some (d, cs') →
    (∀ v vs', Rp X.K Hf v d → RpA X.K Hf vs' cs' → Q v (upd H p (.lst vs'))) → r (.ref p) us H Q
def gM (op : List D → List D → Option (D × List D)) (go : GE) (ga : GA) : GE := fun ρ => (go ρ).bind fun p => match p.1 with
  | .bw i => (ga p.2).bind fun q => match q.2.sl[i]? with
    | some (.ow cs) => (op cs q.1).map fun r => (.fz r.1, q.2.put i (.ow r.2))
    | _ => none
  | _ => none
theorem m_tE {K : PySem.W.Frag} {op : List D → List D → Option (D × List D)} {go : GE} {ga : GA} {r : V → List V → Hp → VK → Prop}
    (hr : ∀ p vs cs us ds d cs' H Hf (Q : VK), Le Hf H → H p = some (.lst vs) → RpA K Hf vs cs → RpA K Hf us ds → op cs ds = some (d, cs') → (∀ v vs', Rp K Hf v d → RpA K Hf vs' cs' → Q v (upd H p (.lst vs'))) → r (.ref p) us H Q)
    {σ : L2.St} {H : Hp} {Q : VK} (q : tE K (gM op go ga) σ H Q) : tE K go σ H fun x H1 => tyV K "list" x H1 ∧ tAr K ga σ H1 fun xs H2 => r x xs H2 Q := by
  obtain ⟨G, p0, ρ, Hf, r', ρ', R, eg, k⟩ := q
  unfold gM at eg
  obtain ⟨⟨r1, ρ1⟩, e1, e2⟩ := Option.bind_eq_some_iff.mp eg
  cases r1 with
  | fz _ => cases e2
  | nw _ => cases e2
  | bw i =>
    obtain ⟨⟨ds, ρ2⟩, e3, e4⟩ := Option.bind_eq_some_iff.mp e2
    refine ⟨G, p0, ρ, Hf, _, ρ1, R, e1, fun x H1 Hf1 le1 R1 rr => ?_⟩
    obtain ⟨hs, es, he⟩ := rr
    obtain ⟨p, vs, g1, g2, g3⟩ := R1.ow i es he
    rw [hs] at g1; cases g1
    refine ⟨.inl ⟨rfl, vs, .inl (.inl g2)⟩, G, p0, ρ1, Hf1, ds, ρ2, R1, e3, fun us H2 Hf2 le2 R2 ra => ?_⟩
    have e4 : (match ρ2.sl[i]? with
      | some (.ow cs) => (op cs ds).map fun r => (Res.fz r.1, ρ2.put i (.ow r.2))
      | _ => none) = some (r', ρ') := e4
    cases q2 : ρ2.sl[i]? with
    | none => rw [q2] at e4; cases e4
    | some s =>
      rw [q2] at e4
      cases s with
      | un => cases e4
      | fz _ => cases e4
      | ow cs =>
        obtain ⟨⟨d, cs'⟩, e5, e6⟩ := Option.map_eq_some_iff.mp e4
        cases e6
        obtain ⟨p', ws, k1, k2, k3, k4, k5⟩ := R2.ow i cs q2
        rw [hs] at k1; cases k1
        exact hr p ws cs us ds d cs' H2 Hf2 Q R2.fh k2 k5 ra e5 fun v vs' rv rvs => k v _ Hf2 (le1.trans le2) (R2.chg q2 hs k2 rvs) rv
theorem de_m {name : Str} {id : String} {op : List D → List D → Option (D × List D)} {go : GE} {ga : GA} {o : Expr} {es : List Expr} {apos cpos : Pos} (slot : Slot "list" name id) (hty : typeOf (.builtin id) = pure (.type "method_descriptor")) (hm : MS X id op) (ho : DE X o go) (ha : DA X (e :: es) ga)
    (hbase : attributeBase o name X.env (eval o X.env) = eval o X.env := by rfl)
    (hfew : ((backTo cpos (starEach (e :: es) X.env)).all (fun x => !x.1) && (backToKw cpos (keywordEach [] X.env)).all (fun x => x.1.isSome)
      && decide ((e :: es).length + ([] : List Keyword).length + (if ([] : List Keyword).isEmpty then 0 else 1) < 30)) = true := by rfl)
    (hline : (apos.endLine == cpos.line) = true := by rfl) (hs : starEach (e :: es) X.env = (false, eval e X.env) :: starEach es X.env := by rfl) (hplain : (backTo cpos (starEach es X.env)).any (·.1) = false := by rfl) :
    DE X (.Call (.Attribute o name apos) (e :: es) [] cpos) (gM op go ga) := by
  obtain ⟨r, h1, h2⟩ := hm.ex
  exact (pe_bm PySem.F.plainAttrs_list slot hty h1 ho ha hbase hfew hline hs hplain).weak fun σ H Q q => m_tE h2 q
theorem de_m0 {name : Str} {id : String} {op : List D → List D → Option (D × List D)} {go : GE} {o : Expr} {apos cpos : Pos} (slot : Slot "list" name id) (hty : typeOf (.builtin id) = pure (.type "method_descriptor")) (hm : MS X id op) (ho : DE X o go)
    (hbase : attributeBase o name X.env (eval o X.env) = eval o X.env := by rfl) (hline : (apos.endLine == cpos.line) = true := by rfl) :
    DE X (.Call (.Attribute o name apos) [] [] cpos) (gM op go aNil) := by
  obtain ⟨r, h1, h2⟩ := hm.ex
  refine (pe_bm0 PySem.F.plainAttrs_list slot hty h1 ho hbase hline).weak fun σ H Q q => ?_
  obtain ⟨G, p0, ρ, Hf, r', ρ', R, eg, k⟩ := m_tE h2 q
  refine ⟨G, p0, ρ, Hf, r', ρ', R, eg, fun v H' Hf' le R' rr => ?_⟩
  obtain ⟨t1, G1, p1, ρ1, Hf1, ds, ρ2, R1, e1, k1⟩ := k v H' Hf' le R' rr
  cases e1
  exact ⟨t1, k1 [] H' Hf1 (Le.refl _) R1 .nil⟩
def mApp : List D → List D → Option (D × List D)
  | cs, [d] => if cs.length < 16777216 then some (.non, cs ++ [d]) else none
  | _, _ => none
theorem m_append : MS X "list.append" mApp := by
  refine ⟨_, mt_append, fun p vs cs us ds d cs' H Hf Q le hp hr ha e k => ?_⟩
  match ds, e with
  | [d1], e =>
    have e' : (if cs.length < 16777216 then some (D.non, cs ++ [d1]) else none) = some (d, cs') := e
    split at e'
    · rename_i c
      cases e'
      cases ha with
      | cons r t =>
        cases t
        exact ⟨p, vs, _, rfl, rfl, hp, by rw [hr.length, line_is]; exact c, k _ _ .non (hr.append (.cons r .nil))⟩
    · cases e'
  | [], e => cases e
  | _ :: _ :: _, e => cases e
theorem ext_meets (l : Addr) (items : Array Value) (n : Nat) (b : Addr) (items2 : Array Value) (n2 : Nat) (dd : Option Addr) (sl : Array (Option Value)) (hs0 : ¬(!items.isEmpty && Builtin.List.listTooLong (items.size + items2.size)) = true) (hs1 : items.size ≤ sizeLine) (hs2 : items.size + items2.size ≤ sizeLine + 1) :
    Meets (Builtin.«list.extend» ⟨[.ref l, .ref b], []⟩) (fun _ R s => s.heap.get? l = some { cls := .type "list", dict := none, data := .seq items n, slots := #[] } ∧ s.heap.get? b = some { cls := .type "tuple", dict := dd, data := .seq items2 n2, slots := sl } ∧ R (.ok (.ret Value.none)) { s with heap := s.heap.update l (Obj.mapSeq fun x => x ++ items2), toks := s.toks }) :=
  .of_wp fun prog w A R s h => by
    obtain ⟨hp, g, d, tk, os⟩ := s; obtain ⟨hl, hb, h⟩ := h; have f1 := AutoSeq1.idx_int; have f2 := AutoSeq1.sub_tuple_tuple; have f3 := AutoSeq1.sub_list_list; have f4 := AutoSeq1.sub_tuple_list; have f5 := AutoSeq1.sub_list_tuple
    have hz' : (items ++ items2).size ≤ sizeLine + 1 := by rw [Array.size_append]; exact hs2
    wp_walk using (wpAny_updateSeq hl rfl (hz := hs1) (_hz' := hz')), wpAny_loadPart' hl, wpAny_loadPart' hb; exact ⟨_, rfl, h⟩
theorem ext_tup : MtR X "list.extend" (fun x vs H Q => ∃ l b xs zs, x = .ref l ∧ vs = [.ref b] ∧ H l = some (.lst xs) ∧ SqT X.K H b zs ∧ xs.length + zs.length ≤ sizeLine ∧ Q .non (upd H l (.lst (xs ++ zs)))) := by
  intro pins s σ H x vs v us Q I rx rv h
  obtain ⟨l, b, xs, zs, rfl, rfl, hH, hB, hz, q⟩ := h
  cases rx
  obtain ⟨u, rfl, ru⟩ := rv.one
  cases ru
  obtain ⟨z, its, n, r, hl, e⟩ := I.lstM hH
  obtain ⟨its2, r2, ⟨⟨cls, dd, data, sl⟩, ho, hc, n2, hd⟩, hs⟩ := I.tuple hB
  simp only at hc hd
  subst hc hd
  have hl2 := r2.length
  have hsz : its.toArray.size + its2.toArray.size ≤ sizeLine := by rw [List.size_toArray, List.size_toArray]; omega
  have hlong : ¬ (!its.toArray.isEmpty && Builtin.List.listTooLong (its.toArray.size + its2.toArray.size)) = true := by
    rw [notLongL hsz, Bool.and_false]
    exact Bool.false_ne_true
  refine call_meets F.slot_list_extend ⟨_, e, rfl⟩ F.entry_list_extend (F.args_list_extend_2 _ _)
    (ext_meets l its.toArray n b its2.toArray n2 dd sl hlong (by rw [List.size_toArray]; omega) (by omega)) ⟨e, ho, ?_⟩
  refine ⟨.non, _, I.lset (its' := its ++ its2) hH e (by simp) (r.append r2) ?_, rfl, q⟩
  rw [List.length_append]
  omega
def mExt : List D → List D → Option (D × List D)
  | cs, [.lst es] => if cs.length + es.length ≤ 16777216 then some (.non, cs ++ es) else none
  | cs, [.tup es] => if cs.length + es.length ≤ 16777216 then some (.non, cs ++ es) else none
  | _, _ => none
theorem m_extend : MS X "list.extend" mExt := by
  refine ⟨_, MtR.or mt_extend ext_tup, fun p vs cs us ds d cs' H Hf Q le hp hr ha e k => ?_⟩
  match ds, e with
  | [.lst es], e =>
    have e' : (if cs.length + es.length ≤ 16777216 then some (D.non, cs ++ es) else none) = some (d, cs') := e
    split at e'
    · rename_i c
      cases e'
      cases ha with
      | cons r t =>
        cases t
        cases r with
        | lst a ra => exact .inl ⟨p, _, vs, _, rfl, rfl, hp, le _ _ a, by rw [hr.length, ra.length, line_is]; exact c, k _ _ .non (hr.append ra)⟩
    · cases e'
  | [.tup es], e =>
    have e' : (if cs.length + es.length ≤ 16777216 then some (D.non, cs ++ es) else none) = some (d, cs') := e
    split at e'
    · rename_i c
      cases e'
      cases ha with
      | cons r t =>
        cases t
        cases r with
        | tup a ra => exact .inr ⟨p, _, vs, _, rfl, rfl, hp, SqT.le le a, by rw [hr.length, ra.length, line_is]; exact c, k _ _ .non (hr.append ra)⟩
    · cases e'
  | [], e => cases e
  | [.non], e => cases e
  | [.bl _], e => cases e
  | [.int _], e => cases e
  | [.str _], e => cases e
  | [.dic _], e => cases e
  | [.fls _], e => cases e
  | _ :: _ :: _, e => simp [mExt] at e
def mPop : List D → List D → Option (D × List D)
  | cs, [] => match cs[cs.length - 1]? with
    | some d => some (d, cs.dropLast)
    | none => none
  | _, _ => none
theorem m_pop : MS X "list.pop" mPop := by
  refine ⟨_, mt_pop, fun p vs cs us ds d cs' H Hf Q le hp hr ha e k => ?_⟩
  match ds, e with
  | [], e =>
    cases ha
    have e' : (match cs[cs.length - 1]? with
      | some d => some (d, cs.dropLast)
      | none => none) = some (d, cs') := e
    cases q : cs[cs.length - 1]? with
    | none => rw [q] at e'; cases e'
    | some z =>
      rw [q] at e'
      cases e'
      obtain ⟨v, g1, g2⟩ := hr.get q
      exact ⟨p, vs, v, rfl, rfl, hp, by rw [hr.length]; exact g1, k _ _ g2 hr.dropLast⟩
  | _ :: _, e => cases e
end
end DL
end

section
set_option Elab.async false
set_option linter.all false
set_option maxRecDepth 100000
set_option maxHeartbeats 4000000
/-! # Stores to items, calls of defs, loops, comprehensions -/
namespace DL
open PySem PySem.Spec L2 StX

/-! ### xs[i] = e -/
def sItem (go gi ge : GE) : GS := fun ρ => (ge ρ).bind fun p => (frz p.2 p.1).bind fun q => (go q.2).bind fun o => match o.1 with
  | .bw i => (gi o.2).bind fun k => match k.1 with
    | .fz (.int z) => match k.2.sl[i]? with
      | some (.ow cs) => (ixN cs.length z).map fun j => .nx (k.2.put i (.ow (cs.set j q.1)))
      | _ => none
    | _ => none
  | _ => none
section
variable {X : Cx} {e o i : Expr} {pos : Pos}
theorem ds_item {go gi ge : GE} {pos' : Pos} (he : DE X e ge) (ho : DE X o go) (hi : DE X i gi) (hs : swapsWithSole [.Subscript o i pos'] e pos.line X.env = pure false := by rfl) (hw : swappedStores [.Subscript o i pos'] e X.env = pure none := by rfl)
    (h1 : (assignEach [.Subscript o i pos'] X.env).map (·.2) = [assign (.Subscript o i pos') X.env] := by rfl)
    (ha : ∀ v, assign (.Subscript o i pos') X.env v = (do
      let ov ← holding [v] (eval o X.env)
      let iv ← holding [v, ov] (eval i X.env)
      standAt pos'
      holding [v, ov, iv] (setItem ov iv v)
      release [v, ov, iv] []) := by intro _; rfl) : DS X (.Assign [.Subscript o i pos'] e pos) (sItem go gi ge) :=
  (ps_asg he (pg_sub ho hi set_list ha) hs hw h1).weak fun D σ H q => by
    obtain ⟨G, p0, ρ, Hf, out, R, eg, k⟩ := q
    unfold sItem at eg
    obtain ⟨⟨r1, ρ1⟩, e1, eg⟩ := Option.bind_eq_some_iff.mp eg
    obtain ⟨⟨d, ρ2⟩, e2, eg⟩ := Option.bind_eq_some_iff.mp eg
    obtain ⟨⟨r3, ρ3⟩, e3, eg⟩ := Option.bind_eq_some_iff.mp eg
    cases r3 with
    | fz _ => cases eg
    | nw _ => cases eg
    | bw j =>
      obtain ⟨⟨r4, ρ4⟩, e4, eg⟩ := Option.bind_eq_some_iff.mp eg
      refine ⟨G, p0, ρ, Hf, r1, ρ1, R, e1, fun v H1 Hf1 le1 R1 rr1 => ?_⟩
      obtain ⟨Hf2, le2, R2, rp⟩ := frz_ok R1 rr1 e2
      refine ⟨G, p0, ρ2, Hf2, _, ρ3, R2, e3, fun ov H3 Hf3 le3 R3 rr3 => ?_⟩
      refine ⟨G, p0, ρ3, Hf3, r4, ρ4, R3, e4, fun iv H4 Hf4 le4 R4 rr4 => ?_⟩
      cases r4 with
      | nw _ => cases eg
      | bw _ => cases eg
      | fz d4 =>
        cases d4 with
        | int z =>
          have eg : (match ρ4.sl[j]? with
            | some (.ow cs) => (ixN cs.length z).map fun l => Out.nx (ρ4.put j (.ow (cs.set l d)))
            | _ => none) = some out := eg
          cases q2 : ρ4.sl[j]? with
          | none => rw [q2] at eg; cases eg
          | some s =>
            rw [q2] at eg
            cases s with
            | un => cases eg
            | fz _ => cases eg
            | ow cs =>
              obtain ⟨l, e5, rfl⟩ := Option.map_eq_some_iff.mp eg
              obtain ⟨hs', es, he'⟩ := rr3
              obtain ⟨p, vs, g1, g2, g3, g4, g5⟩ := R4.ow j cs q2
              rw [hs'] at g1; cases g1
              cases rr4
              refine ⟨p, vs, z, l, rfl, rfl, g2, by rw [g5.length]; exact e5, ?_⟩
              exact k σ _ Hf4 (((le1.trans le2).trans le3).trans le4) (R4.chg q2 hs' g2 (RpA.set (rp.le (le3.trans le4)) l g5))
        | _ => cases eg
end

/-! ### a def's promise -/
abbrev Phi := List D → Option (RF × List D)
/-- by plain data in, data out -/
def SpP (K : PySem.W.Frag) (n : Nat) (φ : Phi) : Sp := fun vs H Q _ => ∃ Hf ds r cs, Le Hf H ∧ vs.length = n ∧ RpA K Hf vs ds ∧ φ ds = some (r, cs) ∧
  ∀ v H' Hf', Le Hf Hf' → Le Hf' H' → Le H H' → (∀ b o, Hf' b = some o → Hf b = none → H b = none) →
    (match r with
      | .val d => Rp K Hf' v d
      | .new ds => ∃ p vs, v = .ref p ∧ H' p = some (.lst vs) ∧ H p = none ∧ Hf' p = none ∧ RpA K Hf' vs ds) → Q v H'
/-- .. the first argument is a list that is changed -/
def SpI (K : PySem.W.Frag) (n : Nat) (φ : Phi) : Sp := fun vs H Q _ => ∃ Hf p us cs ws es r cs', Le Hf H ∧ vs = .ref p :: ws ∧ vs.length = n ∧ H p = some (.lst us) ∧ Hf p = none ∧ RpA K Hf us cs ∧ RpA K Hf ws es ∧ φ (.lst cs :: es) = some (r, cs') ∧
  ∀ v H' Hf' us', Le Hf Hf' → Le Hf' H' → (∀ b o, b ≠ p → H b = some o → H' b = some o) → (∀ b o, Hf' b = some o → Hf b = none → H b = none) → H' p = some (.lst us') → RpA K Hf' us' cs' →
    (match r with
      | .val d => Rp K Hf' v d
      | .new ds => ∃ q vs, v = .ref q ∧ H' q = some (.lst vs) ∧ H q = none ∧ Hf' q = none ∧ RpA K Hf' vs ds) → Q v H'
def RF.res : RF → Res
  | .val d => .fz d
  | .new ds => .nw ds
/-- the frame of a callee: all that is tracked and not frozen -/
def frameOf (H Hf : Hp) : Hp := fun b => match Hf b with
  | none => H b
  | some _ => none
def gCall (φ : Phi) (ga : GA) : GE := fun ρ => (ga ρ).bind fun p => (φ p.1).map fun q => (q.1.res, p.2)
theorem call_tE {K : PySem.W.Frag} {n : Nat} {φ : Phi} {ga : GA} {E : XK} (hn : ∀ ds q, φ ds = some q → ds.length = n) {σ : L2.St} {H : Hp} {Q : VK} (q : tE K (gCall φ ga) σ H Q) : tCall (SpP K n φ) [] E (tAr K ga) σ H Q := by
  obtain ⟨G, p0, ρ, Hf, r', ρ', R, eg, k⟩ := q
  unfold gCall at eg
  obtain ⟨⟨ds, ρ1⟩, e1, eg⟩ := Option.bind_eq_some_iff.mp eg
  obtain ⟨⟨r, cs⟩, e2, e3⟩ := Option.map_eq_some_iff.mp eg
  cases e3
  refine ⟨G, p0, ρ, Hf, ds, ρ1, R, e1, fun vs H1 Hf1 le1 R1 ra => ?_⟩
  show SpP K n φ (vs ++ []) H1 Q E
  rw [List.append_nil]
  refine ⟨Hf1, ds, r, cs, R1.fh, by rw [ra.length]; exact hn _ _ e2, ra, e2, fun v H' Hf' l1 l2 l3 fr hr => ?_⟩
  -- the caller's relation behind the call
  have R2 : Rel K G p0 σ H' Hf' ρ1 := by
    refine ⟨l2, fun b u z => l3 b u (R1.gh b u z), fun b u z => ?_, fun j d z => ?_, fun j es z => ?_, R1.ap, R1.io, R1.len⟩
    · cases q : Hf' b with
      | none => rfl
      | some o =>
        have := fr b o q (R1.gf b u z)
        rw [R1.gh b u z] at this; cases this
    · obtain ⟨w, g1, g2⟩ := R1.fz j d z
      exact ⟨w, g1, g2.le l1⟩
    · obtain ⟨w, us, g1, g2, g3, g4, g5⟩ := R1.ow j es z
      refine ⟨w, us, g1, l3 _ _ g2, ?_, g4, g5.le l1⟩
      cases q : Hf' w with
      | none => rfl
      | some o =>
        have := fr w o q g3
        rw [g2] at this; cases this
  refine k v H' Hf' (le1.trans l1) R2 ?_
  cases r with
  | val d => exact hr
  | new es =>
    obtain ⟨p, us, h1, h2, h3, h4, h5⟩ := hr
    obtain ⟨f1, f2, f3⟩ := R1.free_un h3
    exact ⟨p, us, h1, h2, h4, f2, h5, f3⟩
section
variable {X : Cx} {e : Expr} {es : List Expr} {pos p : Pos} {f : Addr} {fd : FuncData} {ps : List Str} {k n : Nat} {φ : Phi} {x : Str}
theorem de_call {ga : GA} (F : FnOk X.prog X.w X.K X.mg X.base CX0 k f fd ps (SpP X.K n φ)) (hr : Room k X.A) (hm : X.mg x = some (.ref f)) (hk : PySem.W.keepIn X.K (.ref f) = true) (hb : Binds X.K fd ps []) (hn : ∀ ds q, φ ds = some q → ds.length = n)
    (ha : DA X (e :: es) ga) (hg : Gl X x := by rfl) (hdb : (x == ("__debug__" : Str)) = false := by decide) (he : starEach (e :: es) X.env = (false, eval e X.env) :: starEach es X.env := by rfl) (hpl : (backTo pos (starEach es X.env)).any (·.1) = false := by rfl) :
    DE X (.Call (.Name x p) (e :: es) [] pos) (gCall φ ga) :=
  (pe_call F hr hg hm hk hb .nil (pass0 (X := X)) ha hdb he hpl).weak fun σ H Q q => call_tE hn q
/-! .. with a list that the callee changes -/
def aIo (g : GE) (gs : GA) : Ev → Option (Nat × List D × Ev) := fun ρ => (g ρ).bind fun p => match p.1 with
  | .bw i => (gs p.2).map fun q => (i, q.1, q.2)
  | _ => none
def gCallI (φ : Phi) (g : GE) (gs : GA) : GE := fun ρ => (aIo g gs ρ).bind fun p => match p.2.2.sl[p.1]? with
  | some (.ow cs) => (φ (.lst cs :: p.2.1)).map fun q => (q.1.res, p.2.2.put p.1 (.ow q.2))
  | _ => none
end
theorem callI_tE {K : PySem.W.Frag} {n : Nat} {φ : Phi} {g : GE} {gs : GA} {E : XK} (hn : ∀ ds q, φ ds = some q → ds.length = n) {σ : L2.St} {H : Hp} {Q : VK} (q : tE K (gCallI φ g gs) σ H Q) : tCall (SpI K n φ) [] E (tCons (tE K g) (tAr K gs)) σ H Q := by
  obtain ⟨G, p0, ρ, Hf, r', ρ', R, eg, k⟩ := q
  unfold gCallI aIo at eg
  obtain ⟨⟨i, ds, ρ2⟩, e0, eg⟩ := Option.bind_eq_some_iff.mp eg
  obtain ⟨⟨r1, ρ1⟩, e1, e2⟩ := Option.bind_eq_some_iff.mp e0
  cases r1 with
  | fz _ => cases e2
  | nw _ => cases e2
  | bw j =>
    obtain ⟨⟨ds', ρ3⟩, e3, e4⟩ := Option.map_eq_some_iff.mp e2
    cases e4
    have eg : (match ρ3.sl[i]? with
      | some (.ow cs) => (φ (.lst cs :: ds')).map fun q => (q.1.res, ρ3.put i (.ow q.2))
      | _ => none) = some (r', ρ') := eg
    refine ⟨G, p0, ρ, Hf, _, ρ1, R, e1, fun ov H1 Hf1 le1 R1 rr1 => ?_⟩
    obtain ⟨hs, ces, hce⟩ := rr1
    refine ⟨G, p0, ρ1, Hf1, ds', ρ3, R1, e3, fun ws H2 Hf2 le2 R2 ra => ?_⟩
    cases q2 : ρ3.sl[i]? with
    | none => rw [q2] at eg; cases eg
    | some s =>
      rw [q2] at eg
      cases s with
      | un => cases eg
      | fz _ => cases eg
      | ow cs =>
        obtain ⟨⟨r, cs'⟩, e5, e6⟩ := Option.map_eq_some_iff.mp eg
        cases e6
        obtain ⟨p, us, g1, g2, g3, g4, g5⟩ := R2.ow i cs q2
        rw [hs] at g1; cases g1
        show SpI K n φ ((.ref p :: ws) ++ []) H2 Q E
        rw [List.append_nil]
        have hl := hn _ _ e5
        refine ⟨Hf2, p, us, cs, ws, ds', r, cs', R2.fh, rfl, by rw [List.length_cons, ra.length]; simpa using hl, g2, g3, g5, ra, e5, fun v H' Hf' us' l1 l2 l3 fr hp' hr' hr => ?_⟩
        have hlt : i < ρ3.sl.length := (List.getElem?_eq_some_iff.mp q2).1
        have nf : ∀ w o, H2 w = some o → Hf2 w = none → Hf' w = none := fun w o z1 z2 => by
          cases q : Hf' w with
          | none => rfl
          | some o' =>
            have := fr w o' q z2
            rw [z1] at this; cases this
        have R3 : Rel K G p0 σ H' Hf' (ρ3.put i (.ow cs')) := by
          refine ⟨l2, fun b u z => ?_, fun b u z => nf b u (R2.gh b u z) (R2.gf b u z), fun l d z => ?_, fun l es z => ?_, fun a c es fs q z1 z2 z3 z4 => ?_, fun z => ?_, ?_⟩
          · refine l3 b u (fun zz => ?_) (R2.gh b u z)
            rw [zz, g4] at z; cases z
          · rw [get_put] at z
            by_cases zz : i = l
            · subst zz; rw [if_pos rfl, if_pos hlt] at z; cases z
            · rw [if_neg zz] at z
              obtain ⟨w, k1, k2⟩ := R2.fz l d z
              exact ⟨w, k1, k2.le l1⟩
          · rw [get_put] at z
            by_cases zz : i = l
            · subst zz
              rw [if_pos rfl, if_pos hlt] at z; cases z
              exact ⟨p, us', hs, hp', nf p _ g2 g3, g4, hr'⟩
            · rw [if_neg zz] at z
              obtain ⟨w, ws', k1, k2, k3, k4, k5⟩ := R2.ow l es z
              have : w ≠ p := fun z5 => zz (R2.ap i l cs es p q2 z hs (by rw [← z5]; exact k1))
              exact ⟨w, ws', k1, l3 _ _ this k2, nf w _ k2 k3, k4, k5.le l1⟩
          · have back : ∀ (l : Nat) (gs : List D), (ρ3.put i (.ow cs')).sl[l]? = some (.ow gs) → ∃ hs, ρ3.sl[l]? = some (.ow hs) := fun l gs q => by
              rw [get_put] at q
              by_cases z : i = l
              · subst z; exact ⟨cs, q2⟩
              · rw [if_neg z] at q; exact ⟨gs, q⟩
            obtain ⟨a1, b1⟩ := back a es z1
            obtain ⟨a2, b2⟩ := back c fs z2
            exact R2.ap a c a1 a2 q b1 b2 z3 z4
          · have z' : ρ3.io = true := z
            obtain ⟨k1, es, k2⟩ := R2.io z'
            refine ⟨k1, ?_⟩
            by_cases zz : i = 0
            · subst zz; exact ⟨cs', by rw [get_put, if_pos rfl, if_pos hlt]⟩
            · exact ⟨es, by rw [get_put, if_neg zz]; exact k2⟩
          · show (ρ3.sl.set i _).length = _
            rw [List.length_set]; exact R2.len
        refine k v H' Hf' ((le1.trans le2).trans l1) R3 ?_
        cases r with
        | val d => exact hr
        | new es =>
          obtain ⟨q, vs, h1, h2, h3, h4, h5⟩ := hr
          obtain ⟨f1, f2, f3⟩ := R2.free_un h3
          refine ⟨q, vs, h1, h2, h4, f2, h5, fun l gs z => ?_⟩
          rw [get_put] at z
          by_cases zz : i = l
          · subst zz; exact f3 i cs q2
          · rw [if_neg zz] at z; exact f3 l gs z
section
variable {X : Cx} {e : Expr} {es : List Expr} {pos p : Pos} {f : Addr} {fd : FuncData} {ps : List Str} {k n : Nat} {φ : Phi} {x : Str}
theorem de_callI {g : GE} {gs : GA} (F : FnOk X.prog X.w X.K X.mg X.base CX0 k f fd ps (SpI X.K n φ)) (hr : Room k X.A) (hm : X.mg x = some (.ref f)) (hk : PySem.W.keepIn X.K (.ref f) = true) (hb : Binds X.K fd ps []) (hn : ∀ ds q, φ ds = some q → ds.length = n)
    (h : DE X e g) (hs : DA X es gs) (hg : Gl X x := by rfl) (hdb : (x == ("__debug__" : Str)) = false := by decide) (he : starEach (e :: es) X.env = (false, eval e X.env) :: starEach es X.env := by rfl) (hpl : (backTo pos (starEach es X.env)).any (·.1) = false := by rfl) :
    DE X (.Call (.Name x p) (e :: es) [] pos) (gCallI φ g gs) :=
  (pe_call F hr hg hm hk hb .nil (pass0 (X := X)) (pa_cons h hs he) hdb he hpl).weak fun σ H Q q => callI_tE hn q
end
end DL
end

section
set_option Elab.async false
set_option linter.all false
set_option maxRecDepth 100000
set_option maxHeartbeats 4000000
/-! # Loops, comprehensions, defs -/
namespace DL
open PySem PySem.Spec L2 StX

structure ItOk (K : PySem.W.Frag) (Hf : Hp) (J : It) (items : List Rv) : Prop where
  go : ∀ i H, Le Hf H → i < items.length → J.go i H
  yld : ∀ i H x H' r, Le Hf H → J.yld i H x H' → items[i]? = some r → FinR K H Hf r x H'
  stop : ∀ H, Le Hf H → J.stop items.length H
abbrev GI := Ev → Option (List Rv × Ev)
def tI (K : PySem.W.Frag) (g : GI) : TI := fun σ H R => ∃ G p0 ρ Hf items ρ', Rel K G p0 σ H Hf ρ ∧ g ρ = some (items, ρ') ∧
  ∀ H' Hf' J, Le Hf Hf' → Rel K G p0 σ H' Hf' ρ' → ItOk K Hf' J items → R J H'
abbrev DI (X : Cx) (tg e : Expr) (g : GI) : Prop := PI X tg e (tI X.K g)
theorem _root_.L2.PI.weak {X : Cx} {tg e : Expr} {t t' : TI} (h : PI X tg e t) (w : ∀ σ H Q, t' σ H Q → t σ H Q) : PI X tg e t' := ⟨fun pins s σ H Q I q => h.run pins s σ H Q I (w _ _ _ q)⟩
theorem _root_.L2.PI.or {X : Cx} {tg e : Expr} {t t' : TI} (h : PI X tg e t) (h' : PI X tg e t') : PI X tg e (fun σ H R => t σ H R ∨ t' σ H R) := ⟨fun pins s σ H R I q => by
  rcases q with q | q
  · exact h.run pins s σ H R I q
  · exact h'.run pins s σ H R I q⟩
theorem FinR.le {K : PySem.W.Frag} {H Hf Hf' : Hp} {r : Rv} {x : V} {H' : Hp} (le : Le Hf Hf') (h : FinR K H Hf r x H') : FinR K H Hf' r x H' := by
  cases r with
  | val d => exact ⟨h.1, h.2.le le⟩
  | newL ds =>
    obtain ⟨p, vs, h1, h2, h3, h4⟩ := h
    exact ⟨p, vs, h1, h2, h3.le le, h4⟩
  | newT ds =>
    rcases h with ⟨p, vs, h1, h2, h3, h4⟩ | ⟨h1, h2⟩
    · exact .inl ⟨p, vs, h1, h2, h3.le le, h4⟩
    · exact .inr ⟨h1, h2.le le⟩
section
variable {K : PySem.W.Frag} {Hf : Hp} {a b : Addr} {vs us : List V} {ds es : List D}
theorem it_list (h : SqL K Hf a vs) (r : RpA K Hf vs ds) : ItOk K Hf (Itl K a) (ds.map .val) where
  go := fun i H le hi => by
    have hi' : i < vs.length := by rw [r.length]; simpa using hi
    exact ⟨vs, vs[i], SqL.le le h, by simp [hi']⟩
  yld := fun i H x H' rv le y e => by
    obtain ⟨e1, e2⟩ := y
    rw [List.getElem?_map] at e
    obtain ⟨d, e3, rfl⟩ := Option.map_eq_some_iff.mp e
    obtain ⟨v, g1, g2⟩ := r.get e3
    have := e2 vs (SqL.le le h)
    rw [g1] at this; cases this
    exact ⟨e1, g2⟩
  stop := fun H le => ⟨vs, SqL.le le h, by rw [r.length]; simp⟩
theorem it_tup (h : SqT K Hf a vs) (r : RpA K Hf vs ds) : ItOk K Hf (Itt K a) (ds.map .val) where
  go := fun i H le hi => by
    have hi' : i < vs.length := by rw [r.length]; simpa using hi
    exact ⟨vs, vs[i], SqT.le le h, by simp [hi']⟩
  yld := fun i H x H' rv le y e => by
    obtain ⟨e1, e2⟩ := y
    rw [List.getElem?_map] at e
    obtain ⟨d, e3, rfl⟩ := Option.map_eq_some_iff.mp e
    obtain ⟨v, g1, g2⟩ := r.get e3
    have := e2 vs (SqT.le le h)
    rw [g1] at this; cases this
    exact ⟨e1, g2⟩
  stop := fun H le => ⟨vs, SqT.le le h, by rw [r.length]; simp⟩
def chars (s : List Nat) : List Rv := s.map fun c => .val (.str [c])
theorem it_str {s : List Nat} : ItOk K Hf (Its (mkS s)) (chars s) where
  go := fun i H le hi => by
    show i < (s.toArray).size
    simpa [chars] using hi
  yld := fun i H x H' rv le y e => by
    obtain ⟨e1, c, e2, rfl⟩ := y
    unfold chars at e
    rw [List.getElem?_map] at e
    obtain ⟨d, e3, rfl⟩ := Option.map_eq_some_iff.mp e
    have : (s.toArray)[i]? = some c := e2
    rw [List.getElem?_toArray, e3] at this
    cases this
    exact ⟨e1, .str _⟩
  stop := fun H le => by show (s.toArray).size ≤ _; simp [chars]
def rangeR (lo : Int) (n : Nat) : List Rv := (List.range n).map fun (k : Nat) => .val (.int (lo + (k : Int)))
theorem it_range {lo : Int} {n : Nat} : ItOk K Hf (Itr lo n) (rangeR lo n) where
  go := fun i H le hi => by
    show i < n
    simpa [rangeR] using hi
  yld := fun i H x H' rv le y e => by
    obtain ⟨e1, rfl⟩ := y
    unfold rangeR at e
    rw [List.getElem?_map] at e
    obtain ⟨d, e3, rfl⟩ := Option.map_eq_some_iff.mp e
    obtain ⟨h1, h2⟩ := List.getElem?_eq_some_iff.mp e3
    rw [List.getElem_range] at h2
    subst h2
    exact ⟨e1, .int _⟩
  stop := fun H le => by show n ≤ _; simp [rangeR]
theorem it_revL (h : SqL K Hf a vs) (r : RpA K Hf vs ds) : ItOk K Hf (Itv K a vs.length) (ds.reverse.map .val) where
  go := fun i H le hi => by
    have hi' : i < vs.length := by rw [r.length]; simpa using hi
    exact ⟨hi', vs, vs[vs.length - 1 - i]'(by omega), SqL.le le h, by simp <;> omega⟩
  yld := fun i H x H' rv le y e => by
    obtain ⟨e1, e2⟩ := y
    rw [List.getElem?_map] at e
    obtain ⟨d, e3, rfl⟩ := Option.map_eq_some_iff.mp e
    have hi : i < ds.length := by
      have := (List.getElem?_eq_some_iff.mp e3).1
      simpa using this
    rw [List.getElem?_reverse hi] at e3
    obtain ⟨v, g1, g2⟩ := r.get e3
    have := e2 vs (SqL.le le h)
    rw [r.length, g1] at this; cases this
    exact ⟨e1, g2⟩
  stop := fun H le => by show vs.length ≤ _; rw [r.length]; simp
theorem it_revT (h : SqT K Hf a vs) (r : RpA K Hf vs ds) : ItOk K Hf (RT.ItvT K a vs.length) (ds.reverse.map .val) where
  go := fun i H le hi => by
    have hi' : i < vs.length := by rw [r.length]; simpa using hi
    exact ⟨hi', vs, vs[vs.length - 1 - i]'(by omega), SqT.le le h, by simp <;> omega⟩
  yld := fun i H x H' rv le y e => by
    obtain ⟨e1, e2⟩ := y
    rw [List.getElem?_map] at e
    obtain ⟨d, e3, rfl⟩ := Option.map_eq_some_iff.mp e
    have hi : i < ds.length := by
      have := (List.getElem?_eq_some_iff.mp e3).1
      simpa using this
    rw [List.getElem?_reverse hi] at e3
    obtain ⟨v, g1, g2⟩ := r.get e3
    have := e2 vs (SqT.le le h)
    rw [r.length, g1] at this; cases this
    exact ⟨e1, g2⟩
  stop := fun H le => by show vs.length ≤ _; rw [r.length]; simp
def zipR (ds es : List D) : List Rv := (ds.zip es).map fun p => .newT [p.1, p.2]
theorem it_zipL (h : SqL K Hf a vs) (r : RpA K Hf vs ds) (h' : SqL K Hf b us) (r' : RpA K Hf us es) : ItOk K Hf (Itz K a b) (zipR ds es) where
  go := fun i H le hi => by
    have hi1 : i < vs.length := by rw [r.length]; simp [zipR] at hi; omega
    have hi2 : i < us.length := by rw [r'.length]; simp [zipR] at hi; omega
    exact ⟨vs, us, vs[i], us[i], SqL.le le h, SqL.le le h', by simp [hi1], by simp [hi2]⟩
  yld := fun i H x H' rv le y e => by
    obtain ⟨T, x1, y1, rfl, hT, e1, e2, e3⟩ := y
    unfold zipR at e
    rw [List.getElem?_map] at e
    obtain ⟨⟨d1, d2⟩, e4, rfl⟩ := Option.map_eq_some_iff.mp e
    rw [List.getElem?_zip_eq_some] at e4
    obtain ⟨v, g1, g2⟩ := r.get e4.1
    obtain ⟨w, g3, g4⟩ := r'.get e4.2
    have z1 := e2 vs (SqL.le le h)
    have z2 := e3 us (SqL.le le h')
    rw [g1] at z1; cases z1
    rw [g3] at z2; cases z2
    exact .inl ⟨T, _, rfl, hT, .cons g2 (.cons g4 .nil), e1⟩
  stop := fun H le => by
    refine ⟨vs, us, SqL.le le h, SqL.le le h', ?_⟩
    rw [r.length, r'.length]
    simp [zipR]; omega
theorem it_zipT (h : SqT K Hf a vs) (r : RpA K Hf vs ds) (h' : SqT K Hf b us) (r' : RpA K Hf us es) : ItOk K Hf (RZ.ItzT K a b) (zipR ds es) where
  go := fun i H le hi => by
    have hi1 : i < vs.length := by rw [r.length]; simp [zipR] at hi; omega
    have hi2 : i < us.length := by rw [r'.length]; simp [zipR] at hi; omega
    exact ⟨vs, us, vs[i], us[i], SqT.le le h, SqT.le le h', by simp [hi1], by simp [hi2]⟩
  yld := fun i H x H' rv le y e => by
    obtain ⟨T, x1, y1, rfl, hT, e1, e2, e3⟩ := y
    unfold zipR at e
    rw [List.getElem?_map] at e
    obtain ⟨⟨d1, d2⟩, e4, rfl⟩ := Option.map_eq_some_iff.mp e
    rw [List.getElem?_zip_eq_some] at e4
    obtain ⟨v, g1, g2⟩ := r.get e4.1
    obtain ⟨w, g3, g4⟩ := r'.get e4.2
    have z1 := e2 vs (SqT.le le h)
    have z2 := e3 us (SqT.le le h')
    rw [g1] at z1; cases z1
    rw [g3] at z2; cases z2
    exact .inl ⟨T, _, rfl, hT, .cons g2 (.cons g4 .nil), e1⟩
  stop := fun H le => by
    refine ⟨vs, us, SqT.le le h, SqT.le le h', ?_⟩
    rw [r.length, r'.length]
    simp [zipR]; omega
end

/-- a list, a tuple or a text that is walked -/
def itemsR : D → Option (List Rv)
  | .lst ds => some (ds.map .val)
  | .fls ds => some (ds.map .val)
  | .tup ds => some (ds.map .val)
  | .str s => some (chars s)
  | _ => none
def iAny (g : GE) : GI := fun ρ => (g ρ).bind fun p => (frz p.2 p.1).bind fun q => (itemsR q.1).map fun rs => (rs, q.2)
section
variable {X : Cx} {tg e e2 : Expr} {pos p : Pos}
theorem di_any {g : GE} (h : DE X e g) : DI X tg e (iAny g) := (((pi_list h).or (pi_tup h)).or (pi_str h)).weak fun σ H R' q => by
  obtain ⟨G, p0, ρ, Hf, items, ρ', R, eg, k⟩ := q
  unfold iAny at eg
  simp only [Option.bind_eq_some_iff, Option.map_eq_some_iff, Prod.mk.injEq] at eg
  obtain ⟨⟨r, ρ1⟩, e1, ⟨d, ρ2⟩, e2, rs, e3, rfl, rfl⟩ := eg
  cases d with
  | lst ds =>
    cases e3
    refine .inl (.inl ⟨G, p0, ρ, Hf, r, ρ1, R, e1, fun v H1 Hf1 le1 R1 rr => ?_⟩)
    obtain ⟨Hf2, le2, R2, rp⟩ := frz_ok R1 rr e2
    cases rp with
    | lst a r => exact ⟨_, rfl, ⟨_, .inl (.inl (R2.fh _ _ a))⟩, k _ Hf2 _ (le1.trans le2) R2 (it_list (.inl (.inl a)) r)⟩
  | fls ds =>
    cases e3
    refine .inl (.inl ⟨G, p0, ρ, Hf, r, ρ1, R, e1, fun v H1 Hf1 le1 R1 rr => ?_⟩)
    obtain ⟨Hf2, le2, R2, rp⟩ := frz_ok R1 rr e2
    cases rp with
    | fls a r => exact ⟨_, rfl, ⟨_, SqL.le R2.fh a⟩, k _ Hf2 _ (le1.trans le2) R2 (it_list a r)⟩
  | tup ds =>
    cases e3
    refine .inl (.inr ⟨G, p0, ρ, Hf, r, ρ1, R, e1, fun v H1 Hf1 le1 R1 rr => ?_⟩)
    obtain ⟨Hf2, le2, R2, rp⟩ := frz_ok R1 rr e2
    cases rp with
    | tup a r => exact ⟨_, rfl, ⟨_, SqT.le R2.fh a⟩, k _ Hf2 _ (le1.trans le2) R2 (it_tup a r)⟩
  | str s =>
    cases e3
    refine .inr ⟨G, p0, ρ, Hf, r, ρ1, R, e1, fun v H1 Hf1 le1 R1 rr => ?_⟩
    obtain ⟨Hf2, le2, R2, rp⟩ := frz_ok R1 rr e2
    cases rp
    exact ⟨_, rfl, k _ Hf2 _ (le1.trans le2) R2 it_str⟩
  | _ => cases e3
def iRange (g : GE) : GI := fun ρ => (g ρ).bind fun p => match p.1 with
  | .fz (.int j) => if -(2 ^ 62) ≤ j ∧ j < 2 ^ 62 then some (rangeR 0 j.toNat, p.2) else none
  | _ => none
theorem di_range {g : GE} (hm : X.mg "range" = none) (h : DE X e g) (hg : Gl X "range" := by rfl) (hs : starEach [e] X.env = [(false, eval e X.env)] := by rfl) : DI X tg (.Call (.Name "range" p) [e] [] pos) (iRange g) := (pi_range1 hg hm (pa_cons h pa_nil hs) hs).weak fun σ H R' q => by
  obtain ⟨G, p0, ρ, Hf, items, ρ', R, eg, k⟩ := q
  unfold iRange at eg
  obtain ⟨⟨r, ρ1⟩, e1, eg⟩ := Option.bind_eq_some_iff.mp eg
  cases r with
  | nw _ => cases eg
  | bw _ => cases eg
  | fz d =>
    cases d with
    | int j =>
      have eg : (if -(2 ^ 62) ≤ j ∧ j < 2 ^ 62 then some (rangeR 0 j.toNat, ρ1) else none) = some (items, ρ') := eg
      split at eg
      · rename_i c
        cases eg
        refine ⟨G, p0, ρ, Hf, _, _, R, e1, fun v H1 Hf1 le1 R1 rr => ?_⟩
        cases rr
        exact ⟨j, rfl, c.1, c.2, k _ Hf1 _ le1 R1 it_range⟩
      · cases eg
    | _ => cases eg
def iRange2 (g h : GE) : GI := fun ρ => (g ρ).bind fun p => match p.1 with
  | .fz (.int i) => (h p.2).bind fun q => match q.1 with
    | .fz (.int j) => if (-(2 ^ 62) ≤ i ∧ i < 2 ^ 62) ∧ (-(2 ^ 62) ≤ j ∧ j < 2 ^ 62) then some (rangeR i (j - i).toNat, q.2) else none
    | _ => none
  | _ => none
theorem di_range2 {g h : GE} (hm : X.mg "range" = none) (h1 : DE X e g) (h2 : DE X e2 h) (hg : Gl X "range" := by rfl) (hs : starEach [e, e2] X.env = [(false, eval e X.env), (false, eval e2 X.env)] := by rfl) (hs2 : starEach [e2] X.env = [(false, eval e2 X.env)] := by rfl) : DI X tg (.Call (.Name "range" p) [e, e2] [] pos) (iRange2 g h) := (pi_range2 hg hm (pa_cons h1 (pa_cons h2 pa_nil hs2) (by rw [hs, hs2])) hs hs2).weak fun σ H R' q => by
  obtain ⟨G, p0, ρ, Hf, items, ρ', R, eg, k⟩ := q
  unfold iRange2 at eg
  obtain ⟨⟨r, ρ1⟩, e1, eg⟩ := Option.bind_eq_some_iff.mp eg
  cases r with
  | nw _ => cases eg
  | bw _ => cases eg
  | fz d =>
    cases d with
    | int i =>
      obtain ⟨⟨r2, ρ2⟩, e3, eg⟩ := Option.bind_eq_some_iff.mp eg
      cases r2 with
      | nw _ => cases eg
      | bw _ => cases eg
      | fz d2 =>
        cases d2 with
        | int j =>
          have eg : (if (-(2 ^ 62) ≤ i ∧ i < 2 ^ 62) ∧ (-(2 ^ 62) ≤ j ∧ j < 2 ^ 62) then some (rangeR i (j - i).toNat, ρ2) else none) = some (items, ρ') := eg
          split at eg
          · rename_i c
            cases eg
            refine ⟨G, p0, ρ, Hf, _, ρ1, R, e1, fun v H1 Hf1 le1 R1 rr => ?_⟩
            cases rr
            refine ⟨G, p0, ρ1, Hf1, _, _, R1, e3, fun v2 H2 Hf2 le2 R2 rr2 => ?_⟩
            cases rr2
            exact ⟨i, j, rfl, ⟨c.1.1, c.1.2, c.2.1, c.2.2⟩, k _ Hf2 _ (le1.trans le2) R2 it_range⟩
          · cases eg
        | _ => cases eg
    | _ => cases eg
def revR : D → Option (List Rv)
  | .lst ds => some (ds.reverse.map .val)
  | .fls ds => some (ds.reverse.map .val)
  | .tup ds => some (ds.reverse.map .val)
  | _ => none
def iRev (g : GE) : GI := fun ρ => (g ρ).bind fun p => (frz p.2 p.1).bind fun q => (revR q.1).map fun rs => (rs, q.2)
theorem di_rev {g : GE} (hm : X.mg "reversed" = none) (h : DE X e g) (hg : Gl X "reversed" := by rfl) (hs : starEach [e] X.env = (false, eval e X.env) :: starEach [] X.env := by rfl) : DI X tg (.Call (.Name "reversed" p) [e] [] pos) (iRev g) := (RT.pi_revA hg hm h hs).weak fun σ H R' q => by
  obtain ⟨G, p0, ρ, Hf, items, ρ', R, eg, k⟩ := q
  unfold iRev at eg
  simp only [Option.bind_eq_some_iff, Option.map_eq_some_iff, Prod.mk.injEq] at eg
  obtain ⟨⟨r, ρ1⟩, e1, ⟨d, ρ2⟩, e2, rs, e3, rfl, rfl⟩ := eg
  refine ⟨G, p0, ρ, Hf, r, ρ1, R, e1, fun v H1 Hf1 le1 R1 rr => ?_⟩
  obtain ⟨Hf2, le2, R2, rp⟩ := frz_ok R1 rr e2
  cases d with
  | lst ds =>
    cases e3
    cases rp with
    | lst a r => exact ⟨_, _, rfl, .inl ⟨.inl (.inl (R2.fh _ _ a)), k _ Hf2 _ (le1.trans le2) R2 (it_revL (.inl (.inl a)) r)⟩⟩
  | fls ds =>
    cases e3
    cases rp with
    | fls a r => exact ⟨_, _, rfl, .inl ⟨SqL.le R2.fh a, k _ Hf2 _ (le1.trans le2) R2 (it_revL a r)⟩⟩
  | tup ds =>
    cases e3
    cases rp with
    | tup a r => exact ⟨_, _, rfl, .inr ⟨SqT.le R2.fh a, k _ Hf2 _ (le1.trans le2) R2 (it_revT a r)⟩⟩
  | _ => cases e3
def zipD : D → D → Option (List Rv)
  | .lst ds, .lst es => some (zipR ds es)
  | .tup ds, .tup es => some (zipR ds es)
  | _, _ => none
def iZip (g h : GE) : GI := fun ρ => (aCons g (aCons h aNil) ρ).bind fun p => match p.1 with
  | [a, b] => (zipD a b).map fun rs => (rs, p.2)
  | _ => none
theorem di_zip {g h : GE} {elts : List Expr} {kk : Nat} {tpos : Pos} (hm : X.mg "zip" = none) (h1 : DE X e g) (h2 : DE X e2 h) (hg : Gl X "zip" := by rfl) (hs : starEach [e, e2] X.env = (false, eval e X.env) :: starEach [e2] X.env := by rfl) (hs2 : starEach [e2] X.env = (false, eval e2 X.env) :: starEach [] X.env := by rfl) (hpl : (backTo pos (starEach [e2] X.env)).any (·.1) = false := by rfl) :
    DI X (.Tuple elts kk tpos) (.Call (.Name "zip" p) [e, e2] [] pos) (iZip g h) := (RZ.pi_zipA hg hm (da_cons h1 (da_cons h2 da_nil hs2) hs) hs hpl).weak fun σ H R' q => by
  obtain ⟨G, p0, ρ, Hf, items, ρ', R, eg, k⟩ := q
  unfold iZip at eg
  obtain ⟨⟨ds, ρ1⟩, e1, eg⟩ := Option.bind_eq_some_iff.mp eg
  refine ⟨G, p0, ρ, Hf, ds, ρ1, R, e1, fun vs H1 Hf1 le1 R1 ra => ?_⟩
  match ds, eg, ra with
  | [a, b], eg, ra =>
    have eg : (zipD a b).map (fun rs => (rs, ρ1)) = some (items, ρ') := eg
    obtain ⟨rs, e3, e4⟩ := Option.map_eq_some_iff.mp eg
    cases e4
    cases ra with
    | cons r1 t =>
      cases t with
      | cons r2 t =>
        cases t
        cases a with
        | lst xs =>
          cases b with
          | lst ys =>
            cases e3
            cases r1 with
            | lst q1 s1 =>
              cases r2 with
              | lst q2 s2 => exact ⟨_, _, _, _, rfl, .inl ⟨.inl (.inl (R1.fh _ _ q1)), .inl (.inl (R1.fh _ _ q2)), k _ Hf1 _ le1 R1 (it_zipL (.inl (.inl q1)) s1 (.inl (.inl q2)) s2)⟩⟩
          | _ => cases e3
        | tup xs =>
          cases b with
          | tup ys =>
            cases e3
            cases r1 with
            | tup q1 s1 =>
              cases r2 with
              | tup q2 s2 => exact ⟨_, _, _, _, rfl, .inr ⟨SqT.le R1.fh q1, SqT.le R1.fh q2, k _ Hf1 _ le1 R1 (it_zipT q1 s1 q2 s2)⟩⟩
          | _ => cases e3
        | _ => cases e3
  | [], eg, _ => cases eg
  | [_], eg, _ => cases eg
  | _ :: _ :: _ :: _, eg, _ => cases eg
end

/-! ## for, while -/
def asgR (tg : Tg) : Rv → Ev → Option Ev
  | .val d, ρ => asg tg d ρ
  | .newT ds, ρ => asg tg (.tup ds) ρ
  | .newL _, _ => none
def loopG (tg : Tg) (b : GS) : List Rv → Ev → Option Out
  | [], ρ => some (.nx ρ)
  | r :: rs, ρ => (asgR tg r ρ).bind fun ρ1 => (b ρ1).bind fun o => match o with
    | .nx ρ2 => loopG tg b rs ρ2
    | .ct ρ2 => loopG tg b rs ρ2
    | .bk ρ2 => some (.nx ρ2)
    | .rt f ρ2 => some (.rt f ρ2)
def sFor (gi : GI) (tg : Tg) (b : GS) : GS := fun ρ => (gi ρ).bind fun p => loopG tg b p.1 p.2
def whileG (c : GT) (b : GS) : Nat → Ev → Option Out
  | 0, _ => none
  | n + 1, ρ => (c ρ).bind fun p => if p.1 = true then (b p.2).bind fun o => match o with
      | .nx ρ2 => whileG c b n ρ2
      | .ct ρ2 => whileG c b n ρ2
      | .bk ρ2 => some (.nx ρ2)
      | .rt f ρ2 => some (.rt f ρ2)
    else some (.nx p.2)
/-- an item's store -/
theorem asgR_ok {K : PySem.W.Frag} {G Hf H H' : Hp} {p0 : Addr} {σ : L2.St} {ρ ρ' : Ev} {x : V} {r : Rv} {tg : Tg} (R : Rel K G p0 σ H Hf ρ) (f : FinR K H Hf r x H') (e : asgR tg r ρ = some ρ') :
    ∃ Hf' d, Le Hf Hf' ∧ Rel K G p0 σ H' Hf' ρ ∧ Rp K Hf' x d ∧ asg tg d ρ = some ρ' := by
  obtain ⟨Hf', le, R', rr⟩ := fin_ok R f
  cases r with
  | val d => exact ⟨Hf', d, le, R', rr, e⟩
  | newT ds => exact ⟨Hf', _, le, R', rr, e⟩
  | newL ds => cases e
section
variable {X : Cx} {t e c : Expr} {body : List Stmt} {pos : Pos}
theorem ds_for {gi : GI} {tg : Tg} {b : GS} (hp : PassesOwn (model X.prog X.w) X.A X.env X.xe) (hc : X.calm = true) (hi : DI X t e gi) (hg : DG X t tg) (hb : DSs X body b) (hs : ∀ x, foldedSetIterable e X.env x = pure x := by intro _; rfl) :
    DS X (.For t e body [] pos) (sFor gi tg b) := (ps_for hp hc hi hg hb hs).weak fun D σ H q => by
  obtain ⟨G, p0, ρ, Hf, out, R, eg, k⟩ := q
  unfold sFor at eg
  obtain ⟨⟨items, ρ1⟩, e1, eg⟩ := Option.bind_eq_some_iff.mp eg
  refine ⟨G, p0, ρ, Hf, items, ρ1, R, e1, fun H1 Hf1 J le1 R1 ok => ?_⟩
  have k := k.le le1
  refine ⟨fun i m σ H => m = items.length - i ∧ i ≤ items.length ∧ ∃ ρi Hfi, Le Hf1 Hfi ∧ Rel X.K G p0 σ H Hfi ρi ∧ loopG tg b (items.drop i) ρi = some out, ⟨items.length, rfl, Nat.zero_le _, ρ1, Hf1, Le.refl _, R1, eg⟩, ?_⟩
  rintro i m σ2 H2 ⟨rfl, hi, ρi, Hfi, lei, Ri, ei⟩
  by_cases hlt : i < items.length
  · refine .inr ⟨ok.go i H2 (lei.trans Ri.fh) hlt, fun σ' H' => ∃ ρj Hfj, Le Hf1 Hfj ∧ Rel X.K G p0 σ' H' Hfj ρj ∧ loopG tg b (items.drop (i + 1)) ρj = some out,
      fun σ' H' h => ⟨items.length - (i + 1), by omega, rfl, hlt, h⟩, fun x H3 y => ?_⟩
    have hget : items[i]? = some items[i] := List.getElem?_eq_getElem hlt
    rw [List.drop_eq_getElem_cons hlt] at ei
    obtain ⟨ρa, ea, ei⟩ := Option.bind_eq_some_iff.mp ei
    obtain ⟨o, eo, ei⟩ := Option.bind_eq_some_iff.mp ei
    obtain ⟨Hfa, d, lea, Ra, rp, ed⟩ := asgR_ok Ri ((ok.yld i H2 x H3 _ (lei.trans Ri.fh) y hget).le lei) ea
    refine ⟨G, p0, ρi, Hfa, d, ρa, Ra, rp, ed, fun σ4 H4 Hf4 le4 _ R4 _ => ?_⟩
    refine ⟨G, p0, ρa, Hf4, o, R4, eo, ?_⟩
    have lej : Le Hf1 Hf4 := (lei.trans lea).trans le4
    cases o with
    | nx ρ2 => exact fun σ' H' Hf' le R' => ⟨ρ2, Hf', lej.trans le, R', ei⟩
    | ct ρ2 => exact fun σ' H' Hf' le R' => ⟨ρ2, Hf', lej.trans le, R', ei⟩
    | bk ρ2 => cases ei; exact fun σ' H' Hf' le R' => k σ' H' Hf' (lej.trans le) R'
    | rt f ρ2 => cases ei; exact fun σ' v H' Hf' le R' rr => k σ' v H' Hf' (lej.trans le) R' rr
  · have : i = items.length := by omega
    subst this
    rw [List.drop_length] at ei
    cases ei
    exact .inl ⟨ok.stop H2 (lei.trans Ri.fh), k σ2 H2 Hfi lei Ri⟩
theorem ds_while {gc : GT} {b : GS} (n : Nat) (hp : PassesOwn (model X.prog X.w) X.A X.env X.xe) (hc : DT X c gc) (hb : DSs X body b) : DS X (.While c body [] pos) (whileG gc b n) := (ps_while hp hc hb).weak fun D σ H q => by
  obtain ⟨G, p0, ρ, Hf, out, R, eg, k⟩ := q
  refine ⟨fun m σ H => ∃ ρi Hfi, Le Hf Hfi ∧ Rel X.K G p0 σ H Hfi ρi ∧ whileG gc b m ρi = some out, ⟨n, ρ, Hf, Le.refl _, R, eg⟩, ?_⟩
  rintro m σ2 H2 ⟨ρi, Hfi, lei, Ri, ei⟩
  cases m with
  | zero => cases ei
  | succ m =>
    obtain ⟨⟨b1, ρ1⟩, e1, ei⟩ := Option.bind_eq_some_iff.mp ei
    refine ⟨G, p0, ρi, Hfi, b1, ρ1, Ri, e1, fun H3 Hf3 le3 R3 => ?_⟩
    cases b1 with
    | false =>
      rw [if_neg Bool.false_ne_true] at ei ⊢
      cases ei
      exact k σ2 H3 Hf3 (lei.trans le3) R3
    | true =>
      rw [if_pos rfl] at ei ⊢
      obtain ⟨o, eo, ei⟩ := Option.bind_eq_some_iff.mp ei
      refine ⟨fun σ' H' => ∃ ρj Hfj, Le Hf Hfj ∧ Rel X.K G p0 σ' H' Hfj ρj ∧ whileG gc b m ρj = some out, fun σ' H' h => ⟨m, Nat.lt_succ_self m, h⟩, G, p0, ρ1, Hf3, o, R3, eo, ?_⟩
      have lej : Le Hf Hf3 := lei.trans le3
      cases o with
      | nx ρ2 => exact fun σ' H' Hf' le R' => ⟨ρ2, Hf', lej.trans le, R', ei⟩
      | ct ρ2 => exact fun σ' H' Hf' le R' => ⟨ρ2, Hf', lej.trans le, R', ei⟩
      | bk ρ2 => cases ei; exact fun σ' H' Hf' le R' => k σ' H' Hf' (lej.trans le) R'
      | rt f ρ2 => cases ei; exact fun σ' v H' Hf' le R' rr => k σ' v H' Hf' (lej.trans le) R' rr
end
end DL
end

section
set_option Elab.async false
set_option linter.all false
set_option maxRecDepth 100000
set_option maxHeartbeats 4000000
/-! # Comprehensions, dicts, texts, defs -/
namespace DL
open PySem PySem.Spec L2 StX

theorem wipe_get {σ : L2.St} {j : Nat} : ∀ {vs : List Nat}, (wipe σ vs)[j]? = if j ∈ vs then (if j < σ.length then some none else none) else σ[j]?
  | [] => by rw [if_neg (by simp)]; rfl
  | v :: vs => by
    show ((wipe σ vs).set v none)[j]? = _
    rw [List.getElem?_set, wipe_length]
    by_cases h : v = j
    · subst h
      rw [if_pos rfl, if_pos List.mem_cons_self]
    · rw [if_neg h, wipe_get]
      by_cases h2 : j ∈ vs
      · rw [if_pos h2, if_pos (List.mem_cons_of_mem _ h2)]
      · rw [if_neg h2, if_neg (by simp only [List.mem_cons, not_or]; exact ⟨fun e => h e.symm, h2⟩)]
theorem wipe_ext {σ τ : L2.St} {vs : List Nat} (hl : τ.length = σ.length) (h : ∀ j, j ∉ vs → τ[j]? = σ[j]?) : wipe τ vs = wipe σ vs := by
  apply List.ext_getElem?
  intro j
  rw [wipe_get, wipe_get, hl]
  by_cases q : j ∈ vs
  · rw [if_pos q, if_pos q]
  · rw [if_neg q, if_neg q, h j q]
theorem wipe_wipe {σ : L2.St} {vs : List Nat} : wipe (wipe σ vs) vs = wipe σ vs := wipe_ext (wipe_length _ _) fun j hj => by rw [wipe_get, if_neg hj]
def Ev.wipe (vs : List Nat) (ρ : Ev) : Ev := ⟨ρ.io, (List.range ρ.sl.length).map fun j => if vs.contains j then .un else (ρ.sl[j]?).getD .un⟩
/-- the slots vs as they were in ρ1, the others as in ρ2 -/
def Ev.rest (vs : List Nat) (ρ1 ρ2 : Ev) : Ev := ⟨ρ2.io, (List.range ρ2.sl.length).map fun j => if vs.contains j then (ρ1.sl[j]?).getD .un else (ρ2.sl[j]?).getD .un⟩
theorem ev_wipe_get {vs : List Nat} {ρ : Ev} {j : Nat} {s : Sl} (h : (ρ.wipe vs).sl[j]? = some s) : (j ∈ vs ∧ s = .un) ∨ (j ∉ vs ∧ ρ.sl[j]? = some s) := by
  unfold Ev.wipe at h
  simp only [List.getElem?_map] at h
  obtain ⟨a, h1, h2⟩ := Option.map_eq_some_iff.mp h
  obtain ⟨h3, h4⟩ := List.getElem?_eq_some_iff.mp h1
  rw [List.getElem_range] at h4
  subst h4
  rw [List.length_range] at h3
  by_cases q : j ∈ vs
  · rw [if_pos (by simpa using q)] at h2
    exact .inl ⟨q, h2.symm⟩
  · rw [if_neg (by simpa using q)] at h2
    refine .inr ⟨q, ?_⟩
    rw [List.getElem?_eq_getElem h3] at h2 ⊢
    simpa using h2
theorem ev_wipe_out {vs : List Nat} {ρ : Ev} {j : Nat} (h : j ∉ vs) : (ρ.wipe vs).sl[j]? = ρ.sl[j]? := by
  unfold Ev.wipe
  simp only [List.getElem?_map]
  by_cases q : j < ρ.sl.length
  · rw [List.getElem?_eq_getElem (by simpa using q), List.getElem_range]
    simp only [Option.map_some]
    rw [if_neg (by simpa using h), List.getElem?_eq_getElem q]
    rfl
  · rw [List.getElem?_eq_none (by simpa using q), List.getElem?_eq_none (by simpa using q)]
    rfl
theorem ev_rest_get {vs : List Nat} {ρ1 ρ2 : Ev} {j : Nat} {s : Sl} (h : (Ev.rest vs ρ1 ρ2).sl[j]? = some s) : (j ∈ vs ∧ (s = .un ∨ ρ1.sl[j]? = some s)) ∨ (j ∉ vs ∧ ρ2.sl[j]? = some s) := by
  unfold Ev.rest at h
  simp only [List.getElem?_map] at h
  obtain ⟨a, h1, h2⟩ := Option.map_eq_some_iff.mp h
  obtain ⟨h3, h4⟩ := List.getElem?_eq_some_iff.mp h1
  rw [List.getElem_range] at h4
  subst h4
  rw [List.length_range] at h3
  by_cases q : j ∈ vs
  · rw [if_pos (by simpa using q)] at h2
    refine .inl ⟨q, ?_⟩
    cases e : ρ1.sl[j]? with
    | none => rw [e] at h2; exact .inl h2.symm
    | some t => rw [e] at h2; exact .inr (congrArg some h2)
  · rw [if_neg (by simpa using q)] at h2
    refine .inr ⟨q, ?_⟩
    rw [List.getElem?_eq_getElem h3] at h2 ⊢
    simpa using h2
theorem ev_rest_out {vs : List Nat} {ρ1 ρ2 : Ev} {j : Nat} (h : j ∉ vs) : (Ev.rest vs ρ1 ρ2).sl[j]? = ρ2.sl[j]? := by
  unfold Ev.rest
  simp only [List.getElem?_map]
  by_cases q : j < ρ2.sl.length
  · rw [List.getElem?_eq_getElem (by simpa using q), List.getElem_range]
    simp only [Option.map_some]
    rw [if_neg (by simpa using h), List.getElem?_eq_getElem q]
    rfl
  · rw [List.getElem?_eq_none (by simpa using q), List.getElem?_eq_none (by simpa using q)]
    rfl
/-- the comprehension's own slots: none of them owns a list, none is the changed argument's -/
def ownOk (vs : List Nat) (ρ : Ev) : Bool := (vs.all fun j => match ρ.sl[j]? with
  | some (.ow _) => false
  | _ => true) && !(ρ.io && vs.contains 0)
section
variable {K : PySem.W.Frag} {G Hf H Hf1 H1 : Hp} {p0 : Addr} {σ : L2.St} {ρ ρ1 ρ2 : Ev} {vs : List Nat}
theorem Rel.wiped (R : Rel K G p0 σ H Hf ρ) (h0 : (ρ.io && vs.contains 0) = false) : Rel K G p0 (L2.wipe σ vs) H Hf (ρ.wipe vs) where
  fh := R.fh
  gh := R.gh
  gf := R.gf
  fz := fun i d e => by
    rcases ev_wipe_get e with ⟨_, z⟩ | ⟨h, e'⟩
    · cases z
    · obtain ⟨v, g1, g2⟩ := R.fz i d e'
      exact ⟨v, by rw [wipe_get, if_neg h]; exact g1, g2⟩
  ow := fun i ds e => by
    rcases ev_wipe_get e with ⟨_, z⟩ | ⟨h, e'⟩
    · cases z
    · obtain ⟨p, us, g1, g2⟩ := R.ow i ds e'
      exact ⟨p, us, by rw [wipe_get, if_neg h]; exact g1, g2⟩
  ap := fun i j ds es p e1 e2 e3 e4 => by
    rcases ev_wipe_get e1 with ⟨_, z⟩ | ⟨h1, e1'⟩
    · cases z
    · rcases ev_wipe_get e2 with ⟨_, z⟩ | ⟨h2, e2'⟩
      · cases z
      · rw [wipe_get, if_neg h1] at e3
        rw [wipe_get, if_neg h2] at e4
        exact R.ap i j ds es p e1' e2' e3 e4
  io := fun q => by
    have q' : ρ.io = true := q
    rw [q'] at h0
    have h : (0 : Nat) ∉ vs := by simpa using h0
    obtain ⟨g1, es, g2⟩ := R.io q'
    exact ⟨by rw [wipe_get, if_neg h]; exact g1, es, by rw [ev_wipe_out h]; exact g2⟩
  len := by
    show ((List.range ρ.sl.length).map _).length = _
    rw [List.length_map, List.length_range, wipe_length]; exact R.len
theorem Rel.unwiped (R1 : Rel K G p0 σ H1 Hf1 ρ1) (R : Rel K G p0 (L2.wipe σ vs) H Hf ρ2) (le : Le Hf1 Hf) (ok : ownOk vs ρ1 = true) (hio : ρ2.io = ρ1.io) : Rel K G p0 σ H Hf (Ev.rest vs ρ1 ρ2) := by
  unfold ownOk at ok
  simp only [Bool.and_eq_true, List.all_eq_true, Bool.not_eq_true'] at ok
  obtain ⟨ok1, ok2⟩ := ok
  have now : ∀ j, j ∈ vs → ∀ ds, ρ1.sl[j]? ≠ some (.ow ds) := fun j hj ds e => by
    have := ok1 j hj
    rw [e] at this; cases this
  refine ⟨R.fh, R.gh, R.gf, fun i d e => ?_, fun i ds e => ?_, fun i j ds es p e1 e2 e3 e4 => ?_, fun q => ?_, ?_⟩
  · rcases ev_rest_get e with ⟨_, z | e'⟩ | ⟨h, e'⟩
    · cases z
    · obtain ⟨v, g1, g2⟩ := R1.fz i d e'
      exact ⟨v, g1, g2.le le⟩
    · obtain ⟨v, g1, g2⟩ := R.fz i d e'
      rw [wipe_get, if_neg h] at g1
      exact ⟨v, g1, g2⟩
  · rcases ev_rest_get e with ⟨hm, z | e'⟩ | ⟨h, e'⟩
    · cases z
    · exact absurd e' (now i hm ds)
    · obtain ⟨p, us, g1, g2⟩ := R.ow i ds e'
      rw [wipe_get, if_neg h] at g1
      exact ⟨p, us, g1, g2⟩
  · rcases ev_rest_get e1 with ⟨hm, z | e'⟩ | ⟨h1, e1'⟩
    · cases z
    · exact absurd e' (now i hm ds)
    · rcases ev_rest_get e2 with ⟨hm, z | e'⟩ | ⟨h2, e2'⟩
      · cases z
      · exact absurd e' (now j hm es)
      · refine R.ap i j ds es p e1' e2' ?_ ?_
        · rw [wipe_get, if_neg h1]; exact e3
        · rw [wipe_get, if_neg h2]; exact e4
  · have q' : ρ2.io = true := q
    rw [hio] at q'
    rw [q'] at ok2
    have h : (0 : Nat) ∉ vs := by simpa using ok2
    obtain ⟨g1, es, g2⟩ := R.io q
    rw [wipe_get, if_neg h] at g1
    exact ⟨g1, es, by rw [ev_rest_out h]; exact g2⟩
  · show ((List.range ρ2.sl.length).map _).length = _
    rw [List.length_map, List.length_range, R.len, wipe_length]
/-- the guarded object is changed -/
theorem Rel.reguard {p : Addr} {o o' : HO} (R : Rel K (upd G p o) p0 σ H Hf ρ) (hg : G p = none) : Rel K (upd G p o') p0 σ (upd H p o') Hf ρ := by
  obtain ⟨R1, h1, h2, h3⟩ := R.unguard hg
  refine ⟨fun b u e => ?_, fun b u e => ?_, fun b u e => ?_, R1.fz, fun i ds e => ?_, R1.ap, R1.io, R1.len⟩
  · have z : b ≠ p := fun z => by rw [z, h2] at e; cases e
    rw [upd_ne z]; exact R1.fh b u e
  · by_cases z : b = p
    · subst z; rw [upd_same] at e ⊢; exact e
    · rw [upd_ne z] at e ⊢; exact R1.gh b u e
  · by_cases z : b = p
    · subst z; exact h2
    · rw [upd_ne z] at e; exact R1.gf b u e
  · obtain ⟨q, us, g1, g2, g3, g4, g5⟩ := R1.ow i ds e
    have z : q ≠ p := fun z => h3 i ds e (by rw [← z]; exact g1)
    exact ⟨q, us, g1, by rw [upd_ne z]; exact g2, g3, by rw [upd_ne z]; exact g4, g5⟩
end
mutual
theorem asg_io : ∀ {tg : Tg} {d : D} {ρ ρ' : Ev}, asg tg d ρ = some ρ' → ρ'.io = ρ.io
  | .nm i, d, ρ, ρ', h => by
    have h : (if (ρ.io && i == 0) = true then none else some (ρ.put i (.fz d))) = some ρ' := h
    split at h
    · cases h
    · cases h; rfl
  | .tp ts, .tup ds, ρ, ρ', h => asgs_io (ts := ts) (ds := ds) h
  | .tp ts, .non, _, _, h => by cases h
  | .tp ts, .bl _, _, _, h => by cases h
  | .tp ts, .int _, _, _, h => by cases h
  | .tp ts, .str _, _, _, h => by cases h
  | .tp ts, .lst _, _, _, h => by cases h
  | .tp ts, .fls _, _, _, h => by cases h
  | .tp ts, .dic _, _, _, h => by cases h
theorem asgs_io : ∀ {ts : List Tg} {ds : List D} {ρ ρ' : Ev}, asgs ts ds ρ = some ρ' → ρ'.io = ρ.io
  | [], [], _, _, h => by cases h; rfl
  | [], _ :: _, _, _, h => by cases h
  | _ :: _, [], _, _, h => by cases h
  | t :: ts, d :: ds, ρ, ρ', h => by
    have h : (asg t d ρ).bind (asgs ts ds) = some ρ' := h
    obtain ⟨ρ1, e1, e2⟩ := Option.bind_eq_some_iff.mp h
    exact (asgs_io e2).trans (asg_io e1)
end
def compG (tg : Tg) (c : GT) (ge : GE) (vs : List Nat) : List Rv → Ev → List D → Option (List D × Ev)
  | [], ρ, acc => some (acc, ρ)
  | r :: rs, ρ, acc => (asgR tg r ρ).bind fun ρ1 => (c ρ1).bind fun p => if p.1 = true then
      (ge p.2).bind fun q => (frz q.2 q.1).bind fun s => if acc.length < 16777216 ∧ (s.2.io && vs.contains 0) = false then compG tg c ge vs rs (s.2.wipe vs) (acc ++ [s.1]) else none
    else if (p.2.io && vs.contains 0) = false then compG tg c ge vs rs (p.2.wipe vs) acc else none
def gComp (gi : GI) (tg : Tg) (c : GT) (ge : GE) (vs : List Nat) : GE := fun ρ => (gi ρ).bind fun p => if ownOk vs p.2 = true ∧ (tgIx tg).all (vs.contains ·) = true then
    (compG tg c ge vs p.1 (p.2.wipe vs) []).bind fun q => if q.2.io = p.2.io then some (.nw q.1, Ev.rest vs p.2 q.2) else none
  else none
def gYes : GT := fun ρ => some (true, ρ)
abbrev DPTs (X : Cx) (ifs : List Expr) (g : GT) : Prop := PTs X ifs (tT X.K g)
theorem _root_.L2.PTs.weak {X : Cx} {e : List Expr} {t t' : TT} (h : PTs X e t) (w : ∀ σ H Q, t' σ H Q → t σ H Q) : PTs X e t' := ⟨fun pins s σ H Q I q => h.run pins s σ H Q I (w _ _ _ q)⟩
theorem dpts_nil {X : Cx} : DPTs X [] gYes := pts_nil.weak fun σ H Q q => by
  obtain ⟨G, p0, ρ, Hf, b, ρ', R, eg, k⟩ := q
  cases eg
  exact k H Hf (Le.refl _) R
theorem dpts_one {X : Cx} {c : Expr} {g : GT} (h : DT X c g) : DPTs X [c] g := pts_one h
theorem lc_tE {K : PySem.W.Frag} {gi : GI} {tg : Tg} {c : GT} {ge : GE} {vs : List Nat} {σ : L2.St} {H : Hp} {Q : VK} (q : tE K (gComp gi tg c ge vs) σ H Q) : tLc (tI K gi) (tG K tg) (tT K c) (tE K ge) vs σ H Q := by
  obtain ⟨G, p0, ρ, Hf, r', ρ', R, eg, k⟩ := q
  unfold gComp at eg
  obtain ⟨⟨items, ρ1⟩, e1, eg⟩ := Option.bind_eq_some_iff.mp eg
  have eg : (if ownOk vs ρ1 = true ∧ (tgIx tg).all (vs.contains ·) = true then
      (compG tg c ge vs items (ρ1.wipe vs) []).bind fun q => if q.2.io = ρ1.io then some (Res.nw q.1, Ev.rest vs ρ1 q.2) else none
    else none) = some (r', ρ') := eg
  split at eg
  case isFalse => cases eg
  case isTrue hok =>
  obtain ⟨⟨ds, ρ2⟩, e2, eg⟩ := Option.bind_eq_some_iff.mp eg
  have eg : (if ρ2.io = ρ1.io then some (Res.nw ds, Ev.rest vs ρ1 ρ2) else none) = some (r', ρ') := eg
  split at eg
  case isFalse => cases eg
  case isTrue hio =>
  cases eg
  have tin : ∀ j, j ∈ tgIx tg → j ∈ vs := fun j hj => by
    have := List.all_eq_true.mp hok.2 j hj
    simpa using this
  have h0 : (ρ1.io && vs.contains 0) = false := by
    have := hok.1
    unfold ownOk at this
    simp only [Bool.and_eq_true, Bool.not_eq_true'] at this
    exact this.2
  refine ⟨G, p0, ρ, Hf, items, ρ1, R, e1, fun H1 Hf1 J le1 R1 ok => fun D hD => ?_⟩
  obtain ⟨hfD, hgD, huD⟩ := R1.free_un hD
  have RA := (R1.alloc (o := .lst []) hD).guard upd_same hfD huD
  refine ⟨fun i m H => m = items.length - i ∧ i ≤ items.length ∧ ∃ ρi Hfi acc us, Le Hf1 Hfi ∧ Rel K (upd G D (.lst us)) p0 (L2.wipe σ vs) H Hfi ρi ∧ RpA K Hfi us acc ∧ compG tg c ge vs (items.drop i) ρi acc = some (ds, ρ2),
    ⟨items.length, rfl, Nat.zero_le _, ρ1.wipe vs, Hf1, [], [], Le.refl _, RA.wiped h0, .nil, e2⟩, ?_⟩
  rintro i m H2 ⟨rfl, hi, ρi, Hfi, acc, us, lei, Ri, ra, ei⟩
  by_cases hlt : i < items.length
  · refine .inr ⟨ok.go i H2 (lei.trans Ri.fh) hlt, fun H' => ∃ ρj Hfj acc us, Le Hf1 Hfj ∧ Rel K (upd G D (.lst us)) p0 (L2.wipe σ vs) H' Hfj ρj ∧ RpA K Hfj us acc ∧ compG tg c ge vs (items.drop (i + 1)) ρj acc = some (ds, ρ2),
      fun H' h => ⟨items.length - (i + 1), by omega, rfl, hlt, h⟩, fun x H3 y => ?_⟩
    have hget : items[i]? = some items[i] := List.getElem?_eq_getElem hlt
    rw [List.drop_eq_getElem_cons hlt] at ei
    obtain ⟨ρa, ea, ei⟩ := Option.bind_eq_some_iff.mp ei
    obtain ⟨⟨b, ρb⟩, eb, ei⟩ := Option.bind_eq_some_iff.mp ei
    obtain ⟨Hfa, d, lea, Ra, rp, ed⟩ := asgR_ok Ri ((ok.yld i H2 x H3 _ (lei.trans Ri.fh) y hget).le lei) ea
    refine ⟨_, p0, ρi, Hfa, d, ρa, Ra, rp, ed, fun σ4 H4 Hf4 le4 so R4 _ => ?_⟩
    have hw : L2.wipe σ4 vs = L2.wipe σ vs := by
      have : L2.wipe σ4 vs = L2.wipe (L2.wipe σ vs) vs := wipe_ext so.1 fun j hj => so.2 j fun z => hj (tin j z)
      rw [this, wipe_wipe]
    refine ⟨hw, _, p0, ρa, Hf4, b, ρb, R4, eb, fun H5 Hf5 le5 R5 => ?_⟩
    have lej : Le Hf1 Hf5 := ((lei.trans lea).trans le4).trans le5
    cases b with
    | false =>
      rw [if_neg Bool.false_ne_true] at ei
      refine iteF ?_
      split at ei
      · rename_i hz
        exact ⟨_, Hf5, acc, us, lej, hw ▸ R5.wiped hz, ra.le ((lea.trans le4).trans le5), ei⟩
      · cases ei
    | true =>
      rw [if_pos rfl] at ei
      refine iteT ?_
      obtain ⟨⟨r, ρc⟩, ec, ei⟩ := Option.bind_eq_some_iff.mp ei
      obtain ⟨⟨d6, ρd⟩, e6, ei⟩ := Option.bind_eq_some_iff.mp ei
      refine ⟨_, p0, ρb, Hf5, r, ρc, R5, ec, fun v H6 Hf6 le6 R6 rr => ?_⟩
      obtain ⟨Hf7, le7, R7, rp7⟩ := frz_ok R6 rr e6
      split at ei
      · rename_i hz
        have hl : acc.length < 16777216 := hz.1
        refine ⟨us, R7.gh D _ upd_same, by rw [ra.length, line_is]; exact hl, _, Hf7, acc ++ [d6], us ++ [v], (lej.trans le6).trans le7, ?_, ((ra.le ((((lea.trans le4).trans le5).trans le6).trans le7)).append (.cons rp7 .nil)), ei⟩
        have := (R7.reguard (o' := .lst (us ++ [v])) hgD).wiped hz.2
        rw [hw] at this
        exact this
      · cases ei
  · have : i = items.length := by omega
    subst this
    rw [List.drop_length] at ei
    cases ei
    obtain ⟨R3, g1, g2, g3⟩ := Ri.unguard hgD
    refine .inl ⟨ok.stop H2 (lei.trans Ri.fh), k _ H2 Hfi (le1.trans lei) (Rel.unwiped R1 R3 lei hok.1 hio) ⟨D, us, rfl, g1, g2, hgD, ra, fun j es e => ?_⟩⟩
    -- no slot owns the new list
    have hH : H1 D = none := hD
    rcases ev_rest_get e with ⟨hm, z | e'⟩ | ⟨h, e'⟩
    · cases z
    · intro z
      obtain ⟨q, ws, k1, k2, _⟩ := R1.ow j es e'
      rw [z] at k1; cases k1
      rw [hH] at k2; cases k2
    · have := g3 j es e'
      rw [wipe_get, if_neg h] at this
      exact this
section
variable {X : Cx} {elt t iter : Expr} {ifs : List Expr} {pos : Pos}
theorem de_lc {gi : GI} {tg : Tg} {c : GT} {ge : GE} {scope : Scope} {own : List (Str × Nat)} (hc : X.calm = true) (hN : X.N.Nodup) (hi : DI X t iter gi) (ok : BlkOk X.N X.env.scope scope own)
    (hg : ∀ (s : Shared) (H : Hp) (C : Addr) (cl : List (Str × Addr)) (fp : List Addr), DG (X.blk s H scope (compEnvC scope cl C X.env) fp) t tg) (ht : ∀ (s : Shared) (H : Hp) (C : Addr) (cl : List (Str × Addr)) (fp : List Addr), DPTs (X.blk s H scope (compEnvC scope cl C X.env) fp) ifs c)
    (he : ∀ (s : Shared) (H : Hp) (C : Addr) (cl : List (Str × Addr)) (fp : List Addr), DE (X.blk s H scope (compEnvC scope cl C X.env) fp) elt ge) (hs : ∀ x, foldedSetIterable iter X.env x = pure x := by intro _; rfl) :
    DE X (.ListComp elt [⟨t, iter, ifs, 0⟩] scope pos) (gComp gi tg c ge (own.map (·.2))) := (pe_lc hc hN hi ok hg ht he hs).weak fun σ H Q q => lc_tE q
theorem ds_setLc {i : Nat} {y : Str} {py : Pos} {gi : GI} {tg : Tg} {c : GT} {ge : GE} {scope : Scope} {own : List (Str × Nat)} {spos : Pos} (hc : X.calm = true) (hN : X.N.Nodup) (hi : DI X t iter gi) (ok : BlkOk X.N X.env.scope scope own)
    (hg : ∀ (s : Shared) (H : Hp) (C : Addr) (cl : List (Str × Addr)) (fp : List Addr), DG (X.blk s H scope (compEnvC scope cl C X.env) fp) t tg) (ht : ∀ (s : Shared) (H : Hp) (C : Addr) (cl : List (Str × Addr)) (fp : List Addr), DPTs (X.blk s H scope (compEnvC scope cl C X.env) fp) ifs c)
    (he : ∀ (s : Shared) (H : Hp) (C : Addr) (cl : List (Str × Addr)) (fp : List Addr), DE (X.blk s H scope (compEnvC scope cl C X.env) fp) elt ge) (hs : ∀ x, foldedSetIterable iter X.env x = pure x := by intro _; rfl)
    (hy : X.N[i]? = some y := by rfl) (hyl : X.env.scope.names.lookup y = some .local := by rfl) (hsw : swapsWith (.ListComp elt [⟨t, iter, ifs, 0⟩] scope pos) (some (.Name y py)) spos.line X.env = pure true := by exact sw_true rfl rfl rfl (by decide +kernel)) :
    DS X (.Assign [.Name y py] (.ListComp elt [⟨t, iter, ifs, 0⟩] scope pos) spos) (sSet i (gComp gi tg c ge (own.map (·.2)))) :=
  (ps_setLc hc hN hy hyl hsw hi ok hg ht he hs).weak fun D σ H q => by
    have h := set_tS q
    exact lc_tE h
end
end DL
end

section
set_option Elab.async false
set_option linter.all false
set_option maxRecDepth 100000
set_option maxHeartbeats 4000000
/-! # Dicts, texts, defs -/
namespace DL
open PySem PySem.Spec L2 StX

/-! ## a def by its body -/
def env0 (io : Bool) (n : Nat) : List D → Ev
  | ds => ⟨io, (match io, ds with
    | true, .lst cs :: r => .ow cs :: r.map .fz
    | _, ds => ds.map .fz) ++ List.replicate (n - ds.length) .un⟩
def ioC (ρ : Ev) : List D := match ρ.sl[0]? with
  | some (Sl.ow cs) => cs
  | _ => []
def phiP (m n : Nat) (g : GS) : Phi := fun ds => if ds.length = m then match g (env0 false n ds) with
  | some (.rt r ρ) => some (r, [])
  | some (.nx ρ) => some (.val .non, [])
  | _ => none
  else none
def phiI (m n : Nat) (g : GS) : Phi := fun ds => if ds.length = m then match g (env0 true n ds) with
  | some (.rt r ρ) => if ρ.io = true then some (r, ioC ρ) else none
  | some (.nx ρ) => if ρ.io = true then some (.val .non, ioC ρ) else none
  | _ => none
  else none
theorem phiP_len {m n : Nat} {g : GS} : ∀ ds q, phiP m n g ds = some q → ds.length = m := fun ds q h => by
  unfold phiP at h
  split at h
  · assumption
  · cases h
theorem phiI_len {m n : Nat} {g : GS} : ∀ ds q, phiI m n g ds = some q → ds.length = m := fun ds q h => by
  unfold phiI at h
  split at h
  · assumption
  · cases h
theorem start_get {N : List Str} {vs : List V} {i : Nat} {v : V} (h : vs[i]? = some v) : (L2.start N vs)[i]? = some (some v) := by
  unfold L2.start
  have hi : i < vs.length := (List.getElem?_eq_some_iff.mp h).1
  rw [List.getElem?_append_left (by simpa using hi), List.getElem?_map, h]
  rfl
theorem start_len {N : List Str} {vs : List V} (h : vs.length ≤ N.length) : (L2.start N vs).length = N.length := by
  unfold L2.start
  simp; omega
theorem frame_le {H Hf : Hp} : Le (frameOf H Hf) H := fun b o e => by
  unfold frameOf at e
  split at e
  · exact e
  · cases e
theorem frame_free {H Hf : Hp} {b : Addr} {o : HO} (e : frameOf H Hf b = some o) : Hf b = none := by
  unfold frameOf at e
  split at e
  · assumption
  · cases e
theorem frame_of {H Hf : Hp} {b : Addr} {o : HO} (n : Hf b = none) (e : H b = some o) : frameOf H Hf b = some o := by
  unfold frameOf
  rw [n]
  exact e
theorem env0_get {n : Nat} {ds : List D} {i : Nat} {s : Sl} (h : (env0 false n ds).sl[i]? = some s) : (∃ d, ds[i]? = some d ∧ s = .fz d) ∨ s = .un := by
  have h : (ds.map Sl.fz ++ List.replicate (n - ds.length) .un)[i]? = some s := h
  by_cases hi : i < ds.length
  · rw [List.getElem?_append_left (by simpa using hi), List.getElem?_map] at h
    obtain ⟨d, h1, h2⟩ := Option.map_eq_some_iff.mp h
    exact .inl ⟨d, h1, h2.symm⟩
  · rw [List.getElem?_append_right (by simpa using hi), List.getElem?_replicate] at h
    split at h
    · cases h; exact .inr rfl
    · cases h
theorem rel_startP {K : PySem.W.Frag} {H Hf : Hp} {N : List Str} {vs : List V} {ds : List D} (le : Le Hf H) (r : RpA K Hf vs ds) (hl : vs.length ≤ N.length) : Rel K (frameOf H Hf) 0 (L2.start N vs) H Hf (env0 false N.length ds) where
  fh := le
  gh := frame_le
  gf := fun b o e => frame_free e
  fz := fun i d e => by
    rcases env0_get e with ⟨d', h1, h2⟩ | h
    · cases h2
      obtain ⟨v, g1, g2⟩ := r.get h1
      exact ⟨v, start_get g1, g2⟩
    · cases h
  ow := fun i es e => by
    rcases env0_get e with ⟨d', h1, h2⟩ | h
    · cases h2
    · cases h
  ap := fun i j es fs p e1 => by
    rcases env0_get e1 with ⟨d', h1, h2⟩ | h
    · cases h2
    · cases h
  io := fun q => by cases q
  len := by
    rw [start_len hl]
    show (ds.map Sl.fz ++ List.replicate (N.length - ds.length) Sl.un).length = _
    have := r.length
    simp; omega
theorem env1_get {n : Nat} {cs : List D} {ds : List D} {i : Nat} {s : Sl} (h : (env0 true n (.lst cs :: ds)).sl[i]? = some s) : (i = 0 ∧ s = .ow cs) ∨ (∃ j d, i = j + 1 ∧ ds[j]? = some d ∧ s = .fz d) ∨ s = .un := by
  have h : ((Sl.ow cs :: ds.map Sl.fz) ++ List.replicate (n - (D.lst cs :: ds).length) .un)[i]? = some s := h
  cases i with
  | zero => left; exact ⟨rfl, by simpa using h.symm⟩
  | succ j =>
    right
    have h : (ds.map Sl.fz ++ List.replicate (n - (D.lst cs :: ds).length) .un)[j]? = some s := by simpa using h
    by_cases hi : j < ds.length
    · rw [List.getElem?_append_left (by simpa using hi), List.getElem?_map] at h
      obtain ⟨d, h1, h2⟩ := Option.map_eq_some_iff.mp h
      exact .inl ⟨j, d, rfl, h1, h2.symm⟩
    · rw [List.getElem?_append_right (by simpa using hi), List.getElem?_replicate] at h
      split at h
      · cases h; exact .inr rfl
      · cases h
def frameI (H Hf : Hp) (p : Addr) : Hp := fun b => if b = p then none else frameOf H Hf b
theorem rel_startI {K : PySem.W.Frag} {H Hf : Hp} {N : List Str} {p : Addr} {us : List V} {cs : List D} {ws : List V} {es : List D} (le : Le Hf H) (hp : H p = some (.lst us)) (hf : Hf p = none) (r : RpA K Hf us cs) (rw' : RpA K Hf ws es) (hl : ws.length + 1 ≤ N.length) :
    Rel K (frameI H Hf p) p (L2.start N (.ref p :: ws)) H Hf (env0 true N.length (.lst cs :: es)) where
  fh := le
  gh := fun b o e => by
    unfold frameI at e
    split at e
    · cases e
    · exact frame_le b o e
  gf := fun b o e => by
    unfold frameI at e
    split at e
    · cases e
    · exact frame_free e
  fz := fun i d e => by
    rcases env1_get e with ⟨_, z⟩ | ⟨j, d', rfl, h1, z⟩ | z
    · cases z
    · cases z
      obtain ⟨v, g1, g2⟩ := rw'.get h1
      exact ⟨v, start_get (by simpa using g1), g2⟩
    · cases z
  ow := fun i es' e => by
    rcases env1_get e with ⟨rfl, z⟩ | ⟨j, d', rfl, h1, z⟩ | z
    · cases z
      exact ⟨p, us, start_get rfl, hp, hf, by unfold frameI; rw [if_pos rfl], r⟩
    · cases z
    · cases z
  ap := fun i j a b q e1 e2 _ _ => by
    rcases env1_get e1 with ⟨rfl, _⟩ | ⟨_, _, _, _, z⟩ | z
    · rcases env1_get e2 with ⟨rfl, _⟩ | ⟨_, _, _, _, z⟩ | z
      · rfl
      · cases z
      · cases z
    · cases z
    · cases z
  io := fun _ => ⟨start_get rfl, cs, rfl⟩
  len := by
    rw [start_len (by simpa using hl)]
    show ((Sl.ow cs :: es.map Sl.fz) ++ List.replicate (N.length - (D.lst cs :: es).length) Sl.un).length = _
    have := rw'.length
    simp; omega
section
variable {P : Program} {w : World} {K : PySem.W.Frag} {mg : Str → Option Value} {base : Heap}
theorem fn_P {x qual : Str} {params : Arguments} {body : List Stmt} {scope : Scope} {dvs : List V} {kws : List (Str × V)} {f : Addr} {fd : FuncData} {N ps : List Str} {k : Nat} {g : GS} (F : FunD K x qual params body scope dvs kws f fd) (S : FnScope N ps scope)
    (hb : ∀ (cdv : Value) (A : Around) (outer : List Env) (s : Shared) (H : Hp) (E : XK), Room k (A.deeper (PyProof.Rows.envOfC qual scope s.heap.objs.size f cdv)) → DSs (cxOf CX0 P w K mg base N qual scope f cdv A outer s H E).nox body g) :
    FnOk P w K mg base CX0 (k + 1) f fd ps (SpP K ps.length (phiP ps.length N.length g)) := by
  have hN : ps.length ≤ N.length := by have := congrArg List.length S.pre; rw [List.length_take] at this; omega
  refine F.ok S (fun vs H Q E h => ?_) (fun cdv A outer s H vs Q E hr h => ⟨tS K g, PSs.nox (hb cdv A outer s H E hr), ?_⟩)
  · obtain ⟨Hf, ds, r, cs, h1, h2, h3⟩ := h; exact h2
  · obtain ⟨Hf, ds, r, cs, le, hl, ra, e, k'⟩ := h
    unfold phiP at e
    split at e
    case isFalse => cases e
    case isTrue hm =>
    have R := rel_startP (N := N) le ra (by rw [hl]; exact hN)
    have fin : ∀ {σ' : L2.St} {H' Hf' : Hp} {ρ' : Ev}, Le Hf Hf' → Rel K (frameOf H Hf) 0 σ' H' Hf' ρ' → Le H H' ∧ ∀ b o, Hf' b = some o → Hf b = none → H b = none := fun {σ' H' Hf' ρ'} l R' => by
      refine ⟨fun b o z => ?_, fun b o z n => ?_⟩
      · cases q : Hf b with
        | none => exact R'.gh b o (frame_of q z)
        | some u =>
          have := le b u q
          rw [this] at z; cases z
          exact R'.fh b _ (l b _ q)
      · cases q : H b with
        | none => rfl
        | some u =>
          have := R'.gf b u (frame_of n q)
          rw [z] at this; cases this
    cases q : g (env0 false N.length ds) with
    | none => rw [q] at e; cases e
    | some out =>
      rw [q] at e
      refine ⟨_, 0, _, Hf, out, R, q, ?_⟩
      cases out with
      | nx ρ =>
        cases e
        intro σ' H' Hf' l R'
        obtain ⟨l1, fr⟩ := fin l R'
        exact k' .non H' Hf' l R'.fh l1 fr .non
      | bk ρ => cases e
      | ct ρ => cases e
      | rt r' ρ =>
        cases e
        intro σ' v H' Hf' l R' rr
        obtain ⟨l1, fr⟩ := fin l R'
        refine k' v H' Hf' l R'.fh l1 fr ?_
        cases r with
        | val d => exact rr
        | new es =>
          obtain ⟨p, us, z1, z2, z3, z4, z5, _⟩ := rr
          refine ⟨p, us, z1, z2, ?_, z3, z5⟩
          cases q2 : H p with
          | none => rfl
          | some u =>
            cases q3 : Hf p with
            | none => rw [frame_of q3 q2] at z4; cases z4
            | some u' => rw [l p u' q3] at z3; cases z3
theorem fn_I {x qual : Str} {params : Arguments} {body : List Stmt} {scope : Scope} {dvs : List V} {kws : List (Str × V)} {f : Addr} {fd : FuncData} {N ps : List Str} {k : Nat} {g : GS} (F : FunD K x qual params body scope dvs kws f fd) (S : FnScope N ps scope)
    (hb : ∀ (cdv : Value) (A : Around) (outer : List Env) (s : Shared) (H : Hp) (E : XK), Room k (A.deeper (PyProof.Rows.envOfC qual scope s.heap.objs.size f cdv)) → DSs (cxOf CX0 P w K mg base N qual scope f cdv A outer s H E).nox body g) :
    FnOk P w K mg base CX0 (k + 1) f fd ps (SpI K ps.length (phiI ps.length N.length g)) := by
  have hN : ps.length ≤ N.length := by have := congrArg List.length S.pre; rw [List.length_take] at this; omega
  refine F.ok S (fun vs H Q E h => ?_) (fun cdv A outer s H vs Q E hr h => ⟨tS K g, PSs.nox (hb cdv A outer s H E hr), ?_⟩)
  · obtain ⟨Hf, p, us, cs, ws, es, r, cs', h1, h2, h3, _⟩ := h; exact h3
  · obtain ⟨Hf, p, us, cs, ws, es, r, cs', le, rfl, hl, hp, hf, ra, rb, e, k'⟩ := h
    unfold phiI at e
    split at e
    case isFalse => cases e
    case isTrue hm =>
    have R := rel_startI (N := N) le hp hf ra rb (by simp at hl; omega)
    have fin : ∀ {σ' : L2.St} {H' Hf' : Hp} {ρ' : Ev}, ρ'.io = true → Le Hf Hf' → Rel K (frameI H Hf p) p σ' H' Hf' ρ' → (∀ b o, b ≠ p → H b = some o → H' b = some o) ∧ (∀ b o, Hf' b = some o → Hf b = none → H b = none) ∧
        ∃ us', H' p = some (.lst us') ∧ RpA K Hf' us' (ioC ρ') ∧ Hf' p = none := fun {σ' H' Hf' ρ'} hio l R' => by
      obtain ⟨g1, fs, g2⟩ := R'.io hio
      obtain ⟨q, ws', h1, h2, h3, h4, h5⟩ := R'.ow 0 fs g2
      rw [g1] at h1; cases h1
      refine ⟨fun b o nb z => ?_, fun b o z n => ?_, ws', h2, by unfold ioC; rw [g2]; exact h5, h3⟩
      · cases q : Hf b with
        | none => exact R'.gh b o (by unfold frameI; rw [if_neg nb]; exact frame_of q z)
        | some u =>
          have := le b u q
          rw [this] at z; cases z
          exact R'.fh b _ (l b _ q)
      · by_cases nb : b = p
        · subst nb; rw [h3] at z; cases z
        · cases q : H b with
          | none => rfl
          | some u =>
            have := R'.gf b u (by unfold frameI; rw [if_neg nb]; exact frame_of n q)
            rw [z] at this; cases this
    cases q : g (env0 true N.length (.lst cs :: es)) with
    | none => rw [q] at e; cases e
    | some out =>
      rw [q] at e
      refine ⟨_, p, _, Hf, out, R, q, ?_⟩
      cases out with
      | nx ρ =>
        have e : (if ρ.io = true then some (RF.val .non, ioC ρ) else none) = some (r, cs') := e
        split at e
        case isFalse => cases e
        case isTrue hio =>
        cases e
        intro σ' H' Hf' l R'
        obtain ⟨l1, fr, us', h1, h2, h3⟩ := fin hio l R'
        exact k' .non H' Hf' us' l R'.fh l1 fr h1 h2 .non
      | bk ρ => cases e
      | ct ρ => cases e
      | rt r' ρ =>
        have e : (if ρ.io = true then some (r', ioC ρ) else none) = some (r, cs') := e
        split at e
        case isFalse => cases e
        case isTrue hio =>
        cases e
        intro σ' v H' Hf' l R' rr
        obtain ⟨l1, fr, us', h1, h2, h3⟩ := fin hio l R'
        refine k' v H' Hf' us' l R'.fh l1 fr h1 h2 ?_
        cases r with
        | val d => exact rr
        | new es =>
          obtain ⟨q0, us0, z1, z2, z3, z4, z5, z6⟩ := rr
          refine ⟨q0, us0, z1, z2, ?_, z3, z5⟩
          have nb : q0 ≠ p := z6 hio
          cases q2 : H q0 with
          | none => rfl
          | some u =>
            cases q3 : Hf q0 with
            | none =>
              have : frameI H Hf p q0 = some u := by unfold frameI; rw [if_neg nb]; exact frame_of q3 q2
              rw [this] at z4; cases z4
            | some u' => rw [l q0 u' q3] at z3; cases z3
end
end DL
end

section
set_option Elab.async false
set_option linter.all false
set_option maxRecDepth 100000
set_option maxHeartbeats 4000000
/-! # Constants, dicts, joins, texts backwards -/
namespace DL
open PySem PySem.Spec PyProof.Rows L2 StX
section
variable {X : Cx} {e a b : Expr} {pos : Pos}
theorem de_glob {x : Str} {v : V} {u : Value} {d : D} (hm : X.mg x = some u) (r : RelV v u) (h : ∀ Hf, Rp X.K Hf v d) (hg : Gl X x := by rfl) (hd : (x == ("__debug__" : Str)) = false := by decide) : DE X (.Name x pos) (gC d) :=
  de_const (pe_glob hg hm r hd) h

/-! ## '' .join -/
theorem glued_nil (ys : List (List Nat)) : Txt.join (mkS []) (ys.map mkS) = mkS ys.flatten := by
  have key : ∀ (ys : List (List Nat)) (acc : Array Nat), (ys.map mkS).foldl (fun acc p => acc ++ (mkS []).cps ++ p.cps) acc = acc ++ ys.flatten.toArray := by
    intro ys
    induction ys with
    | nil => intro acc; simp
    | cons y ys ih =>
      intro acc
      rw [List.map_cons, List.foldl_cons, ih, List.flatten_cons]
      show acc ++ (#[] : Array Nat) ++ y.toArray ++ _ = _
      apply Array.ext'
      simp
  unfold Txt.join Builtin.Str.glued
  cases ys with
  | nil => rfl
  | cons y ys =>
    rw [List.map_cons, List.drop_succ_cons, List.drop_zero, key]
    show (⟨y.toArray ++ ys.flatten.toArray⟩ : Str) = ⟨(y :: ys).flatten.toArray⟩
    rw [List.flatten_cons]
    congr 1
    apply Array.ext'
    simp
def oJoin : D → Option Rv
  | .lst xs => (strsD xs).bind fun ys => if (ys.map (·.length)).sum ≤ 16777216 then some (.val (.str ys.flatten)) else none
  | .tup xs => (strsD xs).bind fun ys => if (ys.map (·.length)).sum ≤ 16777216 then some (.val (.str ys.flatten)) else none
  | _ => none
theorem de_join {g : GE} {j} {p1 apos : Pos} {x : Str} (h : DE X e g) (hx : x = mkS [] := by rfl) (hs : starEach [e] X.env = [(false, eval e X.env)] := by rfl) (hbase : attributeBase (.Constant (.str x) j p1) "join" X.env (eval (.Constant (.str x) j p1) X.env) = eval (.Constant (.str x) j p1) X.env := by rfl) (hline : (apos.endLine == pos.line) = true := by rfl) :
    DE X (.Call (.Attribute (.Constant (.str x) j p1) "join" apos) [e] [] pos) (gUn oJoin g) := by
  subst hx
  refine (pe_join pe_str h hs hbase hline).weak fun σ H Q q => ?_
  have fin : ∀ (xs : List D) (ys : List (List Nat)) (vs : List V) (H2 Hf2 : Hp), RpA X.K Hf2 vs xs → strsD xs = some ys → (ys.map (·.length)).sum ≤ 16777216 → vs = (ys.map mkS).map V.str ∧ (((ys.map mkS).map (·.length)).sum + (ys.map mkS).length * (mkS []).length ≤ 16777216) := fun xs ys vs H2 Hf2 r es hz => by
    refine ⟨strs_vs r es, ?_⟩
    have e1 : (ys.map mkS).map (·.length) = ys.map (·.length) := by
      rw [List.map_map]
      exact List.map_congr_left fun s _ => mkS_len s
    have e2 : (mkS []).length = 0 := rfl
    rw [e1, e2, Nat.mul_zero]
    exact hz
  have q2 := un_tE (K := X.K) (op := oJoin) (r := fun y H2 Q => ∃ p, ∃ ys : List Str, y = .ref p ∧ (SqL X.K H2 p (ys.map V.str) ∨ SqT X.K H2 p (ys.map V.str)) ∧ (ys.map (·.length)).sum + ys.length * (mkS []).length ≤ 16777216 ∧ Q (.str (Txt.join (mkS []) ys)) H2)
    (fun y H2 Hf d res Q le dx ej k => by
      cases d with
      | lst xs =>
        obtain ⟨ys, es, ej⟩ := Option.bind_eq_some_iff.mp ej
        split at ej
        case isFalse => cases ej
        case isTrue hz =>
        cases ej
        obtain ⟨p, vs, rfl, h1, r⟩ := dx.lst le
        obtain ⟨e1, e2⟩ := fin xs ys vs H2 Hf r es hz
        exact ⟨p, ys.map mkS, rfl, .inl (by rw [← e1]; exact .inl (.inl h1)), e2, by rw [glued_nil]; exact k _ _ ⟨rfl, .str _⟩⟩
      | tup xs =>
        obtain ⟨ys, es, ej⟩ := Option.bind_eq_some_iff.mp ej
        split at ej
        case isFalse => cases ej
        case isTrue hz =>
        cases ej
        obtain ⟨p, vs, rfl, h1, r⟩ := dx.tup le
        obtain ⟨e1, e2⟩ := fin xs ys vs H2 Hf r es hz
        exact ⟨p, ys.map mkS, rfl, .inr (by rw [← e1]; exact h1), e2, by rw [glued_nil]; exact k _ _ ⟨rfl, .str _⟩⟩
      | _ => cases ej) q
  show (∃ a, (V.str (mkS []) : V) = .str a) ∧ tE X.K g σ H fun y H2 => _
  refine ⟨⟨_, rfl⟩, ?_⟩
  obtain ⟨G, p0, ρ, Hf, r, ρ', R, eg, k⟩ := q2
  refine ⟨G, p0, ρ, Hf, r, ρ', R, eg, fun v H' Hf' l R' rr => ?_⟩
  obtain ⟨p, ys, rfl, h1, h2, h3⟩ := k v H' Hf' l R' rr
  exact ⟨_, p, ys, rfl, rfl, h1, h2, h3⟩

/-! ## text[::-1] -/
theorem rev_picked (x : Str) (t : Tok) (c : Tok) : sliceMade x t none none (some (-1, c)) = .str ⟨x.cps.toList.reverse.toArray⟩ := by
  unfold sliceMade
  rw [if_neg (by show ¬ ((((-1 : Int) == 1) && _) = true); simp)]
  congr 2
  unfold slicePicked
  have e : Builtin.Str.strSliceIndices ((none : Option (Int × Tok)).map (·.1)) ((none : Option (Int × Tok)).map (·.1)) (((some ((-1 : Int), c)).map (·.1)).getD 1) x.length = sliceRange ((x.cps.size : Int) - 1) (-1) (-1) := rfl
  rw [e, PySem.W.krv_sliceRange, PySem.W.krv_range, List.filterMap_reverse, PySem.W.krv_all]
def oRevS : D → Option Rv
  | .str s => if s.length ≤ 16777216 then some (.val (.str s.reverse)) else none
  | _ => none
def tRevS (te : TE) : TE := fun σ H Q => te σ H fun x H1 => ∃ s : List Nat, x = .str (mkS s) ∧ s.length ≤ 16777216 ∧ Q (.str (mkS s.reverse)) H1
theorem pe_revS {te : TE} {k : Nat} {p1 p2 p3 : Pos} (he : PE X e te) (ht : ∀ o r, letTemporaryGo e o r = pure () := by intro _ _; rfl) : PE X (.Subscript e (.Slice none none (some (.UnaryOp .USub (.Constant (.int 1) k p1) p2)) p3) pos) (tRevS te) := by
  refine ⟨fun pins s σ H Q I h => ?_⟩
  refine Subscript_ (thn (he.run pins s σ H _ I h) fun v s1 ⟨x, H1, I1, r1, q1⟩ => ?_)
  obtain ⟨z, ex, hz, q⟩ := q1
  subst ex
  obtain ⟨t, rfl⟩ := r1
  have hst : PO X (some (.UnaryOp .USub (.Constant (.int 1) k p1) p2)) (tPart (tUn (rU fun i => .int (-i)) (tC (.int 1)))) := po_some (pe_un un_neg pe_int)
  refine wpAny_Slice (thn (po_none.run pins s1 σ H1 (fun o H2 => o = none ∧ H2 = H1) I1 ⟨rfl, rfl⟩) fun vl s2 ⟨l, H2, I2, pl, el, e2⟩ => ?_)
  subst el e2
  refine thn (po_none.run pins s2 σ H2 (fun o H3 => o = none ∧ H3 = H2) I2 ⟨rfl, rfl⟩) fun vu s3 ⟨u, H3, I3, pu, eu, e3⟩ => ?_
  subst eu e3
  refine thn (hst.run pins s3 σ H3 (fun o H4 => o = some (-1) ∧ H4 = H3) I3 ⟨1, rfl, -1, rfl, rfl, rfl⟩) fun vs s4 ⟨o, H4, I4, ps, eo, e4⟩ => ?_
  subst eo e4
  have I5 : Inv X pins σ H4 { s4 with heap := s4.heap.push { cls := .type "slice", data := .fields #[vl, vu, vs] } } := I4.kept (t' := s4.toks) fun b ob q => Heap.get?_push_of_some _ q
  show wpAny (model X.prog X.w) X.A (subscriptTail e (.Slice none none (some (.UnaryOp .USub (.Constant (.int 1) k p1) p2)) p3) (.str (mkS z) t) (.ref s4.heap.objs.size)) (EP X pins σ Q) X.xe { s4 with heap := s4.heap.push { cls := .type "slice", data := .fields #[vl, vu, vs] } }
  obtain rfl : vl = .none := by cases pl; rfl
  obtain rfl : vu = .none := by cases pu; rfl
  obtain ⟨c, rfl⟩ : ∃ c, vs = .int (-1) c := by cases ps; exact ⟨_, rfl⟩
  refine tail_any (ops := [.str (mkS z) t, .ref s4.heap.objs.size]) (typeIs_str _ _ _) (PySem.F.slot_str_getitem.lookup) ?_ (by with_unfolding_all rfl)
  refine wpAny_getItem_str_slice (l := none) (u := none) (st := some (-1, c)) ⟨_, Heap.get?_push_size _ rfl, rfl, rfl⟩ rfl ?_
  rw [rev_picked]
  refine ⟨?_, ?_⟩
  · show (z.toArray.toList.reverse.toArray).size ≤ _
    rw [line_is]; simpa using hz
  · exact ⟨.str (mkS z.reverse), H4, I5.tok _, ⟨_, rfl⟩, q⟩
theorem de_revS {g : GE} {k : Nat} {p1 p2 p3 : Pos} (he : DE X e g) (ht : ∀ o r, letTemporaryGo e o r = pure () := by intro _ _; rfl) : DE X (.Subscript e (.Slice none none (some (.UnaryOp .USub (.Constant (.int 1) k p1) p2)) p3) pos) (gUn oRevS g) :=
  (pe_revS he ht).weak fun σ H Q q => un_tE (K := X.K) (op := oRevS) (r := fun x H1 Q => ∃ s : List Nat, x = .str (mkS s) ∧ s.length ≤ 16777216 ∧ Q (.str (mkS s.reverse)) H1) (fun x H1 Hf d res Q le dx e k => by
    cases d with
    | str s =>
      have e : (if s.length ≤ 16777216 then some (Rv.val (.str s.reverse)) else none) = some res := e
      split at e
      case isFalse => cases e
      case isTrue hz =>
      cases e
      exact ⟨s, dx.str, hz, k _ _ ⟨rfl, .str _⟩⟩
    | _ => cases e) q

/-! ## dicts with text keys -/
def lk : List (List Nat × D) → List Nat → Option D
  | [], _ => none
  | (k, d) :: r, x => if k = x then some d else lk r x
theorem RpK.look {K : PySem.W.Frag} {H : Hp} {x : List Nat} {d : D} : ∀ {kvs : List (Key × V)} {ds : List (List Nat × D)}, RpK K H kvs ds → lk ds x = some d → ∃ v, valV kvs (.inr (mkS x)) = some v ∧ Rp K H v d
  | _, _, .nil, e => by cases e
  | _, _, .cons (k := k) (vs := vs) (ds := ds) r t, e => by
    have e : (if k = x then some _ else lk ds x) = some d := e
    split at e
    case isTrue h =>
      cases e
      subst h
      exact ⟨_, valV_pos rfl, r⟩
    case isFalse h =>
      obtain ⟨v, h1, h2⟩ := RpK.look t e
      refine ⟨v, ?_, h2⟩
      rw [valV_neg (fun z => h ?_)]
      · exact h1
      · have := mkS_eq k x
        have z : (Sum.inr (mkS k) : Key) = .inr (mkS x) := z
        injection z with z
        rw [z] at this
        simpa using this.symm
def oDGet : D → D → Option Rv
  | .dic kvs, .str k => (lk kvs k).map Rv.val
  | _, _ => none
theorem de_dget {ga gb : GE} (hu : X.A.units + 1 < cLine) (ha : DE X a ga) (hb : DE X b gb) (hs : NoSl b := by exact fun _ _ => rfl) : DE X (.Subscript a b pos) (gBin oDGet ga gb) :=
  (pe_dget hu ha hb hs).weak fun σ H Q q => bin_tE (K := X.K) (op := oDGet) (r := fun x y H2 Q => ∃ a v, x = .ref a ∧ DGet H2 a y (some v) ∧ Q v H2) (fun x y H Hf d1 d2 res Q le dx dy e k => by
    cases d1 with
    | dic kvs =>
      cases d2 with
      | str s =>
        obtain ⟨d, e1, rfl⟩ := Option.map_eq_some_iff.mp e
        obtain ⟨p, vs, rfl, h1, r⟩ := dx.dic le
        obtain ⟨v, h2, h3⟩ := r.look e1
        have : y = kV (.inr (mkS s)) := dy.str
        subst this
        refine ⟨p, v, rfl, by rw [← h2]; exact DGet.k h1, k _ _ ⟨rfl, h3⟩⟩
      | _ => cases e
    | _ => cases e) q
/-- {'a': .., 'b': ..} of two texts -/
theorem de_dic2 {k1 k2 v1 v2 : Str} {a1 a2 b1 b2 : List Nat} {j1 j2 j3 j4} {p1 p2 p3 p4 : Pos} (h1 : k1 = mkS a1 := by rfl) (h2 : v1 = mkS b1 := by rfl) (h3 : k2 = mkS a2 := by rfl) (h4 : v2 = mkS b2 := by rfl) (hne : a1 ≠ a2 := by decide) :
    DE X (.Dict [some (.Constant (.str k1) j1 p1), some (.Constant (.str k2) j2 p2)] [.Constant (.str v1) j3 p3, .Constant (.str v2) j4 p4] pos) (gC (.dic [(a1, .str b1), (a2, .str b2)])) := by
  subst h1 h2 h3 h4
  refine (pe_disp (pps_cons pe_str pe_str (pps_cons pe_str pe_str pps_nil)) rfl rfl (by simp) (by simp)).weak fun σ H Q q => ?_
  obtain ⟨G, p0, ρ, Hf, r, ρ', R, eg, k⟩ := q
  cases eg
  intro p hp
  refine ⟨upd_same, [(.inr (mkS a1), .str (mkS b1)), (.inr (mkS a2), .str (mkS b2))], rfl, by simp, ?_⟩
  have ne : ¬ (Sum.inr (mkS a1) : Key) = .inr (mkS a2) := fun z => by
    injection z with z
    have := mkS_eq a1 a2
    rw [z] at this
    exact hne (by simpa using this.symm)
  have em : mergeK [] [((.inr (mkS a1) : Key), V.str (mkS b1)), (.inr (mkS a2), .str (mkS b2))] = [(.inr (mkS a1), .str (mkS b1)), (.inr (mkS a2), .str (mkS b2))] := by
    simp only [mergeK, List.foldl_cons, List.foldl_nil, putK, List.any_nil, Bool.false_eq_true, if_false, List.nil_append, List.any_cons, Bool.or_false]
    rw [decide_eq_false ne]
    rfl
  rw [em]
  have eu : upd (upd H p (.dK [])) p (.dK [((.inr (mkS a1) : Key), V.str (mkS b1)), (.inr (mkS a2), .str (mkS b2))]) = upd H p (.dK [(.inr (mkS a1), .str (mkS b1)), (.inr (mkS a2), .str (mkS b2))]) := by
    funext b
    by_cases z : b = p
    · subst z; rw [upd_same, upd_same]
    · rw [upd_ne z, upd_ne z, upd_ne z]
  rw [eu]
  obtain ⟨f1, f2, f3⟩ := R.free_un hp
  exact k _ _ _ (le_upd f1) (R.allocF hp) (.dic upd_same (.cons (.str _) (.cons (.str _) .nil)))
end
end DL
end

section
set_option Elab.async false
set_option linter.all false
set_option maxRecDepth 100000
set_option maxHeartbeats 4000000
/-! # Defs by name -/
namespace DL
open PySem PySem.Spec PyProof.Rows L2 StX
section
variable {X : Cx} {e a b : Expr} {pos : Pos}
/-! ## one sign in a text -/
def oInC (neg : Bool) : D → D → Option Rv
  | .str [c], .str z => some (.val (.bl (if neg then !decide (c ∈ z) else decide (c ∈ z))))
  | _, _ => none
theorem op_inC : OpS X (compareOp .In) (oInC false) := by
  refine ⟨_, op_in_sign, fun x y H Hf d1 d2 res Q le dx dy e k => ?_⟩
  unfold oInC at e
  split at e
  · cases e
    exact ⟨_, _, dx.str, dy.str, k _ _ ⟨rfl, .bl _⟩⟩
  · cases e
theorem op_notInC : OpS X (compareOp .NotIn) (oInC true) := by
  refine ⟨_, op_notIn_sign, fun x y H Hf d1 d2 res Q le dx dy e k => ?_⟩
  unfold oInC at e
  split at e
  · cases e
    exact ⟨_, _, dx.str, dy.str, k _ _ ⟨rfl, .bl _⟩⟩
  · cases e

theorem _root_.L2.Room.u1 {k : Nat} {A : Around} (r : Room k A) : A.units + 1 < cLine := by have := r.un; omega
theorem _root_.L2.Room.u65 {k : Nat} {A : Around} (r : Room k A) : A.units + 65 < cLine := by have := r.un; omega

/-! ## a def by its name -/
structure FO (P : Program) (w : World) (K : PySem.W.Frag) (mg : Str → Option Value) (base : Heap) (k : Nat) (x : Str) (xs : List D) (sp : Sp) : Prop where
  ex : ∃ (f : Addr) (fd : FuncData) (ps : List Str) (vs : List V) (ds : List Value), mg x = some (.ref f) ∧ PySem.W.keepIn K (.ref f) = true ∧ Binds K fd ps ds ∧ Vals vs ds ∧ (∀ Hf, RpA K Hf vs xs) ∧ FnOk P w K mg base CX0 k f fd ps sp
theorem FO.mono {P : Program} {w : World} {K : PySem.W.Frag} {mg : Str → Option Value} {base : Heap} {j k : Nat} {x : Str} {xs : List D} {sp : Sp} (F : FO P w K mg base j x xs sp) (h : j ≤ k) : FO P w K mg base k x xs sp := by
  obtain ⟨f, fd, ps, vs, ds, h1, h2, h3, h4, h5, h6⟩ := F.ex
  exact ⟨f, fd, ps, vs, ds, h1, h2, h3, h4, h5, h6.mono h⟩
/-- f(e, ..) with the last parameters' defaults xs -/
def gCallX (φ : Phi) (xs : List D) (ga : GA) : GE := fun ρ => (ga ρ).bind fun p => (φ (p.1 ++ xs)).map fun q => (q.1.res, p.2)
theorem callX_tE {K : PySem.W.Frag} {n : Nat} {φ : Phi} {ga : GA} {E : XK} {xs : List D} {vs0 : List V} (h0 : ∀ Hf, RpA K Hf vs0 xs) (hn : ∀ ds q, φ ds = some q → ds.length = n) {σ : L2.St} {H : Hp} {Q : VK} (q : tE K (gCallX φ xs ga) σ H Q) : tCall (SpP K n φ) vs0 E (tAr K ga) σ H Q := by
  obtain ⟨G, p0, ρ, Hf, r', ρ', R, eg, k⟩ := q
  unfold gCallX at eg
  obtain ⟨⟨ds, ρ1⟩, e1, eg⟩ := Option.bind_eq_some_iff.mp eg
  obtain ⟨⟨r, cs⟩, e2, e3⟩ := Option.map_eq_some_iff.mp eg
  cases e3
  refine ⟨G, p0, ρ, Hf, ds, ρ1, R, e1, fun vs H1 Hf1 le1 R1 ra => ?_⟩
  show SpP K n φ (vs ++ vs0) H1 Q E
  have ra := ra.append (h0 Hf1)
  refine ⟨Hf1, ds ++ xs, r, cs, R1.fh, by rw [ra.length]; exact hn _ _ e2, ra, e2, fun v H' Hf' l1 l2 l3 fr hr => ?_⟩
  have R2 : Rel K G p0 σ H' Hf' ρ1 := by
    refine ⟨l2, fun b u z => l3 b u (R1.gh b u z), fun b u z => ?_, fun j d z => ?_, fun j es z => ?_, R1.ap, R1.io, R1.len⟩
    · cases q : Hf' b with
      | none => rfl
      | some o =>
        have := fr b o q (R1.gf b u z)
        rw [R1.gh b u z] at this; cases this
    · obtain ⟨w, g1, g2⟩ := R1.fz j d z
      exact ⟨w, g1, g2.le l1⟩
    · obtain ⟨w, us, g1, g2, g3, g4, g5⟩ := R1.ow j es z
      refine ⟨w, us, g1, l3 _ _ g2, ?_, g4, g5.le l1⟩
      cases q : Hf' w with
      | none => rfl
      | some o =>
        have := fr w o q g3
        rw [g2] at this; cases this
  refine k v H' Hf' (le1.trans l1) R2 ?_
  cases r with
  | val d => exact hr
  | new es =>
    obtain ⟨p, us, h1, h2, h3, h4, h5⟩ := hr
    obtain ⟨f1, f2, f3⟩ := R1.free_un h3
    exact ⟨p, us, h1, h2, h4, f2, h5, f3⟩
variable {es : List Expr} {p : Pos} {k j n : Nat} {x : Str}
theorem ce {xs : List D} {m n' : Nat} {g : GS} {ga : GA} (F : FO X.prog X.w X.K X.mg X.base j x xs (SpP X.K m (phiP m n' g))) (hr : Room k X.A) (hjk : j ≤ k) (ha : DA X (e :: es) ga)
    (hg : Gl X x := by rfl) (hdb : (x == ("__debug__" : Str)) = false := by decide) (he : starEach (e :: es) X.env = (false, eval e X.env) :: starEach es X.env := by rfl) (hpl : (backTo pos (starEach es X.env)).any (·.1) = false := by rfl) :
    DE X (.Call (.Name x p) (e :: es) [] pos) (gCallX (phiP m n' g) xs ga) := by
  obtain ⟨f, fd, ps, vs, ds, h1, h2, h3, h4, h5, h6⟩ := F.ex
  exact (pe_call (h6.mono hjk) hr hg h1 h2 h3 h4 (pass0 (X := X)) ha hdb he hpl).weak fun σ H Q q => callX_tE h5 phiP_len q
theorem ceI {m n' : Nat} {g' : GS} {g : GE} {gs : GA} (F : FO X.prog X.w X.K X.mg X.base j x [] (SpI X.K m (phiI m n' g'))) (hr : Room k X.A) (hjk : j ≤ k) (h : DE X e g) (hs : DA X es gs)
    (hg : Gl X x := by rfl) (hdb : (x == ("__debug__" : Str)) = false := by decide) (he : starEach (e :: es) X.env = (false, eval e X.env) :: starEach es X.env := by rfl) (hpl : (backTo pos (starEach es X.env)).any (·.1) = false := by rfl) :
    DE X (.Call (.Name x p) (e :: es) [] pos) (gCallI (phiI m n' g') g gs) := by
  obtain ⟨f, fd, ps, vs, ds, h1, h2, h3, h4, h5, h6⟩ := F.ex
  have ev : vs = [] := (h5 fun _ => none).nil_inv
  subst ev
  exact (pe_call (h6.mono hjk) hr hg h1 h2 h3 h4 (pass0 (X := X)) (pa_cons h hs he) hdb he hpl).weak fun σ H Q q => callI_tE phiI_len q
/-- a def's object, by its text -/
def Fd (K : PySem.W.Frag) (mg : Str → Option Value) (x : Str) (st : Stmt) (dvs : List V) : Prop := ∃ f fd, mg x = some (.ref f) ∧ FunD K x x (defArgs st) (defBody st) (defScope st) dvs [] f fd
end
section
variable {P : Program} {w : World} {K : PySem.W.Frag} {mg : Str → Option Value} {base : Heap}
theorem fo_P {x : Str} {st : Stmt} {N ps : List Str} {k m n : Nat} {g : GS} (T : Fd K mg x st []) (S : FnScope N ps (defScope st)) (hm : ps.length = m) (hn : N.length = n)
    (hbi : ∀ (kV doc pm : Value) (an : Option Addr) (cdv ct : Value) (us : List Value), us.length = ps.length → bindArgs (PySem.W.fnOf x x (defArgs st) (defBody st) (defScope st) .none kV doc pm an cdv ct) ⟨us, []⟩ = pure (ps.zip us))
    (hb : ∀ (f : Addr) (cdv : Value) (A : Around) (outer : List Env) (s : Shared) (H : Hp) (E : XK), Room k (A.deeper (PyProof.Rows.envOfC x (defScope st) s.heap.objs.size f cdv)) → DSs (cxOf CX0 P w K mg base N x (defScope st) f cdv A outer s H E).nox (defBody st) g) :
    FO P w K mg base (k + 1) x [] (SpP K m (phiP m n g)) := by
  subst hm hn
  obtain ⟨f, fd, h1, F⟩ := T
  exact ⟨f, fd, ps, [], [], h1, F.kp, F.bindsN hbi, .nil, fun _ => .nil, fn_P F S (hb f)⟩
theorem fo_I {x : Str} {st : Stmt} {N ps : List Str} {k m n : Nat} {g : GS} (T : Fd K mg x st []) (S : FnScope N ps (defScope st)) (hm : ps.length = m) (hn : N.length = n)
    (hbi : ∀ (kV doc pm : Value) (an : Option Addr) (cdv ct : Value) (us : List Value), us.length = ps.length → bindArgs (PySem.W.fnOf x x (defArgs st) (defBody st) (defScope st) .none kV doc pm an cdv ct) ⟨us, []⟩ = pure (ps.zip us))
    (hb : ∀ (f : Addr) (cdv : Value) (A : Around) (outer : List Env) (s : Shared) (H : Hp) (E : XK), Room k (A.deeper (PyProof.Rows.envOfC x (defScope st) s.heap.objs.size f cdv)) → DSs (cxOf CX0 P w K mg base N x (defScope st) f cdv A outer s H E).nox (defBody st) g) :
    FO P w K mg base (k + 1) x [] (SpI K m (phiI m n g)) := by
  subst hm hn
  obtain ⟨f, fd, h1, F⟩ := T
  exact ⟨f, fd, ps, [], [], h1, F.kp, F.bindsN hbi, .nil, fun _ => .nil, fn_I F S (hb f)⟩
/-- one default -/
theorem fo_P1 {x : Str} {st : Stmt} {N ps : List Str} {k m n c : Nat} {g : GS} {z : List Nat} (T : Fd K mg x st [.str (mkS z)]) (S : FnScope N ps (defScope st)) (hm : ps.length = m) (hn : N.length = n) (hc : c + 1 = ps.length)
    (hbi : ∀ (T : Addr) (kV doc pm : Value) (an : Option Addr) (cdv ct : Value) (us its : List Value), us.length = c → its.length = 1 →
      ∃ k, bindArgs (PySem.W.fnOf x x (defArgs st) (defBody st) (defScope st) (.ref T) kV doc pm an cdv ct) ⟨us, []⟩ = seqItems? (.ref T) >>= k ∧ k (some its.toArray) = pure (ps.zip (us ++ its.drop 0)))
    (hb : ∀ (f : Addr) (cdv : Value) (A : Around) (outer : List Env) (s : Shared) (H : Hp) (E : XK), Room k (A.deeper (PyProof.Rows.envOfC x (defScope st) s.heap.objs.size f cdv)) → DSs (cxOf CX0 P w K mg base N x (defScope st) f cdv A outer s H E).nox (defBody st) g) :
    FO P w K mg base (k + 1) x [.str z] (SpP K m (phiP m n g)) := by
  subst hm hn
  obtain ⟨f, fd, h1, F⟩ := T
  obtain ⟨ds, rv, hbd⟩ := F.binds1 c 0 (by simp) (by simpa using hc) hbi
  exact ⟨f, fd, ps, [.str (mkS z)], ds, h1, F.kp, hbd, rv, fun _ => .cons (.str z) .nil, fn_P F S (hb f)⟩
end
end DL
end

section
set_option Elab.async false
set_option linter.all false
set_option maxRecDepth 100000
set_option maxHeartbeats 4000000

namespace W
open DL PySem PySem.Spec L2
def big : Nat := 10 ^ 1000
def k_A : D := (.str [97])
def k_B : D := (.str [98])
def k_MOST_TIMES : D := (.int 1000000000000)
def k_MOST_RUNS : D := (.int 20000)
def k_NORTH : D := (.str [110, 111, 114, 116, 104])
def k_EAST : D := (.str [101, 97, 115, 116])
def k_NORTH_SLANT : D := (.tup [(.int 0), (.int 1)])
def k_EAST_SLANT : D := (.tup [(.int 1), (.int 0)])
def k_MOST_TOLD : D := (.int 300)
def k_MOST_NUMBER : D := (.int 1000000000000000000000000000000000000000000000000000000000000)
def k_SLANT : D := (.str [115, 108, 97, 110, 116])
def k_MOST_LETTERS : D := (.int 80)
def k_ROOT : D := (.str [114, 111, 111, 116])
/-! is_integer(value): slots 0 value -/
def g_is_integer : GS := (sRet (gAndV (gUn (oIsi "int") (gVar 0)) (gNotV (gUn (oIsi "bool") (gVar 0)))))
def φ_is_integer : Phi := phiP 1 1 g_is_integer
/-! is_within(value, least, most): slots 0 value 1 least 2 most -/
def g_is_within : GS := (sSeq (sIf (gNot (gTb (gCallX φ_is_integer [] (aCons (gVar 0) aNil))))
  (sRet (gC (.bl false)))
  sNx)
  (sRet (gAndV (gOrV (gBin (oIs false) (gVar 1) (gC .non)) (gBin (oCmpI fun i j => decide (i ≤ j)) (gVar 1) (gVar 0))) (gOrV (gBin (oIs false) (gVar 2) (gC .non)) (gBin (oCmpI fun i j => decide (i ≤ j)) (gVar 0) (gVar 2))))))
def φ_is_within : Phi := phiP 3 3 g_is_within
/-! is_list(value): slots 0 value -/
def g_is_list : GS := (sRet (gUn (oIsi2 "list" "tuple") (gVar 0)))
def φ_is_list : Phi := phiP 1 1 g_is_list
/-! is_point(value): slots 0 value 1 each -/
def X_is_point_0 : GE := (gCallX φ_is_integer [] (aCons (gVar 1) aNil))
def g_is_point : GS := (sRet (gAndV (gCallX φ_is_list [] (aCons (gVar 0) aNil)) (gAndV (gBin (oEq false) (gUn oLen (gVar 0)) (gC (.int 2))) (gUn oAll (gComp (iAny (gVar 0)) (.nm 1) gYes X_is_point_0 [1])))))
def φ_is_point : Phi := phiP 1 2 g_is_point
/-! common(one, other): slots 0 one 1 other -/
def C_common_0 : GT := (gTb (gBin (oEq true) (gVar 1) (gC (.int 0))))
def L_common_0 : GS := (sPar 0 1 (gVar 1) (gBin (oI fMod) (gVar 0) (gVar 1)))
def g_common : GS := (sSeq (sPar 0 1 (gUn oAbs (gVar 0)) (gUn oAbs (gVar 1)))
  (sSeq (whileG C_common_0
  L_common_0 big)
  (sRet (gVar 0))))
def φ_common : Phi := phiP 2 2 g_common
/-! ways_in(word): slots 0 word 1 ways 2 letter 3 times 4 p 5 q -/
def X_ways_in_0 : GE := (gIfE (gTb (gBin (oEq false) (gVar 2) (gC k_A))) (gTup (aCons (gBin oAdd (gVar 4) (gBin oMul (gVar 3) (gVar 5))) (aCons (gVar 5) aNil))) (gTup (aCons (gVar 4) (aCons (gBin oAdd (gVar 5) (gBin oMul (gVar 3) (gVar 4))) aNil))))
def L_ways_in_0 : GS := (sSet 1 (gComp (iAny (gVar 1)) (.tp [(.nm 4), (.nm 5)]) gYes X_ways_in_0 [4, 5]))
def g_ways_in : GS := (sSeq (sSet 1 (gLst (aCons (gTup (aCons (gC (.int 1)) (aCons (gC (.int 0)) aNil))) (aCons (gTup (aCons (gC (.int 0)) (aCons (gC (.int 1)) aNil))) aNil))))
  (sSeq (sFor (iRev (gVar 0)) (.tp [(.nm 2), (.nm 3)])
  L_ways_in_0)
  (sRet (gUn oTuple (gVar 1)))))
def φ_ways_in : Phi := phiP 1 6 g_ways_in
/-! is_slant(value): slots 0 value -/
def g_is_slant : GS := (sRet (gAndV (gCallX φ_is_point [] (aCons (gVar 0) aNil)) (gAndV (gBin (oCmpI fun i j => decide (j ≤ i)) (gBin oIx (gVar 0) (gC (.int 0))) (gC (.int 0))) (gAndV (gBin (oCmpI fun i j => decide (j ≤ i)) (gBin oIx (gVar 0) (gC (.int 1))) (gC (.int 0))) (gBin (oEq false) (gCallX φ_common [] (aCons (gBin oIx (gVar 0) (gC (.int 0))) (aCons (gBin oIx (gVar 0) (gC (.int 1))) aNil))) (gC (.int 1)))))))
def φ_is_slant : Phi := phiP 1 1 g_is_slant
/-! path_in(slant): slots 0 slant 1 p 2 q 3 found 4 times -/
def C_path_in_0 : GT := (gTb (gBin (oEq true) (gVar 1) (gVar 2)))
def L_path_in_0 : GS := (sIf (gTb (gBin (oCmpI fun i j => decide (j < i)) (gVar 1) (gVar 2)))
  (sSeq (sSet 4 (gBin (oI fFdiv) (gBin (oI fun i j => some (i - j)) (gVar 1) (gC (.int 1))) (gVar 2)))
  (sSeq (sDrop (gM mApp (gVar 3) (aCons (gTup (aCons (gC k_A) (aCons (gVar 4) aNil))) aNil)))
  (sSet 1 (gBin (oI fun i j => some (i - j)) (gVar 1) (gBin oMul (gVar 4) (gVar 2))))))
  (sSeq (sSet 4 (gBin (oI fFdiv) (gBin (oI fun i j => some (i - j)) (gVar 2) (gC (.int 1))) (gVar 1)))
  (sSeq (sDrop (gM mApp (gVar 3) (aCons (gTup (aCons (gC k_B) (aCons (gVar 4) aNil))) aNil)))
  (sSet 2 (gBin (oI fun i j => some (i - j)) (gVar 2) (gBin oMul (gVar 4) (gVar 1)))))))
def g_path_in : GS := (sSeq (sAsg (.tp [(.nm 1), (.nm 2)]) (gVar 0))
  (sSeq (sSet 3 (gLst aNil))
  (sSeq (whileG C_path_in_0
  L_path_in_0 big)
  (sRet (gUn oTuple (gVar 3))))))
def φ_path_in : Phi := phiP 1 5 g_path_in
/-! added(one, other): slots 0 one 1 other -/
def g_added : GS := (sRet (gTup (aCons (gBin oAdd (gBin oIx (gVar 0) (gC (.int 0))) (gBin oIx (gVar 1) (gC (.int 0)))) (aCons (gBin oAdd (gBin oIx (gVar 0) (gC (.int 1))) (gBin oIx (gVar 1) (gC (.int 1)))) aNil))))
def φ_added : Phi := phiP 2 2 g_added
/-! slant_in(word): slots 0 word 1 flatter 2 steeper -/
def g_slant_in : GS := (sSeq (sAsg (.tp [(.nm 1), (.nm 2)]) (gCallX φ_ways_in [] (aCons (gVar 0) aNil)))
  (sRet (gCallX φ_added [] (aCons (gVar 1) (aCons (gVar 2) aNil)))))
def φ_slant_in : Phi := phiP 1 3 g_slant_in
/-! letters_in(word): slots 0 word 1 _ 2 times -/
def X_letters_in_0 : GE := (gVar 2)
def g_letters_in : GS := (sRet (gUn oSum (gComp (iAny (gVar 0)) (.tp [(.nm 1), (.nm 2)]) gYes X_letters_in_0 [1, 2])))
def φ_letters_in : Phi := phiP 1 3 g_letters_in
/-! is_run(value): slots 0 value -/
def g_is_run : GS := (sSeq (sIf (gOr (gNot (gTb (gCallX φ_is_list [] (aCons (gVar 0) aNil)))) (gOr (gTb (gBin (oEq true) (gUn oLen (gVar 0)) (gC (.int 2)))) (gNot (gTb (gUn (oIsi "str") (gBin oIx (gVar 0) (gC (.int 0))))))))
  (sRet (gC (.bl false)))
  sNx)
  (sRet (gAndV (gBin (oIn false) (gBin oIx (gVar 0) (gC (.int 0))) (gTup (aCons (gC k_A) (aCons (gC k_B) aNil)))) (gCallX φ_is_within [] (aCons (gBin oIx (gVar 0) (gC (.int 1))) (aCons (gC (.int 1)) (aCons (gC k_MOST_TIMES) aNil)))))))
def φ_is_run : Phi := phiP 1 1 g_is_run
/-! is_path(value): slots 0 value 1 one 2 other 3 run -/
def X_is_path_0 : GE := (gCallX φ_is_run [] (aCons (gVar 3) aNil))
def X_is_path_1 : GE := (gBin (oEq true) (gBin oIx (gVar 1) (gC (.int 0))) (gBin oIx (gVar 2) (gC (.int 0))))
def g_is_path : GS := (sSeq (sIf (gOr (gNot (gTb (gCallX φ_is_list [] (aCons (gVar 0) aNil)))) (gOr (gTb (gBin (oCmpI fun i j => decide (j < i)) (gUn oLen (gVar 0)) (gC k_MOST_RUNS))) (gNot (gTb (gUn oAll (gComp (iAny (gVar 0)) (.nm 3) gYes X_is_path_0 [3]))))))
  (sRet (gC (.bl false)))
  sNx)
  (sRet (gUn oAll (gComp (iZip (gVar 0) (gSl (gVar 0) (gP (gC (.int 1))) gNoP)) (.tp [(.nm 1), (.nm 2)]) gYes X_is_path_1 [1, 2]))))
def φ_is_path : Phi := phiP 1 4 g_is_path
/-! is_name(value): slots 0 value -/
def g_is_name : GS := (sSeq (sIf (gTb (gUn (oIsi "str") (gVar 0)))
  (sRet (gBin (oIn false) (gVar 0) (gTup (aCons (gC k_EAST) (aCons (gC k_NORTH) aNil)))))
  sNx)
  (sRet (gCallX φ_is_path [] (aCons (gVar 0) aNil))))
def φ_is_name : Phi := phiP 1 1 g_is_name
/-! path_at(value): slots 0 value 1 run -/
def X_path_at_0 : GE := (gUn oTuple (gVar 1))
def g_path_at : GS := (sRet (gUn oTuple (gComp (iAny (gVar 0)) (.nm 1) gYes X_path_at_0 [1])))
def φ_path_at : Phi := phiP 1 2 g_path_at
/-! name_at(value): slots 0 value -/
def g_name_at : GS := (sRet (gIfE (gTb (gUn (oIsi "str") (gVar 0))) (gVar 0) (gCallX φ_path_at [] (aCons (gVar 0) aNil))))
def φ_name_at : Phi := phiP 1 1 g_name_at
/-! runs_of(runs): slots 0 runs 1 found 2 letter 3 times -/
def L_runs_of_0 : GS := (sIf (gAnd (gTb (gBin (oCmpI fun i j => decide (j < i)) (gVar 3) (gC (.int 0)))) (gAnd (gTb (gBin (oEq true) (gVar 1) (gLst aNil))) (gTb (gBin (oEq false) (gBin oIx (gBin oIx (gVar 1) (gUn oNeg (gC (.int 1)))) (gC (.int 0))) (gVar 2)))))
  (sItem (gVar 1) (gUn oNeg (gC (.int 1))) (gTup (aCons (gVar 2) (aCons (gBin oAdd (gBin oIx (gBin oIx (gVar 1) (gUn oNeg (gC (.int 1)))) (gC (.int 1))) (gVar 3)) aNil))))
  (sIf (gTb (gBin (oCmpI fun i j => decide (j < i)) (gVar 3) (gC (.int 0))))
  (sDrop (gM mApp (gVar 1) (aCons (gTup (aCons (gVar 2) (aCons (gVar 3) aNil))) aNil)))
  sNx))
def g_runs_of : GS := (sSeq (sSet 1 (gLst aNil))
  (sSeq (sFor (iAny (gVar 0)) (.tp [(.nm 2), (.nm 3)])
  L_runs_of_0)
  (sRet (gUn oTuple (gVar 1)))))
def φ_runs_of : Phi := phiP 1 4 g_runs_of
/-! least_block(runs): slots 0 runs 1 many -/
def L_least_block_0 : GS := (sIf (gAnd (gTb (gBin (oEq false) (gBin (oI fMod) (gUn oLen (gVar 0)) (gVar 1)) (gC (.int 0)))) (gTb (gBin (oEq false) (gVar 0) (gBin oMul (gSl (gVar 0) gNoP (gP (gVar 1))) (gBin (oI fFdiv) (gUn oLen (gVar 0)) (gVar 1))))))
  (sRet (gSl (gVar 0) gNoP (gP (gVar 1))))
  sNx)
def g_least_block : GS := (sSeq (sFor (iRange2 (gC (.int 1)) (gBin oAdd (gUn oLen (gVar 0)) (gC (.int 1)))) (.nm 1)
  L_least_block_0)
  (sRet (gVar 0)))
def φ_least_block : Phi := phiP 1 2 g_least_block
/-! drawn_in(head, period): slots 0 head 1 period 2 left 3 block 4 letter 5 times 6 last 7 drawn -/
def C_drawn_in_0 : GT := (gAnd (gTb (gBin (oEq true) (gVar 2) (gLst aNil))) (gTb (gBin (oEq false) (gBin oIx (gBin oIx (gVar 2) (gUn oNeg (gC (.int 1)))) (gC (.int 0))) (gBin oIx (gBin oIx (gVar 3) (gUn oNeg (gC (.int 1)))) (gC (.int 0))))))
def L_drawn_in_0 : GS := (sSeq (sAsg (.tp [(.nm 4), (.nm 5)]) (gM mPop (gVar 2) aNil))
  (sSeq (sSet 6 (gBin oIx (gM mPop (gVar 3) aNil) (gC (.int 1))))
  (sSeq (sSet 7 (gBin oMin2 (gVar 5) (gVar 6)))
  (sSeq (sSet 3 (gLst (aStar (gCallX φ_runs_of [] (aCons (gLst (aCons (gTup (aCons (gVar 4) (aCons (gVar 7) aNil))) (aStar (gVar 3) (aCons (gTup (aCons (gVar 4) (aCons (gBin (oI fun i j => some (i - j)) (gVar 6) (gVar 7)) aNil))) aNil)))) aNil)) aNil)))
  (sIf (gTb (gBin (oEq true) (gVar 5) (gVar 6)))
  (sSeq (sSet 2 (gIfE (gTb (gBin (oCmpI fun i j => decide (j < i)) (gVar 5) (gVar 7))) (gLst (aStar (gVar 2) (aCons (gTup (aCons (gVar 4) (aCons (gBin (oI fun i j => some (i - j)) (gVar 5) (gVar 7)) aNil))) aNil))) (gVar 2)))
  sBk)
  sNx)))))
def g_drawn_in : GS := (sSeq (sPar 2 3 (gLst (aStar (gVar 0) aNil)) (gLst (aStar (gVar 1) aNil)))
  (sSeq (whileG C_drawn_in_0
  L_drawn_in_0 big)
  (sRet (gTup (aCons (gUn oTuple (gVar 2)) (aCons (gUn oTuple (gVar 3)) aNil))))))
def φ_drawn_in : Phi := phiP 2 8 g_drawn_in
/-! shortened_in(head, period): slots 0 head 1 period 2 letter 3 first 4 last 5 middle 6 both -/
def g_shortened_in : GS := (sSeq (sIf (gTb (gBin (oEq false) (gUn oLen (gVar 1)) (gC (.int 1))))
  (sSeq (sSet 2 (gBin oIx (gBin oIx (gVar 1) (gC (.int 0))) (gC (.int 0))))
  (sRet (gTup (aCons (gIfE (gAnd (gTb (gBin (oEq true) (gVar 0) (gTup aNil))) (gTb (gBin (oEq false) (gBin oIx (gBin oIx (gVar 0) (gUn oNeg (gC (.int 1)))) (gC (.int 0))) (gVar 2)))) (gSl (gVar 0) gNoP (gP (gUn oNeg (gC (.int 1))))) (gVar 0)) (aCons (gTup (aCons (gTup (aCons (gVar 2) (aCons (gC (.int 1)) aNil))) aNil)) aNil)))))
  sNx)
  (sSeq (sPar 3 4 (gBin oIx (gVar 1) (gC (.int 0))) (gBin oIx (gVar 1) (gUn oNeg (gC (.int 1)))))
  (sSeq (sIf (gTb (gBin (oEq false) (gBin oIx (gVar 3) (gC (.int 0))) (gBin oIx (gVar 4) (gC (.int 0)))))
  (sSeq (sPar 5 6 (gSl (gVar 1) (gP (gC (.int 1))) (gP (gUn oNeg (gC (.int 1))))) (gTup (aCons (gBin oIx (gVar 4) (gC (.int 0))) (aCons (gBin oAdd (gBin oIx (gVar 4) (gC (.int 1))) (gBin oIx (gVar 3) (gC (.int 1)))) aNil))))
  (sPar 0 1 (gCallX φ_runs_of [] (aCons (gLst (aStar (gVar 0) (aCons (gVar 3) aNil))) aNil)) (gTup (aStar (gVar 5) (aCons (gVar 6) aNil)))))
  sNx)
  (sRet (gCallX φ_drawn_in [] (aCons (gVar 0) (aCons (gCallX φ_least_block [] (aCons (gVar 1) aNil)) aNil)))))))
def φ_shortened_in : Phi := phiP 2 7 g_shortened_in
/-! is_north(head, period): slots 0 head 1 period -/
def g_is_north : GS := (sRet (gAndV (gBin (oEq false) (gVar 0) (gTup aNil)) (gBin (oEq false) (gVar 1) (gTup (aCons (gTup (aCons (gC k_B) (aCons (gC (.int 1)) aNil))) aNil)))))
def φ_is_north : Phi := phiP 2 2 g_is_north
/-! rest_behind(head, period, path): slots 0 head 1 period 2 path 3 runs 4 at 5 left 6 letter 7 times 8 todo 9 mine 10 many 11 rest -/
def C_rest_behind_0 : GT := (gTb (gBin (oCmpI fun i j => decide (j < i)) (gVar 8) (gC (.int 0))))
def L_rest_behind_0 : GS := (sSeq (sIf (gTb (gBin (oEq false) (gVar 4) (gUn oLen (gVar 3))))
  (sDrop (gM mExt (gVar 3) (aCons (gVar 1) aNil)))
  sNx)
  (sSeq (sAsg (.tp [(.nm 9), (.nm 10)]) (gBin oIx (gVar 3) (gVar 4)))
  (sSeq (sIf (gTb (gBin (oEq true) (gVar 9) (gVar 6)))
  (sRet (gVar 6))
  sNx)
  (sIf (gAnd (gTb (gBin (oEq false) (gUn oLen (gVar 1)) (gC (.int 1)))) (gTb (gBin (oCmpI fun i j => decide (j ≤ i)) (gVar 4) (gUn oLen (gVar 0)))))
  (sSet 8 (gC (.int 0)))
  (sIf (gTb (gBin (oCmpI fun i j => decide (i ≤ j)) (gBin (oI fun i j => some (i - j)) (gVar 10) (gVar 5)) (gVar 8)))
  (sPar3 8 4 5 (gBin (oI fun i j => some (i - j)) (gVar 8) (gBin (oI fun i j => some (i - j)) (gVar 10) (gVar 5))) (gBin oAdd (gVar 4) (gC (.int 1))) (gC (.int 0)))
  (sPar 5 8 (gBin oAdd (gVar 5) (gVar 8)) (gC (.int 0))))))))
def L_rest_behind_1 : GS := (sSeq (sSet 8 (gVar 7))
  (whileG C_rest_behind_0
  L_rest_behind_0 big))
def g_rest_behind : GS := (sSeq (sPar3 3 4 5 (gLst (aStar (gVar 0) aNil)) (gC (.int 0)) (gC (.int 0)))
  (sSeq (sFor (iAny (gVar 2)) (.tp [(.nm 6), (.nm 7)])
  L_rest_behind_1)
  (sSeq (sSet 11 (gLst (aStar (gSl (gVar 3) (gP (gVar 4)) gNoP) aNil)))
  (sSeq (sIf (gTb (gBin (oCmpI fun i j => decide (j < i)) (gVar 5) (gC (.int 0))))
  (sSet 11 (gLst (aCons (gTup (aCons (gBin oIx (gBin oIx (gVar 11) (gC (.int 0))) (gC (.int 0))) (aCons (gBin (oI fun i j => some (i - j)) (gBin oIx (gBin oIx (gVar 11) (gC (.int 0))) (gC (.int 1))) (gVar 5)) aNil))) (aStar (gSl (gVar 11) (gP (gC (.int 1))) gNoP) aNil))))
  sNx)
  (sRet (gIfE (gTb (gBin (oEq false) (gUn oLen (gVar 1)) (gC (.int 1)))) (gCallX φ_shortened_in [] (aCons (gCallX φ_runs_of [] (aCons (gVar 11) aNil)) (aCons (gVar 1) aNil))) (gTup (aCons (gCallX φ_runs_of [] (aCons (gVar 11) aNil)) (aCons (gVar 1) aNil)))))))))
def φ_rest_behind : Phi := phiP 3 12 g_rest_behind
/-! is_beyond_in(name, head, period): slots 0 name 1 head 2 period 3 rest 4 ahead 5 again 6 first -/
def g_is_beyond_in : GS := (sSeq (sIf (gTb (gBin (oIn false) (gVar 0) (gTup (aCons (gC k_EAST) (aCons (gC k_NORTH) aNil)))))
  (sRet (gAndV (gBin (oEq false) (gVar 0) (gC k_NORTH)) (gNotV (gCallX φ_is_north [] (aCons (gVar 1) (aCons (gVar 2) aNil))))))
  sNx)
  (sSeq (sSet 3 (gCallX φ_rest_behind [] (aCons (gVar 1) (aCons (gVar 2) (aCons (gVar 0) aNil)))))
  (sSeq (sIf (gTb (gUn (oIsi "str") (gVar 3)))
  (sRet (gBin (oEq false) (gVar 3) (gC k_B)))
  sNx)
  (sSeq (sAsg (.tp [(.nm 4), (.nm 5)]) (gVar 3))
  (sSeq (sSet 6 (gBin oIx (gBin oIx (gTup (aStar (gVar 4) (aStar (gVar 5) aNil))) (gC (.int 0))) (gC (.int 0))))
  (sRet (gAndV (gBin (oEq false) (gVar 6) (gC k_A)) (gBin (oEq true) (gVar 3) (gTup (aCons (gTup (aCons (gTup (aCons (gC k_A) (aCons (gC (.int 1)) aNil))) aNil)) (aCons (gTup (aCons (gTup (aCons (gC k_B) (aCons (gC (.int 1)) aNil))) aNil)) aNil)))))))))))
def φ_is_beyond_in : Phi := phiP 3 7 g_is_beyond_in
/-! machine_of(path): slots 0 path 1 a 2 b 3 c 4 d 5 letter 6 times -/
def L_machine_of_0 : GS := (sIf (gTb (gBin (oEq false) (gVar 5) (gC k_B)))
  (sPar 2 4 (gBin oAdd (gVar 2) (gBin oMul (gVar 6) (gVar 1))) (gBin oAdd (gVar 4) (gBin oMul (gVar 6) (gVar 3))))
  (sPar 1 3 (gBin oAdd (gVar 1) (gBin oMul (gVar 6) (gVar 2))) (gBin oAdd (gVar 3) (gBin oMul (gVar 6) (gVar 4)))))
def g_machine_of : GS := (sSeq (sAsg (.tp [(.nm 1), (.nm 2), (.nm 3), (.nm 4)]) (gTup (aCons (gC (.int 1)) (aCons (gC (.int 0)) (aCons (gC (.int 0)) (aCons (gC (.int 1)) aNil))))))
  (sSeq (sFor (iAny (gVar 0)) (.tp [(.nm 5), (.nm 6)])
  L_machine_of_0)
  (sRet (gTup (aCons (gVar 1) (aCons (gVar 2) (aCons (gVar 3) (aCons (gVar 4) aNil))))))))
def φ_machine_of : Phi := phiP 1 7 g_machine_of
/-! equation_of(head, period): slots 0 head 1 period 2 a 3 b 4 c 5 d 6 first 7 second 8 third 9 fourth 10 middle 11 found 12 by 13 number -/
def X_equation_of_0 : GE := (gBin (oI fFdiv) (gVar 13) (gVar 12))
def g_equation_of : GS := (sSeq (sAsg (.tp [(.nm 2), (.nm 3), (.nm 4), (.nm 5)]) (gCallX φ_machine_of [] (aCons (gVar 0) aNil)))
  (sSeq (sAsg (.tp [(.nm 6), (.nm 7), (.nm 8), (.nm 9)]) (gCallX φ_machine_of [] (aCons (gVar 1) aNil)))
  (sSeq (sSet 10 (gBin (oI fun i j => some (i - j)) (gVar 9) (gVar 6)))
  (sSeq (sSet 11 (gTup (aCons (gBin (oI fun i j => some (i - j)) (gBin (oI fun i j => some (i - j)) (gBin oMul (gBin oMul (gVar 8) (gVar 5)) (gVar 5)) (gBin oMul (gBin oMul (gVar 10) (gVar 4)) (gVar 5))) (gBin oMul (gBin oMul (gVar 7) (gVar 4)) (gVar 4))) (aCons (gBin oAdd (gBin (oI fun i j => some (i - j)) (gBin oMul (gVar 10) (gBin oAdd (gBin oMul (gVar 2) (gVar 5)) (gBin oMul (gVar 3) (gVar 4)))) (gBin oMul (gBin oMul (gBin oMul (gC (.int 2)) (gVar 8)) (gVar 3)) (gVar 5))) (gBin oMul (gBin oMul (gBin oMul (gC (.int 2)) (gVar 7)) (gVar 2)) (gVar 4))) (aCons (gBin (oI fun i j => some (i - j)) (gBin (oI fun i j => some (i - j)) (gBin oMul (gBin oMul (gVar 8) (gVar 3)) (gVar 3)) (gBin oMul (gBin oMul (gVar 10) (gVar 2)) (gVar 3))) (gBin oMul (gBin oMul (gVar 7) (gVar 2)) (gVar 2))) aNil)))))
  (sSeq (sSet 12 (gCallX φ_common [] (aCons (gCallX φ_common [] (aCons (gBin oIx (gVar 11) (gC (.int 0))) (aCons (gBin oIx (gVar 11) (gC (.int 1))) aNil))) (aCons (gBin oIx (gVar 11) (gC (.int 2))) aNil))))
  (sSeq (sSet 12 (gIfE (gTb (gBin (oCmpI fun i j => decide (j < i)) (gBin oIx (gVar 11) (gC (.int 0))) (gC (.int 0)))) (gVar 12) (gBin (oI fun i j => some (i - j)) (gC (.int 0)) (gVar 12))))
  (sRet (gUn oTuple (gComp (iAny (gVar 11)) (.nm 13) gYes X_equation_of_0 [13])))))))))
def φ_equation_of : Phi := phiP 2 14 g_equation_of
/-! side_name(head, letter): slots 0 head 1 letter -/
def g_side_name : GS := (sSeq (sIf (gTb (gBin (oEq false) (gVar 0) (gTup aNil)))
  (sRet (gIfE (gTb (gBin (oEq false) (gVar 1) (gC k_B))) (gC k_NORTH) (gC k_EAST)))
  sNx)
  (sRet (gCallX φ_runs_of [] (aCons (gLst (aStar (gSl (gVar 0) gNoP (gP (gUn oNeg (gC (.int 1))))) (aCons (gTup (aCons (gBin oIx (gBin oIx (gVar 0) (gUn oNeg (gC (.int 1)))) (gC (.int 0))) (aCons (gBin (oI fun i j => some (i - j)) (gBin oIx (gBin oIx (gVar 0) (gUn oNeg (gC (.int 1)))) (gC (.int 1))) (gC (.int 1))) aNil))) aNil))) aNil))))
def φ_side_name : Phi := phiP 2 2 g_side_name
/-! name_in(slant): slots 0 slant -/
def g_name_in : GS := (sSeq (sIf (gTb (gBin (oIn false) (gVar 0) (gTup (aCons (gC k_EAST_SLANT) (aCons (gC k_NORTH_SLANT) aNil)))))
  (sRet (gIfE (gTb (gBin (oEq false) (gVar 0) (gC k_EAST_SLANT))) (gC k_EAST) (gC k_NORTH)))
  sNx)
  (sRet (gCallX φ_path_in [] (aCons (gVar 0) aNil))))
def φ_name_in : Phi := phiP 1 1 g_name_in
/-! slant_by(name): slots 0 name -/
def g_slant_by : GS := (sSeq (sIf (gTb (gBin (oIn false) (gVar 0) (gTup (aCons (gC k_EAST) (aCons (gC k_NORTH) aNil)))))
  (sRet (gIfE (gTb (gBin (oEq false) (gVar 0) (gC k_EAST))) (gC k_EAST_SLANT) (gC k_NORTH_SLANT)))
  sNx)
  (sRet (gCallX φ_slant_in [] (aCons (gVar 0) aNil))))
def φ_slant_by : Phi := phiP 1 1 g_slant_by
/-! need_name(value, part): slots 0 value 1 part -/
def g_need_name : GS := (sSeq (sIf (gNot (gTb (gCallX φ_is_name [] (aCons (gVar 0) aNil))))
  sNever
  sNx)
  (sRet (gCallX φ_name_at [] (aCons (gVar 0) aNil))))
def φ_need_name : Phi := phiP 2 2 g_need_name
/-! need_endless(head, period): slots 0 head 1 period -/
def g_need_endless : GS := (sSeq (sIf (gNot (gTb (gCallX φ_is_path [] (aCons (gVar 0) aNil))))
  sNever
  sNx)
  (sSeq (sIf (gOr (gNot (gTb (gCallX φ_is_path [] (aCons (gVar 1) aNil)))) (gTb (gBin (oEq false) (gUn oLen (gVar 1)) (gC (.int 0)))))
  sNever
  sNx)
  (sRet (gCallX φ_shortened_in [] (aCons (gCallX φ_path_at [] (aCons (gVar 0) aNil)) (aCons (gCallX φ_path_at [] (aCons (gVar 1) aNil)) aNil))))))
def φ_need_endless : Phi := phiP 2 2 g_need_endless
/-! name_of(way): slots 0 way -/
def g_name_of : GS := (sSeq (sIf (gNot (gTb (gCallX φ_is_slant [] (aCons (gVar 0) aNil))))
  sNever
  sNx)
  (sRet (gCallX φ_name_in [] (aCons (gUn oTuple (gVar 0)) aNil))))
def φ_name_of : Phi := phiP 1 1 g_name_of
/-! way_of(name): slots 0 name 1 told 2 found 3 number -/
def X_way_of_0 : GE := (gUn oInt (gVar 3))
def g_way_of : GS := (sSeq (sSet 1 (gCallX φ_need_name [(.str [110, 97, 109, 101])] (aCons (gVar 0) aNil)))
  (sSeq (sIf (gTb (gBin (oCmpI fun i j => decide (j < i)) (gUn oLen (gVar 1)) (gC k_MOST_TOLD)))
  sNever
  sNx)
  (sSeq (sSet 2 (gCallX φ_slant_by [] (aCons (gVar 1) aNil)))
  (sSeq (sIf (gTb (gBin (oCmpI fun i j => decide (j < i)) (gUn oMax (gComp (iAny (gVar 2)) (.nm 3) gYes X_way_of_0 [3])) (gC k_MOST_NUMBER)))
  sNever
  sNx)
  (sRet (gVar 2))))))
def φ_way_of : Phi := phiP 1 4 g_way_of
/-! shortened(head, period): slots 0 head 1 period -/
def g_shortened : GS := (sRet (gCallX φ_need_endless [] (aCons (gVar 0) (aCons (gVar 1) aNil))))
def φ_shortened : Phi := phiP 2 2 g_shortened
/-! limit_of(head, period): slots 0 head 1 period 2 told 3 found 4 top 5 bottom 6 by -/
def g_limit_of : GS := (sSeq (sSet 2 (gCallX φ_need_endless [] (aCons (gVar 0) (aCons (gVar 1) aNil))))
  (sSeq (sIf (gTb (gBin (oEq false) (gUn oLen (gBin oIx (gVar 2) (gC (.int 1)))) (gC (.int 1))))
  (sRet (gTup (aCons (gC k_SLANT) (aCons (gCallX φ_side_name [] (aCons (gBin oIx (gVar 2) (gC (.int 0))) (aCons (gBin oIx (gBin oIx (gBin oIx (gVar 2) (gC (.int 1))) (gC (.int 0))) (gC (.int 0))) aNil))) aNil))))
  sNx)
  (sSeq (sIf (gTb (gBin (oCmpI fun i j => decide (j < i)) (gBin oAdd (gCallX φ_letters_in [] (aCons (gBin oIx (gVar 2) (gC (.int 0))) aNil)) (gCallX φ_letters_in [] (aCons (gBin oIx (gVar 2) (gC (.int 1))) aNil))) (gC k_MOST_LETTERS)))
  sNever
  sNx)
  (sSeq (sSet 3 (gCallX φ_equation_of [] (aCons (gBin oIx (gVar 2) (gC (.int 0))) (aCons (gBin oIx (gVar 2) (gC (.int 1))) aNil))))
  (sSeq (sPar 4 5 (gBin (oI fun i j => some (i - j)) (gC (.int 0)) (gBin oIx (gVar 3) (gC (.int 1)))) (gBin oMul (gC (.int 2)) (gBin oIx (gVar 3) (gC (.int 0)))))
  (sSeq (sIf (gTb (gBin (oCmpI fun i j => decide (i ≤ j)) (gVar 4) (gC (.int 0))))
  (sRet (gTup (aCons (gC k_ROOT) (aCons (gVar 3) (aCons (gC (.bl true)) aNil)))))
  sNx)
  (sSeq (sSet 6 (gCallX φ_common [] (aCons (gVar 4) (aCons (gVar 5) aNil))))
  (sRet (gTup (aCons (gC k_ROOT) (aCons (gVar 3) (aCons (gNotV (gCallX φ_is_beyond_in [] (aCons (gCallX φ_path_in [] (aCons (gTup (aCons (gBin (oI fFdiv) (gVar 5) (gVar 6)) (aCons (gBin (oI fFdiv) (gVar 4) (gVar 6)) aNil))) aNil)) (aCons (gBin oIx (gVar 2) (gC (.int 0))) (aCons (gBin oIx (gVar 2) (gC (.int 1))) aNil))))) aNil))))))))))))
def φ_limit_of : Phi := phiP 2 7 g_limit_of
/-! is_beyond(name, head, period): slots 0 name 1 head 2 period 3 told 4 short -/
def g_is_beyond : GS := (sSeq (sSet 3 (gCallX φ_need_name [(.str [110, 97, 109, 101])] (aCons (gVar 0) aNil)))
  (sSeq (sSet 4 (gCallX φ_need_endless [] (aCons (gVar 1) (aCons (gVar 2) aNil))))
  (sRet (gCallX φ_is_beyond_in [] (aCons (gVar 3) (aCons (gBin oIx (gVar 4) (gC (.int 0))) (aCons (gBin oIx (gVar 4) (gC (.int 1))) aNil)))))))
def φ_is_beyond : Phi := phiP 3 5 g_is_beyond
/-! _law_pen(script): slots 0 script 1 cell -/
def X__law_pen_0 : GE := (gUn oInt (gVar 1))
def g__law_pen : GS := (sRet (gLst (aCons (gComp (iAny (gSl (gVar 0) gNoP (gP (gC (.int 60))))) (.nm 1) gYes X__law_pen_0 [1]) (aCons (gC (.int 0)) (aCons (gC (.int 0)) aNil)))))
def φ__law_pen : Phi := phiP 1 2 g__law_pen
/-! _law_draw(pen, many): slots 0 pen 1 many 2 rest 3 turn 4 cell 5 mixed -/
def g__law_draw : GS := (sSeq (sIf (gTb (gBin (oCmpI fun i j => decide (j < i)) (gBin oIx (gVar 0) (gC (.int 2))) (gC (.int 0))))
  (sSeq (sSet 2 (gUn oInt (gBin oIx (gVar 0) (gC (.int 2)))))
  (sSeq (sItem (gVar 0) (gC (.int 2)) (gBin (oI fFdiv) (gVar 2) (gVar 1)))
  (sRet (gBin (oI fMod) (gUn oInt (gVar 2)) (gVar 1)))))
  sNx)
  (sSeq (sSet 3 (gBin oIx (gVar 0) (gC (.int 1))))
  (sSeq (sItem (gVar 0) (gC (.int 1)) (gBin oAdd (gVar 3) (gC (.int 1))))
  (sSeq (sSet 4 (gIfE (gTb (gBin (oEq false) (gBin oIx (gVar 0) (gC (.int 0))) (gLst aNil))) (gBin oAdd (gBin oMul (gC (.int 40961)) (gVar 3)) (gC (.int 7723))) (gBin oIx (gBin oIx (gVar 0) (gC (.int 0))) (gBin (oI fMod) (gUn oInt (gVar 3)) (gUn oLen (gBin oIx (gVar 0) (gC (.int 0))))))))
  (sSeq (sIf (gAnd (gTb (gBin (oCmpI fun i j => decide (i < j)) (gVar 3) (gUn oLen (gBin oIx (gVar 0) (gC (.int 0)))))) (gTb (gBin (oCmpI fun i j => decide (j ≤ i)) (gUn oAbs (gVar 4)) (gBin (oI fPow) (gC (.int 10)) (gC (.int 18))))))
  (sSeq (sSet 2 (gBin oAdd (gBin oMul (gC (.int 2)) (gBin (oI fun i j => some (i - j)) (gUn oAbs (gVar 4)) (gBin (oI fPow) (gC (.int 10)) (gC (.int 18))))) (gUn oInt (gBin (oCmpI fun i j => decide (i < j)) (gVar 4) (gC (.int 0))))))
  (sSeq (sItem (gVar 0) (gC (.int 2)) (gBin (oI fFdiv) (gVar 2) (gVar 1)))
  (sRet (gBin (oI fMod) (gUn oInt (gVar 2)) (gVar 1)))))
  sNx)
  (sSeq (sSet 5 (gBin (oI fMod) (gUn oInt (gBin (oI fPow) (gBin oAdd (gBin oAdd (gBin (oI fMod) (gUn oInt (gVar 4)) (gC (.int 2147483549))) (gBin oMul (gC (.int 40961)) (gVar 3))) (gC (.int 7723))) (gC (.int 5)))) (gC (.int 2147483587))))
  (sSeq (sSet 5 (gBin (oI fMod) (gUn oInt (gBin (oI fPow) (gBin oAdd (gBin oAdd (gBin oMul (gVar 5) (gBin oAdd (gBin oMul (gC (.int 2)) (gVar 3)) (gC (.int 6089)))) (gBin oMul (gBin oMul (gC (.int 40961)) (gVar 3)) (gVar 3))) (gC (.int 7723))) (gC (.int 3)))) (gC (.int 2147483629))))
  (sRet (gBin (oI fMod) (gUn oInt (gBin (oI fFdiv) (gVar 5) (gC (.int 64)))) (gVar 1))))))))))
def φ__law_draw : Phi := phiI 2 6 g__law_draw
/-! _law_pick(pen, some): slots 0 pen 1 some -/
def g__law_pick : GS := (sRet (gBin oIx (gVar 1) (gCallI φ__law_draw (gVar 0) (aCons (gUn oLen (gVar 1)) aNil))))
def φ__law_pick : Phi := phiI 2 2 g__law_pick
/-! _law_common(one, other): slots 0 one 1 other -/
def C__law_common_0 : GT := (gTb (gBin (oCmpI fun i j => decide (j < i)) (gVar 1) (gC (.int 0))))
def L__law_common_0 : GS := (sPar 0 1 (gVar 1) (gBin (oI fMod) (gUn oInt (gVar 0)) (gVar 1)))
def g__law_common : GS := (sSeq (whileG C__law_common_0
  L__law_common_0 big)
  (sRet (gVar 0)))
def φ__law_common : Phi := phiP 2 2 g__law_common
/-! _law_low(p, q): slots 0 p 1 q 2 both -/
def g__law_low : GS := (sSeq (sSet 2 (gCallX φ__law_common [] (aCons (gVar 0) (aCons (gVar 1) aNil))))
  (sRet (gTup (aCons (gBin (oI fFdiv) (gUn oInt (gVar 0)) (gVar 2)) (aCons (gBin (oI fFdiv) (gUn oInt (gVar 1)) (gVar 2)) aNil)))))
def φ__law_low : Phi := phiP 2 3 g__law_low
/-! _law_slant(pen, top): slots 0 pen 1 top 2 kind 3 p 4 q 5 turn 6 most 7 pair -/
def L__law_slant_0 : GS := (sPar 3 4 (gBin oAdd (gVar 3) (gVar 4)) (gVar 3))
def g__law_slant : GS := (sSeq (sSet 2 (gCallI φ__law_draw (gVar 0) (aCons (gC (.int 5)) aNil)))
  (sSeq (sIf (gTb (gBin (oEq false) (gVar 2) (gC (.int 0))))
  (sSeq (sAsg (.tp [(.nm 3), (.nm 4)]) (gTup (aCons (gC (.int 1)) (aCons (gC (.int 1)) aNil))))
  (sSeq (sFor (iRange (gCallI φ__law_draw (gVar 0) (aCons (gC (.int 150)) aNil))) (.nm 5)
  L__law_slant_0)
  (sRet (gIfE (gTb (gBin (oEq false) (gCallI φ__law_draw (gVar 0) (aCons (gC (.int 2)) aNil)) (gC (.int 0)))) (gTup (aCons (gVar 3) (aCons (gVar 4) aNil))) (gTup (aCons (gVar 4) (aCons (gVar 3) aNil)))))))
  sNx)
  (sSeq (sSet 6 (gBin oIx (gLst (aCons (gC (.int 7)) (aCons (gC (.int 30)) (aCons (gBin (oI fPow) (gC (.int 10)) (gC (.int 6))) (aCons (gVar 1) aNil))))) (gBin (oI fun i j => some (i - j)) (gVar 2) (gC (.int 1)))))
  (sSeq (sSet 7 (gCallX φ__law_low [] (aCons (gBin oAdd (gC (.int 1)) (gCallI φ__law_draw (gVar 0) (aCons (gVar 6) aNil))) (aCons (gBin oAdd (gC (.int 1)) (gIfE (gTb (gBin (oCmpI fun i j => decide (j < i)) (gCallI φ__law_draw (gVar 0) (aCons (gC (.int 4)) aNil)) (gC (.int 0)))) (gCallI φ__law_draw (gVar 0) (aCons (gVar 6) aNil)) (gCallI φ__law_draw (gVar 0) (aCons (gC (.int 3)) aNil)))) aNil))))
  (sRet (gIfE (gTb (gBin (oEq false) (gCallI φ__law_draw (gVar 0) (aCons (gC (.int 2)) aNil)) (gC (.int 0)))) (gVar 7) (gTup (aCons (gBin oIx (gVar 7) (gC (.int 1))) (aCons (gBin oIx (gVar 7) (gC (.int 0))) aNil)))))))))
def φ__law_slant : Phi := phiI 2 8 g__law_slant
/-! _law_back(text): slots 0 text 1 p 2 q 3 letter -/
def L__law_back_0 : GS := (sAsg (.tp [(.nm 1), (.nm 2)]) (gIfE (gTb (gBin (oEq false) (gVar 3) (gC (.str [97])))) (gTup (aCons (gBin oAdd (gVar 1) (gVar 2)) (aCons (gVar 2) aNil))) (gTup (aCons (gVar 1) (aCons (gBin oAdd (gVar 2) (gVar 1)) aNil)))))
def g__law_back : GS := (sSeq (sAsg (.tp [(.nm 1), (.nm 2)]) (gTup (aCons (gC (.int 1)) (aCons (gC (.int 1)) aNil))))
  (sSeq (sFor (iAny (gUn oRevS (gVar 0))) (.nm 3)
  L__law_back_0)
  (sRet (gTup (aCons (gVar 1) (aCons (gVar 2) aNil))))))
def φ__law_back : Phi := phiP 1 4 g__law_back
/-! _law_name(letters): slots 0 letters 1 found 2 letter -/
def L__law_name_0 : GS := (sIf (gAnd (gTb (gBin (oEq true) (gVar 1) (gLst aNil))) (gTb (gBin (oEq false) (gBin oIx (gBin oIx (gVar 1) (gUn oNeg (gC (.int 1)))) (gC (.int 0))) (gVar 2))))
  (sItem (gVar 1) (gUn oNeg (gC (.int 1))) (gTup (aCons (gVar 2) (aCons (gBin oAdd (gBin oIx (gBin oIx (gVar 1) (gUn oNeg (gC (.int 1)))) (gC (.int 1))) (gC (.int 1))) aNil))))
  (sDrop (gM mApp (gVar 1) (aCons (gTup (aCons (gVar 2) (aCons (gC (.int 1)) aNil))) aNil))))
def g__law_name : GS := (sSeq (sSet 1 (gLst aNil))
  (sSeq (sFor (iAny (gVar 0)) (.nm 2)
  L__law_name_0)
  (sRet (gUn oTuple (gVar 1)))))
def φ__law_name : Phi := phiP 1 3 g__law_name
/-! _law_letters(name): slots 0 name 1 letter 2 many -/
def X__law_letters_0 : GE := (gBin oMul (gVar 1) (gVar 2))
def g__law_letters : GS := (sRet (gUn oJoin (gComp (iAny (gVar 0)) (.tp [(.nm 1), (.nm 2)]) gYes X__law_letters_0 [1, 2])))
def φ__law_letters : Phi := phiP 1 3 g__law_letters
/-! _law_text(pen, most): slots 0 pen 1 most 2 turn -/
def X__law_text_0 : GE := (gCallI φ__law_pick (gVar 0) (aCons (gC (.str [97, 98])) aNil))
def g__law_text : GS := (sRet (gUn oJoin (gComp (iRange (gCallI φ__law_draw (gVar 0) (aCons (gBin oAdd (gVar 1) (gC (.int 1))) aNil))) (.nm 2) gYes X__law_text_0 [2])))
def φ__law_text : Phi := phiI 2 3 g__law_text
/-! _law_above(one, other): slots 0 one 1 other -/
def g__law_above : GS := (sRet (gBin (oCmpI fun i j => decide (j < i)) (gBin oMul (gBin oIx (gVar 0) (gC (.int 1))) (gBin oIx (gVar 1) (gC (.int 0)))) (gBin oMul (gBin oIx (gVar 1) (gC (.int 1))) (gBin oIx (gVar 0) (gC (.int 0))))))
def φ__law_above : Phi := phiP 2 2 g__law_above
/-! _law_begin(head, period, many): slots 0 head 1 period 2 many 3 found 4 again -/
def C__law_begin_0 : GT := (gTb (gBin (oCmpI fun i j => decide (i < j)) (gUn oLen (gVar 3)) (gVar 2)))
def L__law_begin_0 : GS := (sSet 3 (gBin oAdd (gVar 3) (gVar 4)))
def g__law_begin : GS := (sSeq (sSet 3 (gSl (gCallX φ__law_letters [] (aCons (gVar 0) aNil)) gNoP (gP (gVar 2))))
  (sSeq (sSet 4 (gCallX φ__law_letters [] (aCons (gVar 1) aNil)))
  (sSeq (whileG C__law_begin_0
  L__law_begin_0 big)
  (sRet (gSl (gVar 3) gNoP (gP (gVar 2)))))))
def φ__law_begin : Phi := phiP 3 5 g__law_begin
/-! _law_coprime(numbers): slots 0 numbers 1 both 2 number -/
def X__law_coprime_0 : GE := (gBin (oI fFdiv) (gUn oInt (gVar 2)) (gVar 1))
def g__law_coprime : GS := (sSeq (sSet 1 (gCallX φ__law_common [] (aCons (gCallX φ__law_common [] (aCons (gUn oAbs (gBin oIx (gVar 0) (gC (.int 0)))) (aCons (gUn oAbs (gBin oIx (gVar 0) (gC (.int 1)))) aNil))) (aCons (gUn oAbs (gBin oIx (gVar 0) (gC (.int 2)))) aNil))))
  (sSeq (sSet 1 (gIfE (gTb (gBin (oCmpI fun i j => decide (j < i)) (gBin oIx (gVar 0) (gC (.int 0))) (gC (.int 0)))) (gVar 1) (gBin (oI fun i j => some (i - j)) (gC (.int 0)) (gVar 1))))
  (sRet (gUn oTuple (gComp (iAny (gVar 0)) (.nm 2) gYes X__law_coprime_0 [2])))))
def φ__law_coprime : Phi := phiP 1 3 g__law_coprime
/-! _law_ahead(letter, numbers): slots 0 letter 1 numbers 2 a 3 b 4 c -/
def g__law_ahead : GS := (sSeq (sAsg (.tp [(.nm 2), (.nm 3), (.nm 4)]) (gVar 1))
  (sSeq (sIf (gTb (gBin (oEq false) (gVar 0) (gC (.str [98]))))
  (sRet (gCallX φ__law_coprime [] (aCons (gTup (aCons (gVar 2) (aCons (gBin (oI fun i j => some (i - j)) (gVar 3) (gBin oMul (gC (.int 2)) (gVar 2))) (aCons (gBin oAdd (gBin (oI fun i j => some (i - j)) (gVar 2) (gVar 3)) (gVar 4)) aNil)))) aNil)))
  sNx)
  (sRet (gCallX φ__law_coprime [] (aCons (gTup (aCons (gBin oAdd (gBin (oI fun i j => some (i - j)) (gVar 2) (gVar 3)) (gVar 4)) (aCons (gBin (oI fun i j => some (i - j)) (gVar 3) (gBin oMul (gC (.int 2)) (gVar 4))) (aCons (gVar 4) aNil)))) aNil)))))
def φ__law_ahead : Phi := phiP 2 5 g__law_ahead
/-! _law_is_above_root(slant, numbers, is_greater): slots 0 slant 1 numbers 2 is_greater 3 p 4 q 5 a 6 b 7 c 8 sign 9 is_right -/
def g__law_is_above_root : GS := (sSeq (sAsg (.tp [(.tp [(.nm 3), (.nm 4)]), (.tp [(.nm 5), (.nm 6), (.nm 7)])]) (gTup (aCons (gVar 0) (aCons (gVar 1) aNil))))
  (sSeq (sIf (gTb (gBin (oEq false) (gVar 3) (gC (.int 0))))
  (sRet (gC (.bl true)))
  sNx)
  (sSeq (sSet 8 (gBin oAdd (gBin oAdd (gBin oMul (gBin oMul (gVar 5) (gVar 4)) (gVar 4)) (gBin oMul (gBin oMul (gVar 6) (gVar 3)) (gVar 4))) (gBin oMul (gBin oMul (gVar 7) (gVar 3)) (gVar 3))))
  (sSeq (sSet 9 (gBin (oCmpI fun i j => decide (j < i)) (gBin oAdd (gBin oMul (gBin oMul (gC (.int 2)) (gVar 5)) (gVar 4)) (gBin oMul (gVar 6) (gVar 3))) (gC (.int 0))))
  (sSeq (sIf (gTb (gVar 2))
  (sRet (gAndV (gVar 9) (gBin (oCmpI fun i j => decide (j < i)) (gVar 8) (gC (.int 0)))))
  sNx)
  (sRet (gOrV (gVar 9) (gBin (oCmpI fun i j => decide (i < j)) (gVar 8) (gC (.int 0))))))))))
def φ__law_is_above_root : Phi := phiP 3 10 g__law_is_above_root
/-! _law_is_square(number): slots 0 number 1 found -/
def C__law_is_square_0 : GT := (gTb (gBin (oCmpI fun i j => decide (j < i)) (gBin oMul (gVar 1) (gVar 1)) (gVar 0)))
def L__law_is_square_0 : GS := (sSet 1 (gBin (oI fFdiv) (gUn oInt (gBin oAdd (gVar 1) (gBin (oI fFdiv) (gVar 0) (gVar 1)))) (gC (.int 2))))
def g__law_is_square : GS := (sSeq (sSet 1 (gVar 0))
  (sSeq (whileG C__law_is_square_0
  L__law_is_square_0 big)
  (sRet (gBin (oEq false) (gBin oMul (gVar 1) (gVar 1)) (gVar 0)))))
def φ__law_is_square : Phi := phiP 1 2 g__law_is_square
/-! law(script): slots 0 script 1 pen 2 lap 3 head 4 period 5 told 6 short 7 spot 8 is_slant_v 9 begin 10 some 11 letter 12 slant 13 name 14 beyond 15 due 16 a 17 b 18 c 19 other 20 swap 21 about 22 many -/
def X_law_0 : GE := (gCallX φ__law_back [] (aCons (gSl (gVar 9) gNoP (gP (gVar 22))) aNil))
def X_law_1 : GE := (gCallX φ__law_back [] (aCons (gBin oAdd (gVar 9) (gVar 11)) aNil))
def L_law_0 : GS := (sSeq (sSet 13 (gCallX φ_name_of [] (aCons (gVar 12) aNil)))
  (sSeq (sSet 14 (gCallX φ_is_beyond [] (aCons (gVar 13) (aCons (gCallX φ__law_name [] (aCons (gVar 3) aNil)) (aCons (gCallX φ__law_name [] (aCons (gVar 4) aNil)) aNil)))))
  (sIf (gTb (gVar 8))
  (sIf (gTb (gBin (oEq true) (gVar 14) (gCallX φ__law_above [] (aCons (gVar 12) (aCons (gCallX φ_way_of [] (aCons (gBin oIx (gVar 5) (gC (.int 1))) aNil)) aNil)))))
  (sRet (gC (.bl false)))
  sNx)
  (sIf (gTb (gBin (oEq true) (gVar 14) (gCallX φ__law_is_above_root [] (aCons (gVar 12) (aCons (gBin oIx (gVar 5) (gC (.int 1))) (aCons (gBin oIx (gVar 5) (gC (.int 2))) aNil))))))
  (sRet (gC (.bl false)))
  sNx))))
def C_law_0 : GT := (gAnd (gTb (gBin (oEq true) (gVar 15) (gC (.str [])))) (gTb (gBin (oEq false) (gBin oIx (gVar 15) (gUn oNeg (gC (.int 1)))) (gVar 11))))
def L_law_1 : GS := (sSet 15 (gSl (gVar 15) gNoP (gP (gUn oNeg (gC (.int 1))))))
def L_law_2 : GS := (sSeq (sSet 19 (gCallX φ_limit_of [] (aCons (gCallX φ__law_name [] (aCons (gBin oAdd (gVar 11) (gVar 3)) aNil)) (aCons (gCallX φ__law_name [] (aCons (gVar 4) aNil)) aNil))))
  (sIf (gOr (gTb (gBin (oEq true) (gBin oIx (gVar 19) (gC (.int 0))) (gC (.str [114, 111, 111, 116])))) (gTb (gBin (oEq true) (gBin oIx (gVar 19) (gC (.int 1))) (gCallX φ__law_ahead [] (aCons (gVar 11) (aCons (gBin oIx (gVar 5) (gC (.int 1))) aNil))))))
  (sRet (gC (.bl false)))
  sNx))
def X_law_2 : GE := (gBin oDGet (gVar 20) (gVar 11))
def X_law_3 : GE := (gBin oDGet (gVar 20) (gVar 11))
def L_law_3 : GS := (sSeq (sPar 3 4 (gCallI φ__law_text (gVar 1) (aCons (gC (.int 8)) aNil)) (gBin oAdd (gCallI φ__law_text (gVar 1) (aCons (gC (.int 6)) aNil)) (gCallI φ__law_pick (gVar 1) (aCons (gLst (aCons (gC (.str [97])) (aCons (gC (.str [98])) aNil))) aNil))))
  (sSeq (sSet 5 (gCallX φ_limit_of [] (aCons (gCallX φ__law_name [] (aCons (gVar 3) aNil)) (aCons (gCallX φ__law_name [] (aCons (gVar 4) aNil)) aNil))))
  (sSeq (sSet 6 (gCallX φ_shortened [] (aCons (gCallX φ__law_name [] (aCons (gVar 3) aNil)) (aCons (gCallX φ__law_name [] (aCons (gVar 4) aNil)) aNil))))
  (sSeq (sIf (gOr (gTb (gBin (oEq true) (gCallX φ__law_begin [] (aCons (gBin oIx (gVar 6) (gC (.int 0))) (aCons (gBin oIx (gVar 6) (gC (.int 1))) (aCons (gC (.int 80)) aNil)))) (gSl (gBin oAdd (gVar 3) (gBin oMul (gVar 4) (gC (.int 80)))) gNoP (gP (gC (.int 80)))))) (gOr (gTb (gBin (oEq true) (gCallX φ_shortened [] (aCons (gBin oIx (gVar 6) (gC (.int 0))) (aCons (gBin oIx (gVar 6) (gC (.int 1))) aNil))) (gVar 6))) (gTb (gBin (oEq true) (gCallX φ_limit_of [] (aCons (gBin oIx (gVar 6) (gC (.int 0))) (aCons (gBin oIx (gVar 6) (gC (.int 1))) aNil))) (gVar 5)))))
  (sRet (gC (.bl false)))
  sNx)
  (sSeq (sSet 7 (gCallI φ__law_draw (gVar 1) (aCons (gUn oLen (gVar 4)) aNil)))
  (sSeq (sIf (gOr (gTb (gBin (oEq true) (gCallX φ_shortened [] (aCons (gCallX φ__law_name [] (aCons (gBin oAdd (gVar 3) (gSl (gVar 4) gNoP (gP (gVar 7)))) aNil)) (aCons (gCallX φ__law_name [] (aCons (gBin oAdd (gSl (gVar 4) (gP (gVar 7)) gNoP) (gSl (gVar 4) gNoP (gP (gVar 7)))) aNil)) aNil))) (gVar 6))) (gTb (gBin (oEq true) (gCallX φ_shortened [] (aCons (gCallX φ__law_name [] (aCons (gBin oAdd (gVar 3) (gVar 4)) aNil)) (aCons (gCallX φ__law_name [] (aCons (gBin oMul (gVar 4) (gC (.int 2))) aNil)) aNil))) (gVar 6))))
  (sRet (gC (.bl false)))
  sNx)
  (sSeq (sSet 8 (gOrV (gBin (oInC true) (gC (.str [97])) (gVar 4)) (gBin (oInC true) (gC (.str [98])) (gVar 4))))
  (sSeq (sIf (gTb (gBin (oEq true) (gBin (oEq false) (gBin oIx (gVar 5) (gC (.int 0))) (gC (.str [115, 108, 97, 110, 116]))) (gVar 8)))
  (sRet (gC (.bl false)))
  sNx)
  (sSeq (sSet 9 (gSl (gBin oAdd (gVar 3) (gBin oMul (gVar 4) (gC (.int 40)))) gNoP (gP (gBin oAdd (gC (.int 6)) (gCallI φ__law_draw (gVar 1) (aCons (gC (.int 20)) aNil))))))
  (sSeq (sSet 10 (gBin oAdd (gBin oAdd (gComp (iRange (gBin oAdd (gUn oLen (gVar 9)) (gC (.int 1)))) (.nm 22) gYes X_law_0 [22]) (gComp (iAny (gC (.str [97, 98]))) (.nm 11) gYes X_law_1 [11])) (gLst (aCons (gTup (aCons (gC (.int 1)) (aCons (gC (.int 0)) aNil))) (aCons (gTup (aCons (gC (.int 0)) (aCons (gC (.int 1)) aNil))) (aCons (gCallI φ__law_slant (gVar 1) (aCons (gBin (oI fPow) (gC (.int 10)) (gC (.int 12))) aNil)) (aCons (gCallI φ__law_slant (gVar 1) (aCons (gC (.int 30)) aNil)) aNil)))))))
  (sSeq (sFor (iAny (gVar 10)) (.nm 12)
  L_law_0)
  (sSeq (sIf (gTb (gVar 8))
  (sSeq (sSet 11 (gBin oIx (gVar 4) (gC (.int 0))))
  (sSeq (sSet 15 (gVar 3))
  (sSeq (whileG C_law_0
  L_law_1 big)
  (sSeq (sIf (gOr (gAnd (gTb (gBin (oEq false) (gVar 15) (gC (.str [])))) (gTb (gBin (oEq true) (gBin oIx (gVar 5) (gC (.int 1))) (gIfE (gTb (gBin (oEq false) (gVar 11) (gC (.str [98])))) (gC (.str [110, 111, 114, 116, 104])) (gC (.str [101, 97, 115, 116])))))) (gAnd (gTb (gBin (oEq true) (gVar 15) (gC (.str [])))) (gTb (gBin (oEq true) (gBin oIx (gVar 5) (gC (.int 1))) (gCallX φ__law_name [] (aCons (gSl (gVar 15) gNoP (gP (gUn oNeg (gC (.int 1))))) aNil))))))
  (sRet (gC (.bl false)))
  sNx)
  sCt))))
  sNx)
  (sSeq (sAsg (.tp [(.nm 16), (.nm 17), (.nm 18)]) (gBin oIx (gVar 5) (gC (.int 1))))
  (sSeq (sIf (gOr (gTb (gBin (oCmpI fun i j => decide (i < j)) (gVar 16) (gC (.int 1)))) (gOr (gTb (gBin (oEq true) (gCallX φ__law_coprime [] (aCons (gBin oIx (gVar 5) (gC (.int 1))) aNil)) (gBin oIx (gVar 5) (gC (.int 1))))) (gOr (gTb (gBin (oCmpI fun i j => decide (i ≤ j)) (gBin (oI fun i j => some (i - j)) (gBin oMul (gVar 17) (gVar 17)) (gBin oMul (gBin oMul (gC (.int 4)) (gVar 16)) (gVar 18))) (gC (.int 0)))) (gTb (gCallX φ__law_is_square [] (aCons (gBin (oI fun i j => some (i - j)) (gBin oMul (gVar 17) (gVar 17)) (gBin oMul (gBin oMul (gC (.int 4)) (gVar 16)) (gVar 18))) aNil))))))
  (sRet (gC (.bl false)))
  sNx)
  (sSeq (sFor (iAny (gC (.str [97, 98]))) (.nm 11)
  L_law_2)
  (sSeq (sSet 20 (gC (.dic [([97], .str [98]), ([98], .str [97])])))
  (sSeq (sSet 21 (gCallX φ_limit_of [] (aCons (gCallX φ__law_name [] (aCons (gComp (iAny (gVar 3)) (.nm 11) gYes X_law_3 [11]) aNil)) (aCons (gCallX φ__law_name [] (aCons (gComp (iAny (gVar 4)) (.nm 11) gYes X_law_2 [11]) aNil)) aNil))))
  (sIf (gTb (gBin (oEq true) (gBin oIx (gVar 21) (gC (.int 1))) (gCallX φ__law_coprime [] (aCons (gTup (aCons (gVar 18) (aCons (gVar 17) (aCons (gVar 16) aNil)))) aNil))))
  (sRet (gC (.bl false)))
  sNx))))))))))))))))))
def g_law : GS := (sSeq (sSet 1 (gCallX φ__law_pen [] (aCons (gVar 0) aNil)))
  (sSeq (sFor (iRange (gC (.int 8))) (.nm 2)
  L_law_3)
  (sRet (gBin (oEq false) (gCallX φ_limit_of [] (aCons (gTup aNil) (aCons (gTup (aCons (gTup (aCons (gC (.str [98])) (aCons (gC (.int 1)) aNil))) (aCons (gTup (aCons (gC (.str [97])) (aCons (gC (.int 1)) aNil))) aNil))) aNil))) (gTup (aCons (gC (.str [114, 111, 111, 116])) (aCons (gTup (aCons (gC (.int 1)) (aCons (gUn oNeg (gC (.int 1))) (aCons (gUn oNeg (gC (.int 1))) aNil)))) (aCons (gC (.bl true)) aNil))))))))
def φ_law : Phi := phiP 1 23 g_law
end W
end

section
set_option Elab.async false
set_option linter.all false
set_option maxRecDepth 100000
set_option maxHeartbeats 4000000
/-! # Slants against an endless word -/
namespace Lim
abbrev Wd := List Bool
abbrev Om := Nat → Bool
def app : Wd → Om → Om
  | [], ω => ω
  | x :: w, ω => fun n => match n with
    | 0 => x
    | n + 1 => app w ω n
inductive Sla where
  | east | north | word (v : Wd)
def act : Bool → Int × Int → Int × Int
  | false, v => (v.1 + v.2, v.2)
  | true, v => (v.1, v.2 + v.1)
def iact : Bool → Int × Int → Int × Int
  | false, v => (v.1 - v.2, v.2)
  | true, v => (v.1, v.2 - v.1)
def back : Wd → Int × Int
  | [] => (1, 1)
  | x :: v => act x (back v)
def vec : Sla → Int × Int
  | .east => (1, 0)
  | .north => (0, 1)
  | .word v => back v
def BeyW : Wd → Om → Prop
  | [], ω => ω 0 = false ∧ ¬ ∀ n, ω (n + 1) = true
  | x :: v, ω => (x = ω 0 ∧ BeyW v fun n => ω (n + 1)) ∨ (x ≠ ω 0 ∧ x = true)
def Bey : Sla → Om → Prop
  | .east, _ => False
  | .north, ω => ¬ ∀ n, ω n = true
  | .word v, ω => BeyW v ω
theorem back_pos : ∀ v : Wd, 1 ≤ (back v).1 ∧ 1 ≤ (back v).2
  | [] => ⟨by decide, by decide⟩
  | x :: v => by
    have := back_pos v
    cases x <;> (simp only [back, act]; omega)
theorem vec_nn (s : Sla) : 0 ≤ (vec s).1 ∧ 0 ≤ (vec s).2 ∧ 1 ≤ (vec s).1 + (vec s).2 := by
  cases s with
  | east => decide
  | north => decide
  | word v => have := back_pos v; simp only [vec]; omega
theorem app_cons {x : Bool} {w : Wd} {ω : Om} : app (x :: w) ω 0 = x ∧ (fun n => app (x :: w) ω (n + 1)) = app w ω := ⟨rfl, rfl⟩
def neg2 (v : Int × Int) : Prop := v.2 < 0 ∧ 0 < v.1
def neg1 (v : Int × Int) : Prop := v.1 < 0 ∧ 0 < v.2
theorem north_cons {x : Bool} {ω ω' : Om} (h0 : ω 0 = x) (h1 : ∀ n, ω (n + 1) = ω' n) : (∀ n, ω n = true) ↔ (x = true ∧ ∀ n, ω' n = true) := by
  constructor
  · intro h
    exact ⟨h0 ▸ h 0, fun n => (h1 n) ▸ h (n + 1)⟩
  · rintro ⟨h2, h3⟩ n
    cases n with
    | zero => rw [h0, h2]
    | succ n => rw [h1 n, h3 n]
/-- one letter -/
theorem one (x : Bool) (ω' : Om) (s : Sla) :
    (∃ s', vec s' = iact x (vec s) ∧ (Bey s (app [x] ω') ↔ Bey s' ω')) ∨ (neg2 (iact x (vec s)) ∧ ¬ Bey s (app [x] ω')) ∨ (neg1 (iact x (vec s)) ∧ Bey s (app [x] ω')) := by
  have h0 : app [x] ω' 0 = x := rfl
  have h1 : ∀ n, app [x] ω' (n + 1) = ω' n := fun _ => rfl
  have h2 : (fun n => app [x] ω' (n + 1)) = ω' := rfl
  cases s with
  | east =>
    cases x with
    | false => exact .inl ⟨.east, by decide, Iff.rfl⟩
    | true => exact .inr (.inl ⟨⟨by decide, by decide⟩, fun z => z⟩)
  | north =>
    cases x with
    | false =>
      refine .inr (.inr ⟨⟨by decide, by decide⟩, ?_⟩)
      show ¬ _
      rw [north_cons h0 h1]
      simp
    | true =>
      refine .inl ⟨.north, by decide, ?_⟩
      show (¬ _) ↔ ¬ _
      rw [north_cons h0 h1]
      simp
  | word v =>
    cases v with
    | nil =>
      cases x with
      | false =>
        refine .inl ⟨.north, by decide, ?_⟩
        show (_ ∧ ¬ _) ↔ ¬ _
        simp only [h0, h1, true_and]
      | true =>
        refine .inl ⟨.east, by decide, ?_⟩
        show (_ ∧ ¬ _) ↔ False
        simp [h0]
    | cons y v =>
      have hp := back_pos v
      have e : Bey (.word (y :: v)) (app [x] ω') ↔ (y = x ∧ BeyW v ω') ∨ (y ≠ x ∧ y = true) := Iff.rfl
      rw [e]
      cases x <;> cases y
      · exact .inl ⟨.word v, by simp only [vec, back, act, iact]; ext <;> simp, by simp [Bey]⟩
      · exact .inr (.inr ⟨by simp only [vec, back, act, iact, neg1]; omega, by simp⟩)
      · exact .inr (.inl ⟨by simp only [vec, back, act, iact, neg2]; omega, by simp⟩)
      · exact .inl ⟨.word v, by simp only [vec, back, act, iact]; ext <;> simp, by simp [Bey]⟩
def ivec : Wd → Int × Int → Int × Int
  | [], v => v
  | x :: h, v => ivec h (iact x v)
theorem ivec_neg2 : ∀ (h : Wd) (v : Int × Int), neg2 v → neg2 (ivec h v)
  | [], _, n => n
  | x :: h, v, n => ivec_neg2 h _ (by obtain ⟨a, b⟩ := n; cases x <;> (simp only [iact, neg2]; omega))
theorem ivec_neg1 : ∀ (h : Wd) (v : Int × Int), neg1 v → neg1 (ivec h v)
  | [], _, n => n
  | x :: h, v, n => ivec_neg1 h _ (by obtain ⟨a, b⟩ := n; cases x <;> (simp only [iact, neg1]; omega))
theorem heads : ∀ (h : Wd) (ω : Om) (s : Sla),
    (∃ s', vec s' = ivec h (vec s) ∧ (Bey s (app h ω) ↔ Bey s' ω)) ∨ (neg2 (ivec h (vec s)) ∧ ¬ Bey s (app h ω)) ∨ (neg1 (ivec h (vec s)) ∧ Bey s (app h ω))
  | [], ω, s => .inl ⟨s, rfl, Iff.rfl⟩
  | x :: h, ω, s => by
    have e : app (x :: h) ω = app [x] (app h ω) := by
      funext n
      cases n <;> rfl
    rw [e]
    rcases one x (app h ω) s with ⟨s', h1, h2⟩ | ⟨h1, h2⟩ | ⟨h1, h2⟩
    · show (∃ s'', vec s'' = ivec h (iact x (vec s)) ∧ _) ∨ (neg2 (ivec h (iact x (vec s))) ∧ _) ∨ (neg1 (ivec h (iact x (vec s))) ∧ _)
      rw [← h1, h2]
      exact heads h ω s'
    · exact .inr (.inl ⟨ivec_neg2 h _ h1, h2⟩)
    · exact .inr (.inr ⟨ivec_neg1 h _ h1, h2⟩)

/-! ## machines -/
structure Mat where
  a : Int
  b : Int
  c : Int
  d : Int
def step : Bool → Mat → Mat
  | true, m => ⟨m.a + m.c, m.b + m.d, m.c, m.d⟩
  | false, m => ⟨m.a, m.b, m.c + m.a, m.d + m.b⟩
def mat : Wd → Mat
  | [] => ⟨1, 0, 0, 1⟩
  | x :: w => step x (mat w)
theorem ivec_mat : ∀ (h : Wd) (v : Int × Int), ivec h v = ((mat h).a * v.1 - (mat h).c * v.2, (mat h).d * v.2 - (mat h).b * v.1)
  | [], v => by simp [ivec, mat]
  | x :: h, v => by
    show ivec h (iact x v) = _
    rw [ivec_mat h]
    cases x <;> (simp only [iact, mat, step]; ext <;> grind)
theorem mat_det : ∀ h : Wd, (mat h).a * (mat h).d - (mat h).b * (mat h).c = 1
  | [] => by decide
  | x :: h => by
    have := mat_det h
    cases x <;> (simp only [mat, step]; grind)
theorem mat_nn : ∀ h : Wd, 1 ≤ (mat h).a ∧ 0 ≤ (mat h).b ∧ 0 ≤ (mat h).c ∧ 1 ≤ (mat h).d
  | [] => by decide
  | x :: h => by
    have := mat_nn h
    cases x <;> (simp only [mat, step]; omega)
theorem mat_b : ∀ h : Wd, true ∈ h → 1 ≤ (mat h).b
  | [], e => by cases e
  | x :: h, e => by
    have := mat_nn h
    cases x with
    | true => simp only [mat, step]; omega
    | false =>
      have := mat_b h (by simpa using e)
      simp only [mat, step]; omega
theorem mat_c : ∀ h : Wd, false ∈ h → 1 ≤ (mat h).c
  | [], e => by cases e
  | x :: h, e => by
    have := mat_nn h
    cases x with
    | false => simp only [mat, step]; omega
    | true =>
      have := mat_c h (by simpa using e)
      simp only [mat, step]; omega

/-! ## the purely periodic word -/
def F0 (M : Mat) (v : Int × Int) : Int := M.c * v.2 * v.2 + (M.d - M.a) * v.1 * v.2 - M.b * v.1 * v.1
theorem F0_cross (p : Wd) (v : Int × Int) : F0 (mat p) v = (ivec p v).2 * v.1 - (ivec p v).1 * v.2 := by
  rw [ivec_mat]
  simp only [F0]
  grind
theorem F0_inv (p : Wd) (v : Int × Int) : F0 (mat p) (ivec p v) = F0 (mat p) v := by
  rw [ivec_mat]
  have := mat_det p
  generalize mat p = M at *
  obtain ⟨A, B, C, D⟩ := M
  obtain ⟨x, y⟩ := v
  simp only [F0] at *
  have e : C * (D * y - B * x) * (D * y - B * x) + (D - A) * (A * x - C * y) * (D * y - B * x) - B * (A * x - C * y) * (A * x - C * y) = (A * D - B * C) * (C * y * y + (D - A) * x * y - B * x * x) := by grind
  rw [e, this, Int.one_mul]
theorem periodic {p : Wd} {ω : Om} (hω : app p ω = ω) (ha : false ∈ p) (hb : true ∈ p) : ∀ (n : Nat) (s : Sla), (vec s).1 + (vec s).2 ≤ n → (Bey s ω ↔ 0 < F0 (mat p) (vec s))
  | 0, s, h => by have := vec_nn s; omega
  | n + 1, s, h => by
    have hv := vec_nn s
    rcases heads p ω s with ⟨s', h1, h2⟩ | ⟨h1, h2⟩ | ⟨h1, h2⟩
    · rw [hω] at h2
      rw [h2, ← F0_inv, ← h1]
      refine periodic hω ha hb n s' ?_
      have hv' := vec_nn s'
      have e := ivec_mat p (vec s)
      rw [← h1] at e
      have d := mat_det p
      have nn := mat_nn p
      have b1 := mat_b p hb
      have c1 := mat_c p ha
      generalize mat p = M at *
      obtain ⟨A, B, C, D⟩ := M
      generalize hx : vec s' = v' at *
      generalize hy : vec s = v at *
      obtain ⟨x', y'⟩ := v'
      obtain ⟨x, y⟩ := v
      simp only [Prod.mk.injEq] at e d nn b1 c1 hv hv' h ⊢
      obtain ⟨e1, e2⟩ := e
      have f1 : x = C * y' + D * x' := by rw [e1, e2]; grind
      have f2 : y = A * y' + B * x' := by rw [e1, e2]; grind
      have g1 : y' ≤ C * y' := by have := Int.mul_le_mul_of_nonneg_right c1 hv'.2.1; omega
      have g2 : x' ≤ D * x' := by have := Int.mul_le_mul_of_nonneg_right nn.2.2.2 hv'.1; omega
      have g3 : y' ≤ A * y' := by have := Int.mul_le_mul_of_nonneg_right nn.1 hv'.2.1; omega
      have g4 : x' ≤ B * x' := by have := Int.mul_le_mul_of_nonneg_right b1 hv'.1; omega
      omega
    · rw [hω] at h2
      constructor
      · intro z; exact absurd z h2
      · intro z
        rw [F0_cross] at z
        have k1 : (ivec p (vec s)).2 * (vec s).1 ≤ 0 := Int.mul_nonpos_of_nonpos_of_nonneg (by have := h1.1; omega) hv.1
        have k2 : 0 ≤ (ivec p (vec s)).1 * (vec s).2 := Int.mul_nonneg (by have := h1.2; omega) hv.2.1
        omega
    · rw [hω] at h2
      refine ⟨fun _ => ?_, fun _ => h2⟩
      rw [F0_cross]
      have k1 : 0 ≤ (ivec p (vec s)).2 * (vec s).1 := Int.mul_nonneg (by have := h1.2; omega) hv.1
      have k2 : (ivec p (vec s)).1 * (vec s).2 ≤ 0 := Int.mul_nonpos_of_nonpos_of_nonneg (by have := h1.1; omega) hv.2.1
      rcases Int.lt_or_le 0 (vec s).1 with z | z
      · have : 0 < (ivec p (vec s)).2 * (vec s).1 := Int.mul_pos h1.2 z
        omega
      · have : 0 < (vec s).2 := by omega
        have : (ivec p (vec s)).1 * (vec s).2 < 0 := Int.mul_neg_of_neg_of_pos h1.1 this
        omega
/-- with a head -/
def Pr (h p : Wd) (v : Int × Int) : Prop := (ivec h v).1 < 0 ∨ (0 ≤ (ivec h v).2 ∧ 0 < F0 (mat p) (ivec h v))
theorem bey_pr {h p : Wd} {ω : Om} (hω : app p ω = ω) (ha : false ∈ p) (hb : true ∈ p) (s : Sla) : Bey s (app h ω) ↔ Pr h p (vec s) := by
  unfold Pr
  rcases heads h ω s with ⟨s', h1, h2⟩ | ⟨h1, h2⟩ | ⟨h1, h2⟩
  · have hv := vec_nn s'
    rw [h2, periodic hω ha hb ((vec s').1 + (vec s').2).toNat s' (by omega), ← h1]
    constructor
    · intro z; exact .inr ⟨hv.2.1, z⟩
    · rintro (z | z)
      · omega
      · exact z.2
  · have := h1.1
    have := h1.2
    constructor
    · intro z; exact absurd z h2
    · rintro (z | z) <;> omega
  · exact ⟨fun _ => .inl h1.1, fun _ => h2⟩
end Lim
end

section
set_option Elab.async false
set_option linter.all false
set_option maxRecDepth 100000
set_option maxHeartbeats 4000000
/-! # The root's criterion -/
namespace Lim
structure Eqn where
  a : Int
  b : Int
  c : Int
def Eqn.at (G : Eqn) (v : Int × Int) : Int := G.a * v.2 * v.2 + G.b * v.1 * v.2 + G.c * v.1 * v.1
def Eqn.m (G : Eqn) (v : Int × Int) : Int := 2 * G.a * v.2 + G.b * v.1
def Eqn.disc (G : Eqn) : Int := G.b * G.b - 4 * G.a * G.c
def Eqn.smul (s : Int) (G : Eqn) : Eqn := ⟨s * G.a, s * G.b, s * G.c⟩
def Crit (g : Prop) (G : Eqn) (v : Int × Int) : Prop := (g ∧ 0 < G.m v ∧ 0 < G.at v) ∨ (¬ g ∧ (0 < G.m v ∨ G.at v < 0))
/-- the equation of a head's machine m and a period's machine M -/
def eqn (m M : Mat) : Eqn := ⟨M.c * m.d * m.d - (M.d - M.a) * m.c * m.d - M.b * m.c * m.c,
  (M.d - M.a) * (m.a * m.d + m.b * m.c) - 2 * M.c * m.b * m.d + 2 * M.b * m.a * m.c,
  M.c * m.b * m.b - (M.d - M.a) * m.a * m.b - M.b * m.a * m.a⟩
theorem eqn_at (h p : Wd) (v : Int × Int) : (eqn (mat h) (mat p)).at v = F0 (mat p) (ivec h v) := by
  rw [ivec_mat]
  simp only [eqn, Eqn.at, F0]
  grind
theorem eqn_disc (h p : Wd) : (eqn (mat h) (mat p)).disc = ((mat p).a + (mat p).d) * ((mat p).a + (mat p).d) - 4 := by
  have d1 := mat_det h
  have d2 := mat_det p
  generalize mat h = m at *
  generalize mat p = M at *
  obtain ⟨a, b, c, d⟩ := m
  obtain ⟨A, B, C, D⟩ := M
  simp only [eqn, Eqn.disc] at *
  have e : ((D - A) * (a * d + b * c) - 2 * C * b * d + 2 * B * a * c) * ((D - A) * (a * d + b * c) - 2 * C * b * d + 2 * B * a * c) - 4 * (C * d * d - (D - A) * c * d - B * c * c) * (C * b * b - (D - A) * a * b - B * a * a)
    = (a * d - b * c) * (a * d - b * c) * ((D - A) * (D - A) + 4 * B * C) := by grind
  rw [e, d1]
  grind
theorem smul_at (s : Int) (G : Eqn) (v : Int × Int) : (Eqn.smul s G).at v = s * G.at v := by
  simp only [Eqn.smul, Eqn.at]; grind
theorem smul_disc (s : Int) (G : Eqn) : (Eqn.smul s G).disc = s * s * G.disc := by
  simp only [Eqn.smul, Eqn.disc]; grind
theorem sq_le {x y : Int} (h0 : 0 ≤ x) (h : x ≤ y) : x * x ≤ y * y := Int.mul_le_mul h h h0 (by omega)
theorem sq_le' {x y : Int} (h0 : y ≤ 0) (h : x ≤ y) : y * y ≤ x * x := by
  have := sq_le (x := -y) (y := -x) (by omega) (by omega)
  rwa [Int.neg_mul_neg, Int.neg_mul_neg] at this
theorem four_at (G : Eqn) (v : Int × Int) : 4 * G.a * G.at v = G.m v * G.m v - G.disc * (v.1 * v.1) := by
  simp only [Eqn.m, Eqn.at, Eqn.disc]; grind
theorem pos_of_mul {x y : Int} (h : 0 < x) (h2 : 0 < x * y) : 0 < y := by
  rcases Int.lt_or_le 0 y with z | z
  · exact z
  · have := Int.mul_nonpos_of_nonneg_of_nonpos (Int.le_of_lt h) z
    omega
theorem neg_of_mul {x y : Int} (h : 0 < x) (h2 : x * y < 0) : y < 0 := by
  rcases Int.lt_or_le y 0 with z | z
  · exact z
  · have := Int.mul_nonneg (Int.le_of_lt h) z
    omega
section
variable {G : Eqn} {v w : Int × Int}
theorem m_mono (ha : 0 < G.a) (hc : 0 ≤ w.2 * v.1 - v.2 * w.1) : G.m v * w.1 ≤ G.m w * v.1 := by
  have e : G.m w * v.1 - G.m v * w.1 = 2 * G.a * (w.2 * v.1 - v.2 * w.1) := by simp only [Eqn.m]; grind
  have : 0 ≤ 2 * G.a * (w.2 * v.1 - v.2 * w.1) := Int.mul_nonneg (by omega) hc
  omega
theorem cross_at (G : Eqn) (v w : Int × Int) : (4 * G.a) * (G.at w * (v.1 * v.1) - G.at v * (w.1 * w.1)) = (G.m w * v.1) * (G.m w * v.1) - (G.m v * w.1) * (G.m v * w.1) := by
  have h1 := four_at G v
  have h2 := four_at G w
  grind
theorem m_pos (ha : 0 < G.a) (hv : 0 < v.1) (hw : 0 < w.1) (hc : 0 ≤ w.2 * v.1 - v.2 * w.1) (h : 0 < G.m v) : 0 < G.m w := by
  have h1 := m_mono ha hc
  have h2 : 0 < G.m v * w.1 := Int.mul_pos h hw
  have h3 : 0 < v.1 * G.m w := by rw [Int.mul_comm]; omega
  exact pos_of_mul hv h3
theorem at_up (ha : 0 < G.a) (hv : 0 < v.1) (hw : 0 < w.1) (hc : 0 ≤ w.2 * v.1 - v.2 * w.1) (h : 0 ≤ G.m v) (hp : 0 < G.at v) : 0 < G.at w := by
  have h1 := m_mono ha hc
  have h2 : 0 ≤ G.m v * w.1 := Int.mul_nonneg h (by omega)
  have h3 := sq_le h2 h1
  have h4 := cross_at G v w
  have h5 : 0 ≤ G.at w * (v.1 * v.1) - G.at v * (w.1 * w.1) := by
    rcases Int.lt_or_le (G.at w * (v.1 * v.1) - G.at v * (w.1 * w.1)) 0 with z | z
    · have := Int.mul_neg_of_pos_of_neg (show 0 < 4 * G.a by omega) z
      omega
    · exact z
  have h6 : 0 < G.at v * (w.1 * w.1) := Int.mul_pos hp (Int.mul_pos hw hw)
  exact pos_of_mul (Int.mul_pos hv hv) (by rw [Int.mul_comm]; omega)
theorem at_down (ha : 0 < G.a) (hv : 0 < v.1) (hw : 0 < w.1) (hc : 0 ≤ w.2 * v.1 - v.2 * w.1) (h : G.m w ≤ 0) (hp : G.at v < 0) : G.at w < 0 := by
  have h1 := m_mono ha hc
  have h2 : G.m w * v.1 ≤ 0 := Int.mul_nonpos_of_nonpos_of_nonneg h (by omega)
  have h3 := sq_le' h2 h1
  have h4 := cross_at G v w
  have h5 : G.at w * (v.1 * v.1) - G.at v * (w.1 * w.1) ≤ 0 := by
    rcases Int.lt_or_le 0 (G.at w * (v.1 * v.1) - G.at v * (w.1 * w.1)) with z | z
    · have := Int.mul_pos (show 0 < 4 * G.a by omega) z
      omega
    · exact z
  have h6 : G.at v * (w.1 * w.1) < 0 := Int.mul_neg_of_neg_of_pos hp (Int.mul_pos hw hw)
  exact neg_of_mul (Int.mul_pos hv hv) (by rw [Int.mul_comm]; omega)
theorem crit_up {g : Prop} (ha : 0 < G.a) (hv : 0 < v.1) (hw : 0 < w.1) (hc : 0 ≤ w.2 * v.1 - v.2 * w.1) (h : Crit g G v) : Crit g G w := by
  rcases h with ⟨h1, h2, h3⟩ | ⟨h1, h2 | h2⟩
  · exact .inl ⟨h1, m_pos ha hv hw hc h2, at_up ha hv hw hc (Int.le_of_lt h2) h3⟩
  · exact .inr ⟨h1, .inl (m_pos ha hv hw hc h2)⟩
  · refine .inr ⟨h1, ?_⟩
    rcases Int.lt_or_le 0 (G.m w) with z | z
    · exact .inl z
    · exact .inr (at_down ha hv hw hc z h2)
end
/-- the facts of a head's machine, a period's machine and the equation in lowest terms -/
structure Setup (h p : Wd) (G : Eqn) (s : Int) : Prop where
  ha : false ∈ p
  hb : true ∈ p
  pos : 0 < G.a
  ne : s ≠ 0
  eq : eqn (mat h) (mat p) = Eqn.smul s G
section
variable {h p : Wd} {G : Eqn} {s : Int}
theorem Setup.at (S : Setup h p G s) (v : Int × Int) : F0 (mat p) (ivec h v) = s * G.at v := by
  rw [← eqn_at, S.eq, smul_at]
/-- the cone's lower and upper border -/
def lo (h : Wd) : Int × Int := ((mat h).d, (mat h).b)
def up (h : Wd) : Int × Int := ((mat h).c, (mat h).a)
theorem ivec_lo (h : Wd) : ivec h (lo h) = (1, 0) := by
  rw [ivec_mat]
  have := mat_det h
  simp only [lo]
  ext
  · show _ - _ = (1 : Int); grind
  · show _ - _ = (0 : Int); grind
theorem ivec_up (h : Wd) : ivec h (up h) = (0, 1) := by
  rw [ivec_mat]
  have := mat_det h
  simp only [up]
  ext
  · show _ - _ = (0 : Int); grind
  · show _ - _ = (1 : Int); grind
theorem Setup.at_lo (S : Setup h p G s) : s * G.at (lo h) < 0 := by
  rw [← S.at, ivec_lo]
  have := mat_b p S.hb
  simp only [F0]
  omega
theorem Setup.at_up (S : Setup h p G s) : 0 < s * G.at (up h) := by
  rw [← S.at, ivec_up]
  have := mat_c p S.ha
  simp only [F0]
  omega
/-- a slant's place by the cone's borders -/
theorem cross_lo (h : Wd) (v : Int × Int) : v.2 * (lo h).1 - (lo h).2 * v.1 = (ivec h v).2 := by
  rw [ivec_mat]; simp only [lo]; grind
theorem cross_up (h : Wd) (v : Int × Int) : (up h).2 * v.1 - v.2 * (up h).1 = (ivec h v).1 := by
  rw [ivec_mat]; simp only [up]; grind
theorem Setup.up_pos (S : Setup h p G s) (hs : s < 0) : 0 < (up h).1 := by
  have nn := mat_nn h
  rcases Int.lt_or_le 0 (up h).1 with z | z
  · exact z
  · have e : (up h).1 = 0 := by simp only [up] at z ⊢; omega
    have h1 := S.at_up
    have h2 : G.at (up h) = G.a * (up h).2 * (up h).2 := by simp only [Eqn.at, e]; grind
    have h3 : 0 ≤ G.a * (up h).2 * (up h).2 := by
      rw [Int.mul_assoc]
      exact Int.mul_nonneg (Int.le_of_lt S.pos) (by have := sq_le (x := 0) (y := (up h).2) (by omega) (by simp only [up]; omega); simpa using this)
    have := Int.mul_nonpos_of_nonpos_of_nonneg (Int.le_of_lt hs) h3
    rw [h2] at h1
    omega
/-- on the cone the criterion is the sign -/
theorem Setup.cone (S : Setup h p G s) {v : Int × Int} (hv : 0 < v.1) (h0 : 0 ≤ (ivec h v).1) (h1 : 0 ≤ (ivec h v).2) : Crit (0 < s) G v ↔ 0 < s * G.at v := by
  have lp : 0 < (lo h).1 := by have := mat_nn h; simp only [lo]; omega
  have c1 := cross_lo h v
  have c2 := cross_up h v
  have l := S.at_lo
  rcases Int.lt_or_le 0 s with hs | hs
  · have e : ∀ x, 0 < s * x ↔ 0 < x := fun x => ⟨fun z => pos_of_mul hs z, fun z => Int.mul_pos hs z⟩
    rw [e]
    have l' : G.at (lo h) < 0 := neg_of_mul hs l
    constructor
    · rintro (⟨_, _, z⟩ | ⟨z, _⟩)
      · exact z
      · exact absurd hs z
    · intro z
      refine .inl ⟨hs, ?_, z⟩
      rcases Int.lt_or_le 0 (G.m v) with y | y
      · exact y
      · have := at_down S.pos lp hv (by omega) y l'
        omega
  · have hs : s < 0 := by have := S.ne; omega
    have e : ∀ x, 0 < s * x ↔ x < 0 := fun x => ⟨fun z => by
      have : 0 < (-s) * (-x) := by rw [Int.neg_mul_neg]; exact z
      have := pos_of_mul (by omega) this
      omega, fun z => by have := Int.mul_pos (show 0 < -s by omega) (show 0 < -x by omega); rwa [Int.neg_mul_neg] at this⟩
    rw [e]
    have u' : G.at (up h) < 0 := (e _).mp S.at_up
    have up := S.up_pos hs
    constructor
    · rintro (⟨z, _⟩ | ⟨_, z | z⟩)
      · omega
      · rcases Int.lt_or_le (G.at v) 0 with y | y
        · exact y
        · rcases Int.lt_or_le 0 (G.at v) with y2 | y2
          · have := Lim.at_up S.pos hv up (by omega) (Int.le_of_lt z) y2
            omega
          · -- at v = 0 : m up > 0 and at grows
            have e0 : G.at v = 0 := by omega
            have k := cross_at G v (Lim.up h)
            have k1 := m_mono (G := G) S.pos (v := v) (w := Lim.up h) (by omega)
            have k2 : 0 ≤ G.m v * (Lim.up h).1 := Int.mul_nonneg (Int.le_of_lt z) (Int.le_of_lt up)
            have k3 := sq_le k2 k1
            rw [e0, Int.zero_mul, Int.sub_zero] at k
            have k4 : G.at (Lim.up h) * (v.1 * v.1) < 0 := Int.mul_neg_of_neg_of_pos u' (Int.mul_pos hv hv)
            have k5 := Int.mul_neg_of_pos_of_neg (show 0 < 4 * G.a by have := S.pos; omega) k4
            omega
      · exact z
    · intro z
      exact .inr ⟨by omega, .inr z⟩
theorem Setup.pr (S : Setup h p G s) {v : Int × Int} (hv : 0 < v.1) (hq : 0 ≤ v.2) : Crit (0 < s) G v ↔ Pr h p v := by
  have lp : 0 < (lo h).1 := by have := mat_nn h; simp only [lo]; omega
  have c1 := cross_lo h v
  have c2 := cross_up h v
  unfold Pr
  rcases Int.lt_or_le (ivec h v).1 0 with z1 | z1
  · -- above the cone
    have nn := mat_nn h
    have e := ivec_mat h v
    have up' : 0 < (up h).1 := by
      rcases Int.lt_or_le 0 (up h).1 with z | z
      · exact z
      · have e0 : (up h).1 = 0 := by simp only [up] at z ⊢; omega
        rw [e0, Int.mul_zero, Int.sub_zero] at c2
        have : 0 ≤ (up h).2 * v.1 := Int.mul_nonneg (by simp only [up]; omega) (Int.le_of_lt hv)
        omega
    have hu : Crit (0 < s) G (up h) := (S.cone up' (by rw [ivec_up]; decide) (by rw [ivec_up]; decide)).mpr S.at_up
    exact ⟨fun _ => .inl z1, fun _ => crit_up S.pos up' hv (by omega) hu⟩
  · rcases Int.lt_or_le (ivec h v).2 0 with z2 | z2
    · constructor
      · intro hc
        have hl := crit_up S.pos hv lp (w := lo h) (by omega) hc
        have := (S.cone lp (by rw [ivec_lo]; decide) (by rw [ivec_lo]; decide)).mp hl
        have := S.at_lo
        omega
      · rintro (z | z) <;> omega
    · rw [S.cone hv z1 z2, S.at v]
      constructor
      · intro z; exact .inr ⟨z2, z⟩
      · rintro (z | z)
        · omega
        · exact z.2
/-- the sign that limit_of tells: v the mean of the two roots -/
theorem Setup.mean (S : Setup h p G s) (hd : 0 < G.disc) {v : Int × Int} (hv : 0 < v.1) (hq : 0 ≤ v.2) (hm : G.m v = 0) : Pr h p v ↔ ¬ 0 < s := by
  rw [← S.pr hv hq]
  have k := four_at G v
  rw [hm] at k
  have k1 : 0 < G.disc * (v.1 * v.1) := Int.mul_pos hd (Int.mul_pos hv hv)
  have k2 : G.at v < 0 := neg_of_mul (show 0 < 4 * G.a by have := S.pos; omega) (by omega)
  constructor
  · rintro (⟨_, z, _⟩ | ⟨z, _⟩)
    · omega
    · exact z
  · intro z
    exact .inr ⟨z, .inr k2⟩
theorem Setup.no_mean (S : Setup h p G s) (hb : 0 ≤ G.b) : 0 < s := by
  rcases Int.lt_or_le 0 s with hs | hs
  · exact hs
  · have hs : s < 0 := by have := S.ne; omega
    have u' : G.at (up h) < 0 := by
      have := S.at_up
      have : 0 < (-s) * (-(G.at (up h))) := by rw [Int.neg_mul_neg]; exact this
      have := pos_of_mul (by omega) this
      omega
    have l' : 0 < G.at (lo h) := by
      have := S.at_lo
      have : 0 < (-s) * (G.at (lo h)) := by rw [Int.neg_mul]; omega
      exact pos_of_mul (by omega) this
    have up' := S.up_pos hs
    have nn := mat_nn h
    have lp : 0 < (lo h).1 := by simp only [lo]; omega
    have hm : 0 ≤ G.m (lo h) := by
      simp only [Eqn.m]
      have h1 : 0 ≤ 2 * G.a * (lo h).2 := Int.mul_nonneg (by have := S.pos; omega) (by simp only [lo]; omega)
      have h2 : 0 ≤ G.b * (lo h).1 := Int.mul_nonneg hb (by omega)
      omega
    have := Lim.at_up S.pos lp up' (by rw [cross_lo, ivec_up]; decide) hm l'
    omega
end
end Lim
end

section
set_option Elab.async false
set_option linter.all false
set_option maxRecDepth 100000
set_option maxHeartbeats 4000000
/-! # One-letter tails; periods; the short form -/
namespace Lim
def cross (v t : Int × Int) : Int := v.2 * t.1 - t.2 * v.1
def actw : Wd → Int × Int → Int × Int
  | [], t => t
  | x :: k, t => act x (actw k t)
theorem cross_iact (x : Bool) (v t : Int × Int) : cross (iact x v) t = cross v (act x t) := by
  cases x <;> (simp only [cross, iact, act]; grind)
theorem cross_ivec : ∀ (k : Wd) (v t : Int × Int), cross (ivec k v) t = cross v (actw k t)
  | [], v, t => rfl
  | x :: k, v, t => by
    show cross (ivec k (iact x v)) t = cross v (act x (actw k t))
    rw [cross_ivec k, cross_iact]
theorem tail_above {k : Wd} {ω : Om} {t : Int × Int} (h1 : 0 ≤ t.1) (h2 : 0 ≤ t.2) (h3 : 1 ≤ t.1 + t.2) (hb : ∀ s, Bey s ω ↔ 0 < cross (vec s) t) (s : Sla) : Bey s (app k ω) ↔ 0 < cross (vec s) (actw k t) := by
  rw [← cross_ivec]
  rcases heads k ω s with ⟨s', g1, g2⟩ | ⟨g1, g2⟩ | ⟨g1, g2⟩
  · rw [g2, hb, ← g1]
  · constructor
    · intro z; exact absurd z g2
    · intro z
      have k1 : (ivec k (vec s)).2 * t.1 ≤ 0 := Int.mul_nonpos_of_nonpos_of_nonneg (by have := g1.1; omega) h1
      have k2 : 0 ≤ t.2 * (ivec k (vec s)).1 := Int.mul_nonneg h2 (by have := g1.2; omega)
      simp only [cross] at z
      omega
  · refine ⟨fun _ => ?_, fun _ => g2⟩
    simp only [cross]
    have k1 : 0 ≤ (ivec k (vec s)).2 * t.1 := Int.mul_nonneg (by have := g1.2; omega) h1
    have k2 : t.2 * (ivec k (vec s)).1 ≤ 0 := Int.mul_nonpos_of_nonneg_of_nonpos h2 (by have := g1.1; omega)
    rcases Int.lt_or_le 0 t.1 with z | z
    · have := Int.mul_pos g1.2 z
      omega
    · have := Int.mul_neg_of_pos_of_neg (show 0 < t.2 by omega) g1.1
      omega
def cst (x : Bool) : Om := fun _ => x
def tipOf : Bool → Int × Int
  | false => (1, 0)
  | true => (0, 1)
theorem beyW_a : ∀ v : Wd, BeyW v (cst false)
  | [] => ⟨rfl, fun h => by have := h 0; simp [cst] at this⟩
  | x :: v => by
    show (x = false ∧ BeyW v (cst false)) ∨ (x ≠ false ∧ x = true)
    cases x
    · exact .inl ⟨rfl, beyW_a v⟩
    · exact .inr ⟨by simp, rfl⟩
theorem beyW_b : ∀ v : Wd, ¬ BeyW v (cst true)
  | [] => fun h => by have := h.1; simp [cst] at this
  | x :: v => by
    show ¬ ((x = true ∧ BeyW v (cst true)) ∨ (x ≠ true ∧ x = true))
    rintro (⟨_, h⟩ | ⟨h, h2⟩)
    · exact beyW_b v h
    · exact h h2
theorem base_tail (x : Bool) (s : Sla) : Bey s (cst x) ↔ 0 < cross (vec s) (tipOf x) := by
  cases s with
  | east => cases x <;> simp [Bey, vec, cross, tipOf]
  | north => cases x <;> simp [Bey, vec, cross, tipOf, cst]
  | word v =>
    have := back_pos v
    cases x
    · simp only [Bey, vec, cross, tipOf]
      refine ⟨fun _ => by omega, fun _ => beyW_a v⟩
    · simp only [Bey, vec, cross, tipOf]
      refine ⟨fun h => absurd h (beyW_b v), fun h => by omega⟩
/-- the whole law of a slant limit -/
theorem bey_tail (k : Wd) (x : Bool) (s : Sla) : Bey s (app k (cst x)) ↔ 0 < cross (vec s) (actw k (tipOf x)) :=
  tail_above (by cases x <;> decide) (by cases x <;> decide) (by cases x <;> decide) (base_tail x) s
theorem actw_app : ∀ (k l : Wd) (t : Int × Int), actw (k ++ l) t = actw k (actw l t)
  | [], _, _ => rfl
  | x :: k, l, t => by
    show act x (actw (k ++ l) t) = _
    rw [actw_app k l t]; rfl
theorem actw_back : ∀ k : Wd, actw k (1, 1) = back k
  | [] => rfl
  | x :: k => by
    show act x (actw k (1, 1)) = act x (back k)
    rw [actw_back k]
theorem actw_tip (k : Wd) (x y : Bool) (h : y ≠ x) : actw (k ++ [y]) (tipOf x) = back k := by
  rw [actw_app, ← actw_back]
  congr 1
  cases x <;> cases y <;> first
    | rfl
    | exact absurd rfl h

/-! ## periods -/
def per (p : Wd) : Om := fun n => p.getD (n % p.length) false
def om (h p : Wd) : Om := app h (per p)
theorem app_lt : ∀ (w : Wd) (ω : Om) (n : Nat), n < w.length → app w ω n = w.getD n false
  | [], _, n, h => by simp at h
  | x :: w, ω, 0, h => rfl
  | x :: w, ω, n + 1, h => by
    show app w ω n = _
    rw [app_lt w ω n (by simpa using h)]
    rfl
theorem app_ge : ∀ (w : Wd) (ω : Om) (n : Nat), app w ω (n + w.length) = ω n
  | [], _, n => rfl
  | x :: w, ω, n => by
    show app w ω (n + w.length) = ω n
    exact app_ge w ω n
theorem app_app : ∀ (w u : Wd) (ω : Om), app (w ++ u) ω = app w (app u ω)
  | [], u, ω => rfl
  | x :: w, u, ω => by
    funext n
    cases n with
    | zero => rfl
    | succ n =>
      show app (w ++ u) ω n = app w (app u ω) n
      rw [app_app w u ω]
theorem per_add {p : Wd} (n : Nat) : per p (n + p.length) = per p n := by
  simp only [per, Nat.add_mod_right]
theorem per_lt {p : Wd} {n : Nat} (h : n < p.length) : per p n = p.getD n false := by
  simp only [per, Nat.mod_eq_of_lt h]
theorem om_ext {α β : Om} (w : Wd) (h1 : ∀ n, n < w.length → α n = β n) (h2 : ∀ n, α (n + w.length) = β (n + w.length)) : α = β := by
  funext n
  rcases Nat.lt_or_ge n w.length with z | z
  · exact h1 n z
  · have := h2 (n - w.length)
    rwa [Nat.sub_add_cancel z] at this
theorem app_per {p : Wd} : app p (per p) = per p := by
  refine om_ext p (fun n h => ?_) (fun n => ?_)
  · rw [app_lt _ _ _ h, per_lt h]
  · rw [app_ge, per_add]
/-- α repeats with the period d -/
def Rep (α : Om) (d : Nat) : Prop := ∀ n, α (n + d) = α n
theorem Rep.mul {α : Om} {d : Nat} (h : Rep α d) : ∀ k n, α (n + k * d) = α n
  | 0, n => by simp
  | k + 1, n => by
    have : n + (k + 1) * d = (n + k * d) + d := by rw [Nat.succ_mul]; omega
    rw [this, h, h.mul k]
theorem Rep.gcd {α : Om} : ∀ (a b : Nat), Rep α a → Rep α b → Rep α (Nat.gcd a b) := by
  intro a b
  induction a, b using Nat.gcd.induction with
  | H0 n => intro _ h; simpa using h
  | H1 m n hm ih =>
    intro h1 h2
    rw [Nat.gcd_rec]
    refine ih ?_ h1
    intro k
    have e : k + n = (k + n % m) + (n / m) * m := by
      have := Nat.mod_add_div n m
      rw [Nat.mul_comm] at this
      omega
    have := h2 k
    rw [e, h1.mul] at this
    exact this
def Prim (p : Wd) : Prop := ∀ g, 0 < g → g ∣ p.length → Rep (per p) g → g = p.length
structure Short (h p : Wd) : Prop where
  ne : p ≠ []
  prim : Prim p
  last : h.getLast? ≠ p.getLast?
theorem om_ge (h p : Wd) (n : Nat) : om h p (n + h.length) = per p n := app_ge _ _ _
theorem om_rep (h p : Wd) {n : Nat} (hn : h.length ≤ n) : om h p (n + p.length) = om h p n := by
  have e1 : n + p.length = (n - h.length + p.length) + h.length := by omega
  have e2 : n = (n - h.length) + h.length := by omega
  rw [e1, om_ge, per_add]
  conv => rhs; rw [e2, om_ge]
theorem prim_len {h p : Wd} {h' p' : Wd} (S : Short h p) (S' : Short h' p') (e : om h p = om h' p') : p.length = Nat.gcd p.length p'.length := by
  have l1 : 0 < p.length := List.length_pos_iff.mpr S.ne
  have l2 : 0 < p'.length := List.length_pos_iff.mpr S'.ne
  have r1 : Rep (fun n => om h p (n + (h.length + h'.length))) p.length := fun n => by
    have := om_rep h p (n := n + (h.length + h'.length)) (by omega)
    show om h p (n + p.length + (h.length + h'.length)) = om h p (n + (h.length + h'.length))
    rw [← this]
    congr 1
    omega
  have r2 : Rep (fun n => om h p (n + (h.length + h'.length))) p'.length := fun n => by
    have := om_rep h' p' (n := n + (h.length + h'.length)) (by omega)
    rw [← e] at this
    show om h p (n + p'.length + (h.length + h'.length)) = om h p (n + (h.length + h'.length))
    rw [← this]
    congr 1
    omega
  have r := Rep.gcd _ _ r1 r2
  refine (S.prim _ (Nat.gcd_pos_of_pos_left _ l1) (Nat.gcd_dvd_left _ _) fun n => ?_).symm
  -- move n up by whole periods
  have mv : ∀ n, per p n = om h p (n + h'.length * p.length + h.length) := fun n => by
    rw [om_ge]
    exact (Rep.mul (α := per p) (fun n => per_add n) _ _).symm
  have big : h'.length ≤ h'.length * p.length := Nat.le_mul_of_pos_right _ l1
  rw [mv n, mv (n + _)]
  have := r (n + h'.length * p.length - h'.length)
  have e1 : n + h'.length * p.length - h'.length + Nat.gcd p.length p'.length + (h.length + h'.length) = n + Nat.gcd p.length p'.length + h'.length * p.length + h.length := by omega
  have e2 : n + h'.length * p.length - h'.length + (h.length + h'.length) = n + h'.length * p.length + h.length := by omega
  simp only at this
  rw [e1, e2] at this
  exact this
theorem getD_last {w : Wd} (h : w ≠ []) : w.getLast? = some (w.getD (w.length - 1) false) := by
  have hl : 0 < w.length := List.length_pos_iff.mpr h
  rw [List.getLast?_eq_getElem?]
  rw [List.getElem?_eq_getElem (by omega), List.getD_eq_getElem?_getD, List.getElem?_eq_getElem (by omega)]
  rfl
theorem head_le {h p h' p' : Wd} (S : Short h p) (S' : Short h' p') (e : om h p = om h' p') (el : p.length = p'.length) : h'.length ≤ h.length := by
  rcases Nat.lt_or_ge h.length h'.length with z | z
  · exfalso
    have l2 : 0 < p'.length := List.length_pos_iff.mpr S'.ne
    have hne : h' ≠ [] := fun q => by rw [q] at z; simp at z
    apply S'.last
    rw [getD_last hne, getD_last S'.ne]
    have a1 : om h' p' (h'.length - 1) = h'.getD (h'.length - 1) false := app_lt _ _ _ (by omega)
    have a2 : om h' p' (h'.length - 1 + p'.length) = p'.getD (p'.length - 1) false := by
      have : h'.length - 1 + p'.length = (p'.length - 1) + h'.length := by omega
      rw [this, om_ge, per_lt (by omega)]
    have a3 := om_rep h p (n := h'.length - 1) (by omega)
    rw [e, el, a2, a1] at a3
    rw [a3]
  · exact z
theorem ext_getD {u w : Wd} (hl : u.length = w.length) (h : ∀ n, n < u.length → u.getD n false = w.getD n false) : u = w := by
  apply List.ext_getElem hl
  intro n h1 h2
  have := h n h1
  rw [List.getD_eq_getElem?_getD, List.getD_eq_getElem?_getD, List.getElem?_eq_getElem h1, List.getElem?_eq_getElem h2] at this
  exact this
/-- same head and period lengths and the same word -/
theorem om_inj {h p h' p' : Wd} (hl : h.length = h'.length) (pl : p.length = p'.length) (e : om h p = om h' p') : h = h' ∧ p = p' := by
  constructor
  · refine ext_getD hl fun n hn => ?_
    have a1 : om h p n = h.getD n false := app_lt _ _ _ hn
    have a2 : om h' p' n = h'.getD n false := app_lt _ _ _ (by omega)
    rw [← a1, ← a2, e]
  · refine ext_getD pl fun n hn => ?_
    have a1 := om_ge h p n
    have a2 := om_ge h' p' n
    rw [← hl, ← e, a1, per_lt hn, per_lt (by omega)] at a2
    exact a2
theorem short_unique {h p h' p' : Wd} (S : Short h p) (S' : Short h' p') (e : om h p = om h' p') : h = h' ∧ p = p' := by
  have el : p.length = p'.length := by
    have h1 := prim_len S S' e
    have h2 := prim_len S' S e.symm
    rw [Nat.gcd_comm] at h2
    omega
  exact om_inj (Nat.le_antisymm (head_le S' S e.symm el.symm) (head_le S S' e el)) el e
end Lim
end

section
set_option Elab.async false
set_option linter.all false
set_option maxRecDepth 100000
set_option maxHeartbeats 4000000
/-! # The equation belongs to the word; lowest terms -/
namespace Lim
theorem eqn_ext {G G' : Eqn} (h : ∀ v, G.at v = G'.at v) : G = G' := by
  have h1 := h (0, 1)
  have h2 := h (1, 0)
  have h3 := h (1, 1)
  obtain ⟨a, b, c⟩ := G
  obtain ⟨a', b', c'⟩ := G'
  simp only [Eqn.at] at h1 h2 h3
  have e1 : a = a' := by omega
  have e2 : c = c' := by omega
  have e3 : b = b' := by omega
  rw [e1, e2, e3]
def eq2 (h p : Wd) : Eqn := eqn (mat h) (mat p)
theorem eq2_at (h p : Wd) (v : Int × Int) : (eq2 h p).at v = cross (ivec p (ivec h v)) (ivec h v) := by
  unfold eq2
  rw [eqn_at, F0_cross]
  simp only [cross]
  grind
theorem ivec_app : ∀ (k l : Wd) (v : Int × Int), ivec (k ++ l) v = ivec l (ivec k v)
  | [], _, _ => rfl
  | x :: k, l, v => by
    show ivec (k ++ l) (iact x v) = _
    rw [ivec_app k l]; rfl
theorem cross_same (x : Bool) (v t : Int × Int) : cross (iact x v) (iact x t) = cross v t := by
  cases x <;> (simp only [cross, iact]; grind)
theorem eq2_rot (h p : Wd) (x : Bool) : eq2 (h ++ [x]) (p ++ [x]) = eq2 h (x :: p) := by
  refine eqn_ext fun v => ?_
  rw [eq2_at, eq2_at, ivec_app, ivec_app]
  exact cross_same x _ _
theorem om_rot (h p : Wd) (x : Bool) : om (h ++ [x]) (p ++ [x]) = om h (x :: p) := by
  unfold om
  rw [app_app]
  congr 1
  -- x p x p ..
  have e : app (x :: p) (per (x :: p)) = per (x :: p) := app_per
  refine om_ext [x] (fun n hn => ?_) (fun n => ?_)
  · have : n = 0 := by simpa using hn
    subst this
    show x = (x :: p).getD (0 % (p.length + 1)) false
    simp
  · rw [app_ge]
    show per (p ++ [x]) n = per (x :: p) (n + 1)
    simp only [per, List.length_append, List.length_cons, List.length_nil, Nat.zero_add]
    have hlt := Nat.mod_lt n (show 0 < p.length + 1 by omega)
    have hm : (n + 1) % (p.length + 1) = if n % (p.length + 1) + 1 = p.length + 1 then 0 else n % (p.length + 1) + 1 := by
      by_cases z : n % (p.length + 1) + 1 = p.length + 1
      · rw [if_pos z, Nat.add_mod]
        rcases Nat.eq_zero_or_pos p.length with q | q
        · rw [q]; exact Nat.mod_one _
        · rw [Nat.mod_eq_of_lt (show 1 < p.length + 1 by omega), z, Nat.mod_self]
      · rw [if_neg z, Nat.add_mod]
        have : n % (p.length + 1) + 1 < p.length + 1 := by omega
        rcases Nat.eq_zero_or_pos p.length with q | q
        · rw [q] at this; omega
        · rw [Nat.mod_eq_of_lt (show 1 < p.length + 1 by omega), Nat.mod_eq_of_lt this]
    rw [hm]
    by_cases z : n % (p.length + 1) + 1 = p.length + 1
    · rw [if_pos z]
      have z' : n % (p.length + 1) = p.length := by omega
      rw [z', List.getD_eq_getElem?_getD, List.getElem?_append_right (Nat.le_refl _)]
      simp
    · rw [if_neg z, List.getD_eq_getElem?_getD, List.getElem?_append_left (by omega), List.getD_eq_getElem?_getD, List.getElem?_cons_succ]
/-- whole letters are turned into the head -/
theorem rot_many : ∀ (u h p : Wd), eq2 (h ++ u) (p ++ u) = eq2 h (u ++ p) ∧ om (h ++ u) (p ++ u) = om h (u ++ p)
  | [], h, p => by simp
  | x :: u, h, p => by
    have e1 : h ++ x :: u = (h ++ [x]) ++ u := by simp
    have e2 : p ++ x :: u = (p ++ [x]) ++ u := by simp
    rw [e1, e2]
    have := rot_many u (h ++ [x]) (p ++ [x])
    have e3 : u ++ (p ++ [x]) = (u ++ p) ++ [x] := by simp
    rw [e3, eq2_rot, om_rot] at this
    exact this
/-! ## powers of the period -/
def pw (p : Wd) : Nat → Wd
  | 0 => []
  | n + 1 => p ++ pw p n
theorem pw_len (p : Wd) : ∀ n, (pw p n).length = n * p.length
  | 0 => by simp [pw]
  | n + 1 => by simp only [pw, List.length_append, pw_len p n, Nat.succ_mul]; omega
theorem ivec_cay (p : Wd) (v : Int × Int) : ivec p (ivec p v) = (((mat p).a + (mat p).d) * (ivec p v).1 - v.1, ((mat p).a + (mat p).d) * (ivec p v).2 - v.2) := by
  rw [ivec_mat p (ivec p v), ivec_mat p v]
  have := mat_det p
  ext
  · grind
  · grind
theorem pw_ivec (p : Wd) : ∀ n, ∃ l m : Int, 0 ≤ m ∧ m < l ∧ ∀ v, ivec (pw p (n + 1)) v = (l * (ivec p v).1 - m * v.1, l * (ivec p v).2 - m * v.2)
  | 0 => ⟨1, 0, by decide, by decide, fun v => by simp [pw, ivec_app, ivec]⟩
  | n + 1 => by
    obtain ⟨l, m, h0, h1, h2⟩ := pw_ivec p n
    have nn := mat_nn p
    refine ⟨l * ((mat p).a + (mat p).d) - m, l, by omega, ?_, fun v => ?_⟩
    · have : 0 ≤ l * ((mat p).a + (mat p).d - 2) := Int.mul_nonneg (by omega) (by omega)
      have e : l * ((mat p).a + (mat p).d - 2) = l * ((mat p).a + (mat p).d) - 2 * l := by grind
      omega
    · show ivec (p ++ pw p (n + 1)) v = _
      rw [ivec_app, h2, ivec_cay]
      ext
      · simp only; grind
      · simp only; grind
theorem eq2_pw (h p : Wd) (n : Nat) : ∃ l : Int, 0 < l ∧ eq2 h (pw p (n + 1)) = Eqn.smul l (eq2 h p) := by
  obtain ⟨l, m, h0, h1, h2⟩ := pw_ivec p n
  refine ⟨l, by omega, eqn_ext fun v => ?_⟩
  rw [smul_at, eq2_at, eq2_at, h2]
  simp only [cross]
  grind
theorem app_pw (p : Wd) : ∀ n, app (pw p n) (per p) = per p
  | 0 => rfl
  | n + 1 => by
    show app (p ++ pw p n) (per p) = per p
    rw [app_app, app_pw p n, app_per]
theorem rep_app {p : Wd} {α : Om} (hp : p ≠ []) (h : app p α = α) : α = per p := by
  have hl : 0 < p.length := List.length_pos_iff.mpr hp
  have r : Rep α p.length := fun n => by
    have := app_ge p α n
    rw [h] at this
    exact this
  funext n
  have e : n = n % p.length + (n / p.length) * p.length := by
    have := Nat.mod_add_div n p.length
    rw [Nat.mul_comm] at this
    omega
  have h1 : α n = α (n % p.length) := by
    conv => lhs; rw [e]
    exact r.mul _ _
  rw [h1]
  have lt := Nat.mod_lt n hl
  have := app_lt p α (n % p.length) lt
  rw [h] at this
  rw [this]
  rfl
theorem per_pw (p : Wd) (hp : p ≠ []) (n : Nat) : per (pw p (n + 1)) = per p :=
  (rep_app (fun z => hp (by
    have := congrArg List.length z
    rw [pw_len] at this
    rw [Nat.succ_mul] at this
    simp only [List.length_nil] at this
    exact List.length_eq_zero_iff.mp (by omega))) (app_pw p (n + 1))).symm
theorem om_pw (h p : Wd) (hp : p ≠ []) (n : Nat) : om h (pw p (n + 1)) = om h p := by unfold om; rw [per_pw p hp]
/-! ## the word tells the equation -/
/-- a further stretch of the word is put before the period -/
theorem pre_one (h p : Wd) (hp : p ≠ []) : ∃ x q, om h p = om (h ++ [x]) q ∧ eq2 h p = eq2 (h ++ [x]) q ∧ q.length = p.length := by
  cases p with
  | nil => exact absurd rfl hp
  | cons x p => exact ⟨x, p ++ [x], (om_rot h p x).symm, (eq2_rot h p x).symm, by simp⟩
theorem pre_many : ∀ (n : Nat) (h p : Wd), p ≠ [] → ∃ k q, om h p = om k q ∧ eq2 h p = eq2 k q ∧ k.length = h.length + n ∧ q.length = p.length
  | 0, h, p, _ => ⟨h, p, rfl, rfl, rfl, rfl⟩
  | n + 1, h, p, hp => by
    obtain ⟨x, q, e1, e2, e3⟩ := pre_one h p hp
    have hq : q ≠ [] := fun z => hp (List.length_eq_zero_iff.mp (by rw [← e3, z]; rfl))
    obtain ⟨k, r, f1, f2, f3, f4⟩ := pre_many n (h ++ [x]) q hq
    exact ⟨k, r, e1.trans f1, e2.trans f2, by rw [f3]; simp; omega, by rw [f4, e3]⟩
theorem eq2_of_om {h p h' p' : Wd} (hp : p ≠ []) (hp' : p' ≠ []) (e : om h p = om h' p') : ∃ l l' : Int, 0 < l ∧ 0 < l' ∧ Eqn.smul l (eq2 h p) = Eqn.smul l' (eq2 h' p') := by
  have l1 : 0 < p.length := List.length_pos_iff.mpr hp
  have l2 : 0 < p'.length := List.length_pos_iff.mpr hp'
  obtain ⟨n, hn⟩ : ∃ n, p'.length = n + 1 := ⟨p'.length - 1, by omega⟩
  obtain ⟨n', hn'⟩ : ∃ n, p.length = n + 1 := ⟨p.length - 1, by omega⟩
  obtain ⟨l, a1, a2⟩ := eq2_pw h p n
  obtain ⟨l', b1, b2⟩ := eq2_pw h' p' n'
  have ne1 : pw p (n + 1) ≠ [] := fun z => by
    have := congrArg List.length z
    rw [pw_len, Nat.succ_mul] at this
    simp only [List.length_nil] at this; omega
  have ne2 : pw p' (n' + 1) ≠ [] := fun z => by
    have := congrArg List.length z
    rw [pw_len, Nat.succ_mul] at this
    simp only [List.length_nil] at this; omega
  obtain ⟨k, q, c1, c2, c3, c4⟩ := pre_many h'.length h _ ne1
  obtain ⟨k', q', d1, d2, d3, d4⟩ := pre_many h.length h' _ ne2
  have eo : om k q = om k' q' := by rw [← c1, ← d1, om_pw h p hp, om_pw h' p' hp', e]
  have el : q.length = q'.length := by rw [c4, d4, pw_len, pw_len, ← hn, ← hn', Nat.mul_comm]
  obtain ⟨f1, f2⟩ := om_inj (by rw [c3, d3]; omega) el eo
  refine ⟨l, l', a1, b1, ?_⟩
  rw [← a2, ← b2, c2, d2, f1, f2]

/-! ## lowest terms -/
def g3 (G : Eqn) : Nat := Nat.gcd (Nat.gcd G.a.natAbs G.b.natAbs) G.c.natAbs
structure Low (G : Eqn) : Prop where
  pos : 0 < G.a
  one : g3 G = 1
theorem g3_smul (s : Int) (G : Eqn) : g3 (Eqn.smul s G) = s.natAbs * g3 G := by
  simp only [g3, Eqn.smul, Int.natAbs_mul, Nat.gcd_mul_left]
theorem low_unique {G G' : Eqn} {s s' : Int} (h : Low G) (h' : Low G') (hs : s ≠ 0) (e : Eqn.smul s G = Eqn.smul s' G') : G = G' := by
  have e1 : s.natAbs = s'.natAbs := by
    have := congrArg g3 e
    rw [g3_smul, g3_smul, h.one, h'.one] at this
    omega
  have ea : s * G.a = s' * G'.a := congrArg Eqn.a e
  have eb : s * G.b = s' * G'.b := congrArg Eqn.b e
  have ec : s * G.c = s' * G'.c := congrArg Eqn.c e
  have p1 := h.pos
  have p2 := h'.pos
  have : s = s' := by
    rcases Int.lt_or_le 0 s with z | z
    · have := Int.mul_pos z p1
      have : 0 < G'.a * s' := by rw [Int.mul_comm]; omega
      have := pos_of_mul p2 this
      omega
    · have z : s < 0 := by omega
      have := Int.mul_neg_of_neg_of_pos z p1
      have : G'.a * s' < 0 := by rw [Int.mul_comm]; omega
      have := neg_of_mul p2 this
      omega
  subst this
  have ga := Int.eq_of_mul_eq_mul_left hs ea
  have gb := Int.eq_of_mul_eq_mul_left hs eb
  have gc := Int.eq_of_mul_eq_mul_left hs ec
  obtain ⟨a, b, c⟩ := G
  obtain ⟨a', b', c'⟩ := G'
  simp only at ga gb gc
  rw [ga, gb, gc]
/-- as the program reckons it -/
def low (G : Eqn) : Eqn := let s : Int := if 0 < G.a then (g3 G : Int) else 0 - (g3 G : Int); ⟨G.a.fdiv s, G.b.fdiv s, G.c.fdiv s⟩
theorem fdiv_exact {x s : Int} (hs : s ≠ 0) (h : s ∣ x) : s * x.fdiv s = x := by
  obtain ⟨y, rfl⟩ := h
  rw [Int.mul_fdiv_cancel_left _ hs]
theorem low_ok {G : Eqn} (h : G.a ≠ 0) : Low (low G) ∧ ∃ s : Int, s ≠ 0 ∧ G = Eqn.smul s (low G) := by
  have gp : 0 < g3 G := Nat.gcd_pos_of_pos_left _ (Nat.gcd_pos_of_pos_left _ (Int.natAbs_pos.mpr h))
  have da : (g3 G : Int) ∣ G.a := Int.ofNat_dvd_left.mpr (Nat.dvd_trans (Nat.gcd_dvd_left _ _) (Nat.gcd_dvd_left _ _))
  have db : (g3 G : Int) ∣ G.b := Int.ofNat_dvd_left.mpr (Nat.dvd_trans (Nat.gcd_dvd_left _ _) (Nat.gcd_dvd_right _ _))
  have dc : (g3 G : Int) ∣ G.c := Int.ofNat_dvd_left.mpr (Nat.gcd_dvd_right _ _)
  have key : ∀ s : Int, s ≠ 0 → (s = (g3 G : Int) ∨ s = 0 - (g3 G : Int)) → 0 < G.a.fdiv s → Low ⟨G.a.fdiv s, G.b.fdiv s, G.c.fdiv s⟩ ∧ G = Eqn.smul s ⟨G.a.fdiv s, G.b.fdiv s, G.c.fdiv s⟩ := by
    intro s hs hg hpos
    have dv : ∀ x, (g3 G : Int) ∣ x → s ∣ x := fun x hx => by
      rcases hg with z | z
      · rw [z]; exact hx
      · rw [z, Int.zero_sub]; exact Int.neg_dvd.mpr hx
    have e : G = Eqn.smul s ⟨G.a.fdiv s, G.b.fdiv s, G.c.fdiv s⟩ := by
      simp only [Eqn.smul]
      rw [fdiv_exact hs (dv _ da), fdiv_exact hs (dv _ db), fdiv_exact hs (dv _ dc)]
    refine ⟨⟨hpos, ?_⟩, e⟩
    have e2 := congrArg g3 e
    rw [g3_smul] at e2
    have : s.natAbs = g3 G := by rcases hg with z | z <;> rw [z] <;> omega
    rw [this] at e2
    exact Nat.eq_of_mul_eq_mul_left gp (by rw [← e2, Nat.mul_one])
  simp only [low]
  by_cases hp : 0 < G.a
  · rw [if_pos hp]
    have hs : (g3 G : Int) ≠ 0 := by omega
    have := fdiv_exact hs da
    have := key _ hs (.inl rfl) (pos_of_mul (show 0 < (g3 G : Int) by omega) (by rw [this]; exact hp))
    exact ⟨this.1, _, hs, this.2⟩
  · rw [if_neg hp]
    have hs : (0 - (g3 G : Int)) ≠ 0 := by omega
    have e := fdiv_exact hs (by rw [Int.zero_sub]; exact Int.neg_dvd.mpr da)
    have h1 : 0 < (g3 G : Int) * G.a.fdiv (0 - (g3 G : Int)) := by
      have : (0 - (g3 G : Int)) * G.a.fdiv (0 - (g3 G : Int)) = - ((g3 G : Int) * G.a.fdiv (0 - (g3 G : Int))) := by rw [Int.zero_sub, Int.neg_mul]
      rw [this] at e
      have : G.a < 0 := by omega
      omega
    have := key _ hs (.inr rfl) (pos_of_mul (show 0 < (g3 G : Int) by omega) h1)
    exact ⟨this.1, _, hs, this.2⟩
theorem low_low {G : Eqn} (h : Low G) : low G = G := by
  obtain ⟨h1, s, hs, e⟩ := low_ok (G := G) (by have := h.pos; omega)
  have : Eqn.smul 1 G = Eqn.smul s (low G) := by rw [← e]; simp [Eqn.smul]
  exact (low_unique h h1 (by decide) this).symm
/-- lowest terms of two equations in proportion -/
theorem low_eq {G G' : Eqn} {s s' : Int} (h : G.a ≠ 0) (h' : G'.a ≠ 0) (hs : s ≠ 0) (hs' : s' ≠ 0) (e : Eqn.smul s G = Eqn.smul s' G') : low G = low G' := by
  obtain ⟨h1, t, ht, e1⟩ := low_ok h
  obtain ⟨h2, t', ht', e2⟩ := low_ok h'
  rw [e1, e2] at e
  have e : Eqn.smul (s * t) (low G) = Eqn.smul (s' * t') (low G') := by
    simp only [Eqn.smul, Eqn.mk.injEq] at e ⊢
    simp only [Int.mul_assoc]
    exact e
  exact low_unique h1 h2 (Int.mul_ne_zero hs ht) e
end Lim
end

section
set_option Elab.async false
set_option linter.all false
set_option maxRecDepth 100000
set_option maxHeartbeats 4000000
namespace Lim
/-! # Runs of letters -/
abbrev Rs := List (Bool × Nat)
def push : Rs → Bool → Nat → Rs
  | [], x, n => [(x, n)]
  | [r], x, n => if r.1 = x then [(x, r.2 + n)] else [r, (x, n)]
  | r :: s :: t, x, n => r :: push (s :: t) x n
def runs (w : Wd) : Rs := w.foldl (fun r x => push r x 1) []
def ex : Rs → Wd
  | [] => []
  | r :: t => List.replicate r.2 r.1 ++ ex t
theorem ex_app : ∀ a b : Rs, ex (a ++ b) = ex a ++ ex b
  | [], b => rfl
  | r :: a, b => by simp [ex, ex_app a b]
theorem push_app : ∀ (a : Rs) (r : Bool × Nat) (x : Bool) (n : Nat), push (a ++ [r]) x n = if r.1 = x then a ++ [(x, r.2 + n)] else a ++ [r, (x, n)]
  | [], r, x, n => by simp [push]
  | [s], r, x, n => by simp only [List.cons_append, List.nil_append, push]; split <;> rfl
  | s :: t :: a, r, x, n => by
    show s :: push ((t :: a) ++ [r]) x n = _
    rw [push_app (t :: a)]
    split <;> rfl
theorem snoc_cases (rs : Rs) : rs = [] ∨ ∃ a r, rs = a ++ [r] := by
  rcases List.eq_nil_or_concat rs with h | ⟨a, r, h⟩
  · exact .inl h
  · exact .inr ⟨a, r, by simpa using h⟩
theorem ex_push (rs : Rs) (x : Bool) (n : Nat) : ex (push rs x n) = ex rs ++ List.replicate n x := by
  rcases snoc_cases rs with h | ⟨a, r, h⟩
  · subst h; simp [push, ex]
  · subst h
    rw [push_app]
    split
    · rename_i e
      subst e
      simp [ex_app, ex, List.replicate_append_replicate]
    · simp [ex_app, ex]
theorem push_ne (rs : Rs) (x : Bool) (n : Nat) : push rs x n ≠ [] := by
  rcases snoc_cases rs with h | ⟨a, r, h⟩
  · subst h; simp [push]
  · subst h
    rw [push_app]
    split <;> simp
theorem push_push (rs : Rs) (x : Bool) (n m : Nat) : push (push rs x n) x m = push rs x (n + m) := by
  rcases snoc_cases rs with h | ⟨a, r, h⟩
  · subst h; simp [push]
  · subst h
    rw [push_app, push_app]
    split
    · rw [push_app, if_pos rfl, Nat.add_assoc]
    · have : a ++ [r, (x, n)] = (a ++ [r]) ++ [(x, n)] := by simp
      rw [this, push_app, if_pos rfl]
      simp
theorem runs_snoc (w : Wd) (x : Bool) : runs (w ++ [x]) = push (runs w) x 1 := by simp [runs]
theorem runs_rep (w : Wd) (x : Bool) : ∀ n : Nat, runs (w ++ List.replicate (n + 1) x) = push (runs w) x (n + 1)
  | 0 => by simpa using runs_snoc w x
  | n + 1 => by
    have : w ++ List.replicate (n + 1 + 1) x = (w ++ List.replicate (n + 1) x) ++ [x] := by
      rw [List.replicate_succ' (n := n + 1)]; simp
    rw [this, runs_snoc, runs_rep w x n, push_push]
theorem runs_reps (w : Wd) (x : Bool) {n : Nat} (h : 0 < n) : runs (w ++ List.replicate n x) = push (runs w) x n := by
  obtain ⟨k, rfl⟩ : ∃ k, n = k + 1 := ⟨n - 1, by omega⟩
  exact runs_rep w x k
theorem snoc_ind {P : Wd → Prop} (h0 : P []) (h1 : ∀ w x, P w → P (w ++ [x])) (w : Wd) : P w := by
  have : ∀ n (w : Wd), w.length = n → P w := by
    intro n
    induction n with
    | zero => intro w h; rw [List.length_eq_zero_iff.mp h]; exact h0
    | succ n ih =>
      intro w h
      rcases List.eq_nil_or_concat w with e | ⟨a, r, e⟩
      · rw [e] at h; simp at h
      · have e : w = a ++ [r] := by simpa using e
        subst e
        exact h1 a r (ih a (by simpa using h))
  exact this _ w rfl
theorem ex_runs (w : Wd) : ex (runs w) = w := by
  induction w using snoc_ind with
  | h0 => rfl
  | h1 w x ih => rw [runs_snoc, ex_push, ih]; rfl
/-- adjacent runs differ, no run is empty -/
def Can : Rs → Prop
  | [] => True
  | [r] => 1 ≤ r.2
  | r :: s :: t => 1 ≤ r.2 ∧ r.1 ≠ s.1 ∧ Can (s :: t)
theorem Can.app : ∀ {a : Rs} {r : Bool × Nat}, Can (a ++ [r]) ↔ Can a ∧ 1 ≤ r.2 ∧ ∀ b s, a = b ++ [s] → s.1 ≠ r.1
  | [], r => by simp [Can]
  | [s], r => by
    simp only [List.cons_append, List.nil_append, Can]
    constructor
    · rintro ⟨h1, h2, h3⟩
      refine ⟨h1, h3, fun b t e => ?_⟩
      cases b with
      | nil => simp at e; subst e; exact h2
      | cons u b => simp at e
    · rintro ⟨h1, h2, h3⟩
      exact ⟨h1, h3 [] s rfl, h2⟩
  | s :: t :: a, r => by
    show Can (s :: ((t :: a) ++ [r])) ↔ _
    have e : Can (s :: ((t :: a) ++ [r])) ↔ 1 ≤ s.2 ∧ s.1 ≠ t.1 ∧ Can ((t :: a) ++ [r]) := Iff.rfl
    rw [e, Can.app (a := t :: a)]
    constructor
    · rintro ⟨h1, h2, h3, h4, h5⟩
      refine ⟨⟨h1, h2, h3⟩, h4, fun b u z => ?_⟩
      cases b with
      | nil => simp at z
      | cons v b => exact h5 b u (by simpa using (List.cons.inj z).2)
    · rintro ⟨⟨h1, h2, h3⟩, h4, h5⟩
      exact ⟨h1, h2, h3, h4, fun b u z => h5 (s :: b) u (by rw [z]; rfl)⟩
theorem can_push {rs : Rs} (h : Can rs) (x : Bool) {n : Nat} (hn : 1 ≤ n) : Can (push rs x n) := by
  rcases snoc_cases rs with e | ⟨a, r, e⟩
  · subst e; simpa [push, Can] using hn
  · subst e
    rw [push_app]
    have h' := Can.app.mp h
    split
    · rename_i q
      subst q
      exact Can.app.mpr ⟨h'.1, by simp; omega, h'.2.2⟩
    · rename_i q
      have : a ++ [r, (x, n)] = (a ++ [r]) ++ [(x, n)] := by simp
      rw [this]
      refine Can.app.mpr ⟨h, hn, fun b s z => ?_⟩
      have := List.append_inj_right' z rfl
      simp at this
      subst this
      exact q
theorem can_runs (w : Wd) : Can (runs w) := by
  induction w using snoc_ind with
  | h0 => exact True.intro
  | h1 w x ih => rw [runs_snoc]; exact can_push ih x (Nat.le_refl 1)
theorem rs_ind {P : Rs → Prop} (h0 : P []) (h1 : ∀ w x, P w → P (w ++ [x])) (w : Rs) : P w := by
  have : ∀ n (w : Rs), w.length = n → P w := by
    intro n
    induction n with
    | zero => intro w h; rw [List.length_eq_zero_iff.mp h]; exact h0
    | succ n ih =>
      intro w h
      rcases List.eq_nil_or_concat w with e | ⟨a, r, e⟩
      · rw [e] at h; simp at h
      · have e : w = a ++ [r] := by simpa using e
        subst e
        exact h1 a r (ih a (by simpa using h))
  exact this _ w rfl
/-- runs are told by their letters -/
theorem runs_ex {rs : Rs} : Can rs → runs (ex rs) = rs := by
  induction rs using rs_ind with
  | h0 => intro _; rfl
  | h1 a r ih =>
    intro h
    obtain ⟨h1, h2, h3⟩ := Can.app.mp h
    rw [ex_app]
    show runs (ex a ++ (List.replicate r.2 r.1 ++ [])) = _
    rw [List.append_nil, runs_reps _ _ (by omega), ih h1]
    rcases snoc_cases a with e | ⟨b, s, e⟩
    · subst e; rfl
    · subst e
      rw [push_app, if_neg (h3 b s rfl)]
      simp
/-- runs_of's own step -/
def add (f : Rs) (r : Bool × Nat) : Rs := if 0 < r.2 then push f r.1 r.2 else f
theorem adds : ∀ (rs : Rs) (w : Wd), rs.foldl add (runs w) = runs (w ++ ex rs)
  | [], w => by simp [ex]
  | r :: rs, w => by
    show rs.foldl add (add (runs w) r) = runs (w ++ (List.replicate r.2 r.1 ++ ex rs))
    have : add (runs w) r = runs (w ++ List.replicate r.2 r.1) := by
      unfold add
      split
      · rename_i h; exact (runs_reps w r.1 h).symm
      · rename_i h
        have : r.2 = 0 := by omega
        rw [this]; simp
    rw [this, adds rs, List.append_assoc]
theorem adds_nil (rs : Rs) : rs.foldl add [] = runs (ex rs) := adds rs []
theorem runs_len_le (w : Wd) : (runs w).length ≤ w.length := by
  induction w using snoc_ind with
  | h0 => exact Nat.le_refl _
  | h1 w x ih =>
    rw [runs_snoc]
    rcases snoc_cases (runs w) with e | ⟨a, r, e⟩
    · rw [e]; simp [push]
    · rw [e] at ih ⊢
      rw [push_app]
      split <;> (simp at ih ⊢; omega)
theorem ex_len : ∀ rs : Rs, (ex rs).length = (rs.map (·.2)).sum
  | [] => rfl
  | r :: rs => by simp [ex, ex_len rs]
theorem run_le : ∀ {rs : Rs} {r : Bool × Nat}, r ∈ rs → r.2 ≤ (ex rs).length
  | [], _, h => by cases h
  | s :: rs, r, h => by
    simp only [ex, List.length_append, List.length_replicate]
    rcases List.mem_cons.mp h with e | e
    · subst e; omega
    · have := run_le e; omega
theorem Can.pos : ∀ {rs : Rs}, Can rs → ∀ r ∈ rs, 1 ≤ r.2
  | [], _, r, hr => by cases hr
  | [s], h, r, hr => by simp at hr; subst hr; exact h
  | s :: t :: a, h, r, hr => by
    rcases List.mem_cons.mp hr with e | e
    · subst e; exact h.1
    · exact Can.pos h.2.2 r e
end Lim
end

section
set_option Elab.async false
set_option linter.all false
set_option maxRecDepth 100000
set_option maxHeartbeats 4000000
namespace Lim
/-! # The root's facts -/
theorem trace_ge {p : Wd} (ha : false ∈ p) (hb : true ∈ p) : 3 ≤ (mat p).a + (mat p).d := by
  have d := mat_det p
  have n := mat_nn p
  have b1 := mat_b p hb
  have c1 := mat_c p ha
  have h1 : 1 ≤ (mat p).b * (mat p).c := by
    have := Int.mul_pos (show 0 < (mat p).b by omega) (show 0 < (mat p).c by omega)
    omega
  rcases Int.lt_or_le ((mat p).a + (mat p).d) 3 with z | z
  · exfalso
    have e1 : (mat p).a = 1 := by omega
    have e2 : (mat p).d = 1 := by omega
    rw [e1, e2] at d
    omega
  · exact z
theorem no_square {t r : Int} (ht : 3 ≤ t) : r * r ≠ t * t - 4 := by
  intro e
  have key : ∀ n : Int, 0 ≤ n → n * n = t * t - 4 → False := by
    intro n n0 e
    rcases Int.lt_or_le n t with z | z
    · have := sq_le (x := n) (y := t - 1) n0 (by omega)
      have e2 : (t - 1) * (t - 1) = t * t - 2 * t + 1 := by grind
      omega
    · have := sq_le (x := t) (y := n) (by omega) z
      omega
  rcases Int.lt_or_le r 0 with z | z
  · exact key (-r) (by omega) (by rw [Int.neg_mul_neg]; exact e)
  · exact key r z e
theorem root_facts {h p : Wd} (ha : false ∈ p) (hb : true ∈ p) : (eq2 h p).a ≠ 0 ∧ Low (low (eq2 h p)) ∧ 0 < (low (eq2 h p)).disc ∧ (∀ r : Int, r * r ≠ (low (eq2 h p)).disc) ∧ ∃ s, Setup h p (low (eq2 h p)) s := by
  have t3 := trace_ge ha hb
  have hd : (eq2 h p).disc = ((mat p).a + (mat p).d) * ((mat p).a + (mat p).d) - 4 := eqn_disc h p
  have hne : (eq2 h p).a ≠ 0 := by
    intro z
    apply no_square (r := (eq2 h p).b) t3
    rw [← hd]
    simp only [Eqn.disc, z]
    omega
  obtain ⟨lw, s, hs, e⟩ := low_ok hne
  have hd2 : s * s * (low (eq2 h p)).disc = ((mat p).a + (mat p).d) * ((mat p).a + (mat p).d) - 4 := by
    rw [← smul_disc, ← e, hd]
  have ss : 0 < s * s := by
    rcases Int.lt_or_le 0 s with z | z
    · exact Int.mul_pos z z
    · have := Int.mul_pos (show 0 < -s by omega) (show 0 < -s by omega)
      rwa [Int.neg_mul_neg] at this
  refine ⟨hne, lw, ?_, ?_, s, ⟨ha, hb, lw.pos, hs, e⟩⟩
  · apply pos_of_mul ss
    rw [hd2]
    have := sq_le (x := 3) (y := (mat p).a + (mat p).d) (by decide) t3
    omega
  · intro r er
    apply no_square (r := s * r) t3
    rw [← hd2, ← er]
    grind
/-- a letter ahead -/
def ahd : Bool → Eqn → Eqn
  | true, G => ⟨G.a, G.b - 2 * G.a, G.a - G.b + G.c⟩
  | false, G => ⟨G.a - G.b + G.c, G.b - 2 * G.c, G.c⟩
theorem ahd_at (x : Bool) (G : Eqn) (v : Int × Int) : (ahd x G).at v = G.at (iact x v) := by
  cases x <;> (simp only [ahd, Eqn.at, iact]; grind)
theorem eq2_ahead (x : Bool) (h p : Wd) : eq2 (x :: h) p = ahd x (eq2 h p) := by
  refine eqn_ext fun v => ?_
  rw [ahd_at, eq2_at, eq2_at]
  rfl
theorem ahd_smul (x : Bool) (s : Int) (G : Eqn) : ahd x (Eqn.smul s G) = Eqn.smul s (ahd x G) := by
  cases x <;> (simp only [ahd, Eqn.smul, Eqn.mk.injEq]; grind)
theorem smul_ne {s : Int} {G : Eqn} (h : (Eqn.smul s G).a ≠ 0) : G.a ≠ 0 := fun z => h (by simp [Eqn.smul, z])
theorem low_ahead {h p : Wd} (x : Bool) (ha : false ∈ p) (hb : true ∈ p) : (ahd x (low (eq2 h p))).a ≠ 0 ∧ low (eq2 (x :: h) p) = low (ahd x (low (eq2 h p))) := by
  obtain ⟨n1, _, _, _, s, S⟩ := root_facts (h := h) ha hb
  obtain ⟨n2, _⟩ := root_facts (h := x :: h) ha hb
  have e : eq2 h p = Eqn.smul s (low (eq2 h p)) := S.eq
  have e2 : eq2 (x :: h) p = Eqn.smul s (ahd x (low (eq2 h p))) := by rw [eq2_ahead, ← ahd_smul, ← e]
  have n3 : (ahd x (low (eq2 h p))).a ≠ 0 := smul_ne (by rw [← e2]; exact n2)
  refine ⟨n3, low_eq n2 n3 (s := 1) (s' := s) (by decide) S.ne ?_⟩
  rw [← e2]; simp [Eqn.smul]
/-- the letters exchanged -/
def sw (w : Wd) : Wd := w.map (!·)
def flip (v : Int × Int) : Int × Int := (v.2, v.1)
theorem ivec_sw : ∀ (w : Wd) (v : Int × Int), ivec (sw w) (flip v) = flip (ivec w v)
  | [], v => rfl
  | x :: w, v => by
    show ivec (sw w) (iact (!x) (flip v)) = flip (ivec w (iact x v))
    rw [← ivec_sw w]
    congr 1
    cases x <;> rfl
def rev3 (G : Eqn) : Eqn := ⟨G.c, G.b, G.a⟩
theorem eq2_sw (h p : Wd) : eq2 (sw h) (sw p) = Eqn.smul (-1) (rev3 (eq2 h p)) := by
  refine eqn_ext fun v => ?_
  have e1 : v = flip (flip v) := rfl
  have e2 : (rev3 (eq2 h p)).at v = (eq2 h p).at (flip v) := by simp only [rev3, Eqn.at, flip]; grind
  rw [smul_at, e2, eq2_at, eq2_at]
  conv => lhs; rw [e1]
  rw [ivec_sw, ivec_sw]
  simp only [cross, flip]
  grind
theorem low_sw {h p : Wd} (ha : false ∈ p) (hb : true ∈ p) : (rev3 (low (eq2 h p))).a ≠ 0 ∧ low (eq2 (sw h) (sw p)) = low (rev3 (low (eq2 h p))) := by
  obtain ⟨n1, _, _, _, s, S⟩ := root_facts (h := h) ha hb
  obtain ⟨n2, _⟩ := root_facts (h := sw h) (p := sw p) (List.mem_map.mpr ⟨true, hb, rfl⟩) (List.mem_map.mpr ⟨false, ha, rfl⟩)
  have e : eq2 h p = Eqn.smul s (low (eq2 h p)) := S.eq
  have e2 : eq2 (sw h) (sw p) = Eqn.smul (-s) (rev3 (low (eq2 h p))) := by
    rw [eq2_sw]
    conv => lhs; rw [e]
    simp only [rev3, Eqn.smul, Eqn.mk.injEq]
    grind
  have n3 : (rev3 (low (eq2 h p))).a ≠ 0 := smul_ne (by rw [← e2]; exact n2)
  refine ⟨n3, low_eq n2 n3 (s := 1) (s' := -s) (by decide) (by have := S.ne; omega) ?_⟩
  rw [← e2]; simp [Eqn.smul]
/-- the same word, the same equation -/
theorem low_om {h p h' p' : Wd} (hp : p ≠ []) (hp' : p' ≠ []) (e : om h p = om h' p') (n1 : (eq2 h p).a ≠ 0) (n2 : (eq2 h' p').a ≠ 0) : low (eq2 h p) = low (eq2 h' p') := by
  obtain ⟨l, l', h1, h2, h3⟩ := eq2_of_om hp hp' e
  exact low_eq n1 n2 (by omega) (by omega) h3
end Lim
end

section
set_option Elab.async false
set_option linter.all false
set_option maxRecDepth 100000
set_option maxHeartbeats 4000000
namespace Lim
/-! # The short form, by runs -/
theorem prim_transfer {h p h' p' : Wd} (hp : p ≠ []) (e : om h p = om h' p') (el : p.length = p'.length) (P : Prim p) : Prim p' := by
  intro g g0 gd r
  rw [← el] at gd ⊢
  refine P g g0 gd fun n => ?_
  have l1 : 0 < p.length := List.length_pos_iff.mpr hp
  have mv : ∀ n, per p n = per p' (n + h'.length * p.length + h.length - h'.length) := fun n => by
    have big : h'.length ≤ h'.length * p.length := Nat.le_mul_of_pos_right _ l1
    have a1 : per p n = om h p (n + h'.length * p.length + h.length) := by
      rw [om_ge]
      exact (Rep.mul (α := per p) (fun n => per_add n) _ _).symm
    have a2 := om_ge h' p' (n + h'.length * p.length + h.length - h'.length)
    rw [Nat.sub_add_cancel (by omega)] at a2
    rw [a1, e, a2]
  have big : h'.length ≤ h'.length * p.length := Nat.le_mul_of_pos_right _ l1
  rw [mv n, mv (n + g)]
  have := r (n + h'.length * p.length + h.length - h'.length)
  have e1 : n + h'.length * p.length + h.length - h'.length + g = n + g + h'.length * p.length + h.length - h'.length := by omega
  rw [e1] at this
  exact this
theorem Can.tail {r : Bool × Nat} {rs : Rs} (h : Can (r :: rs)) : Can rs := by
  cases rs with
  | nil => trivial
  | cons s t => exact h.2.2
theorem Can.take : ∀ {rs : Rs} (n : Nat), Can rs → Can (rs.take n)
  | _, 0, _ => by simp [Can]
  | [], _ + 1, _ => by simp [Can]
  | [r], n + 1, h => by simpa [Can] using h
  | r :: s :: t, 1, h => by simpa [Can] using h.1
  | r :: s :: t, n + 2, h => ⟨h.1, h.2.1, Can.take (rs := s :: t) (n + 1) h.2.2⟩
theorem Can.cat : ∀ {a b : Rs}, Can a → Can b → (∀ r s, a.getLast? = some r → b.head? = some s → r.1 ≠ s.1) → Can (a ++ b)
  | [], b, _, hb, _ => hb
  | [r], [], ha, _, _ => ha
  | [r], s :: b, ha, hb, h => ⟨ha, h r s rfl rfl, hb⟩
  | r :: t :: a, b, ha, hb, h => ⟨ha.1, ha.2.1, Can.cat (a := t :: a) ha.2.2 hb fun x y e1 e2 => h x y (by simpa using e1) e2⟩
theorem ex_head {rs : Rs} (h : Can rs) : (ex rs).head? = rs.head?.map (·.1) := by
  cases rs with
  | nil => rfl
  | cons r t =>
    have := Can.pos h r (by simp)
    obtain ⟨k, hk⟩ : ∃ k, r.2 = k + 1 := ⟨r.2 - 1, by omega⟩
    simp [ex, hk, List.replicate_succ]
theorem ex_last {rs : Rs} (h : Can rs) : (ex rs).getLast? = rs.getLast?.map (·.1) := by
  rcases snoc_cases rs with e | ⟨a, r, e⟩
  · subst e; rfl
  · subst e
    have := (Can.app.mp h).2.1
    obtain ⟨k, hk⟩ : ∃ k, r.2 = k + 1 := ⟨r.2 - 1, by omega⟩
    rw [ex_app]
    simp [ex, hk, List.replicate_succ']
theorem runs_cat {a b : Wd} (h : ∀ x y, a.getLast? = some x → b.head? = some y → x ≠ y) : runs (a ++ b) = runs a ++ runs b := by
  have c : Can (runs a ++ runs b) := by
    refine Can.cat (can_runs a) (can_runs b) fun r s e1 e2 => ?_
    have l := ex_last (can_runs a)
    have f := ex_head (can_runs b)
    rw [ex_runs, e1] at l
    rw [ex_runs, e2] at f
    exact h r.1 s.1 l f
  rw [← runs_ex c, ex_app, ex_runs, ex_runs]
/-- l taken k times -/
def rp {α : Type} (l : List α) (k : Nat) : List α := (List.replicate k l).flatten
theorem rp_succ {α : Type} (l : List α) (k : Nat) : rp l (k + 1) = l ++ rp l k := by simp [rp, List.replicate_succ]
theorem rp_len {α : Type} (l : List α) : ∀ k, (rp l k).length = k * l.length
  | 0 => by simp [rp]
  | k + 1 => by rw [rp_succ, List.length_append, rp_len l k, Nat.succ_mul]; omega
theorem rp_pw (p : Wd) : ∀ k, rp p k = pw p k
  | 0 => rfl
  | k + 1 => by rw [rp_succ, rp_pw p k]; rfl
theorem ex_rp (l : Rs) : ∀ k, ex (rp l k) = pw (ex l) k
  | 0 => rfl
  | k + 1 => by rw [rp_succ, ex_app, ex_rp l k]; rfl
theorem rp_add {α : Type} (l : List α) : ∀ a b, rp l (a + b) = rp l a ++ rp l b
  | 0, b => by simp [rp]
  | a + 1, b => by
    have : a + 1 + b = (a + b) + 1 := by omega
    rw [this, rp_succ, rp_succ, rp_add l a b, List.append_assoc]
theorem rp_rp {α : Type} (l : List α) (a : Nat) : ∀ b, rp (rp l a) b = rp l (a * b)
  | 0 => by simp [rp]
  | b + 1 => by rw [rp_succ, rp_rp l a b, Nat.mul_succ, Nat.add_comm, rp_add]
theorem pw_last (v : Wd) : ∀ k, (pw v (k + 1)).getLast? = v.getLast?
  | 0 => by simp [pw]
  | k + 1 => by
    show (v ++ pw v (k + 1)).getLast? = v.getLast?
    rw [List.getLast?_append, pw_last v k]
    cases v.getLast? <;> rfl
theorem pw_head (v : Wd) (k : Nat) : (pw v (k + 1)).head? = v.head? := by
  show (v ++ pw v k).head? = v.head?
  cases v with
  | nil =>
    induction k with
    | zero => rfl
    | succ k ih => exact ih
  | cons x v => rfl
theorem runs_pw {v : Wd} (h : ∀ x y, v.getLast? = some x → v.head? = some y → x ≠ y) : ∀ k, runs (pw v k) = rp (runs v) k
  | 0 => rfl
  | k + 1 => by
    show runs (v ++ pw v k) = _
    rw [rp_succ, runs_cat, runs_pw h k]
    intro x y e1 e2
    cases k with
    | zero => simp [pw] at e2
    | succ k => exact h x y e1 (by rwa [pw_head] at e2)
/-- a word that repeats with g is a power of its first g letters -/
theorem rep_pw {u : Wd} {g : Nat} (g0 : 0 < g) (gd : g ∣ u.length) (r : Rep (per u) g) : u = pw (u.take g) (u.length / g) := by
  obtain ⟨k, hk⟩ := gd
  have hk' : u.length / g = k := by rw [hk, Nat.mul_div_cancel_left _ g0]
  rw [hk']
  rcases Nat.eq_zero_or_pos k with e | e
  · subst e
    have : u = [] := List.length_eq_zero_iff.mp (by simpa using hk)
    rw [this]; rfl
  · have lt : (u.take g).length = g := by
      rw [List.length_take, hk]
      exact Nat.min_eq_left (Nat.le_mul_of_pos_right g e)
    refine ext_getD (by rw [pw_len, lt, hk, Nat.mul_comm]) fun n hn => ?_
    have a1 : per u n = u.getD n false := per_lt hn
    have a2 : per u n = per u (n % g) := by
      have := Rep.mul r (n / g) (n % g)
      have e2 : n % g + n / g * g = n := by rw [Nat.mul_comm]; exact Nat.mod_add_div n g
      rw [e2] at this
      exact this
    have lt1 : n % g < g := Nat.mod_lt n g0
    have lt2 : n % g < u.length := by
      rw [hk]; exact Nat.lt_of_lt_of_le lt1 (Nat.le_mul_of_pos_right g e)
    have a3 : (pw (u.take g) k).getD n false = per (pw (u.take g) k) n := (per_lt (by rw [pw_len, lt, Nat.mul_comm, ← hk]; exact hn)).symm
    obtain ⟨k', rfl⟩ : ∃ j, k = j + 1 := ⟨k - 1, by omega⟩
    have ne : u.take g ≠ [] := fun z => by rw [z] at lt; simp at lt; omega
    rw [← a1, a2, a3, per_pw _ ne, per_lt lt2]
    simp only [per, lt]
    rw [List.getD_eq_getElem?_getD, List.getD_eq_getElem?_getD, List.getElem?_take_of_lt lt1]
def Good (P : Rs) (m : Nat) : Prop := m ∣ P.length ∧ P = rp (P.take m) (P.length / m)
/-- the least block is primitive -/
theorem block_ok {p : Wd} (hp : p ≠ []) (hd : p.head? ≠ p.getLast?) {m : Nat} (m0 : 0 < m) (hg : Good (runs p) m) (hm : ∀ k, 0 < k → k < m → ¬ Good (runs p) k) :
    ∃ u : Wd, runs u = (runs p).take m ∧ u ≠ [] ∧ Prim u ∧ (∃ k, p = pw u (k + 1)) ∧ u.head? ≠ u.getLast? := by
  obtain ⟨⟨k, hk⟩, hP⟩ := hg
  have rne : (runs p).length ≠ 0 := fun z => hp (by rw [← ex_runs p, List.length_eq_zero_iff.mp z]; rfl)
  have hk' : (runs p).length / m = k := by rw [hk, Nat.mul_div_cancel_left _ m0]
  rw [hk'] at hP
  obtain ⟨k, rfl⟩ : ∃ j, k = j + 1 := ⟨k - 1, by
    have : k ≠ 0 := fun z => by subst z; simp at hk; exact rne (by simpa using hk)
    omega⟩
  have c := Can.take m (can_runs p)
  have e1 := runs_ex c
  have e2 : p = pw (ex ((runs p).take m)) (k + 1) := by
    rw [← ex_rp, ← hP, ex_runs]
  have hh : (ex ((runs p).take m)).head? ≠ (ex ((runs p).take m)).getLast? := by
    rw [← pw_head _ k, ← pw_last _ k, ← e2]
    exact hd
  have une : ex ((runs p).take m) ≠ [] := fun z => by
    rw [z] at e2
    apply hp
    rw [e2]
    have := pw_len [] (k + 1)
    simpa using this
  refine ⟨ex ((runs p).take m), e1, une, ?_, ⟨k, e2⟩, hh⟩
  intro g g0 gd r
  generalize hu : ex ((runs p).take m) = u at *
  have eu := rep_pw g0 gd r
  obtain ⟨j, hj⟩ := gd
  have hj' : u.length / g = j := by rw [hj, Nat.mul_div_cancel_left _ g0]
  rw [hj'] at eu
  obtain ⟨j, rfl⟩ : ∃ i, j = i + 1 := ⟨j - 1, by
    have : j ≠ 0 := fun z => by
      subst z
      exact une (List.length_eq_zero_iff.mp (by simpa using hj))
    omega⟩
  generalize hv : u.take g = v at *
  have hv2 : ∀ x y, v.getLast? = some x → v.head? = some y → x ≠ y := by
    intro x y a b z
    apply hh
    rw [eu, pw_head, pw_last, a, b, z]
  have ru := runs_pw hv2 (j + 1)
  rw [← eu, e1] at ru
  -- m = (j + 1) * |runs v|
  have lm : m = (j + 1) * (runs v).length := by
    have := congrArg List.length ru
    rw [rp_len, List.length_take, hk, Nat.min_eq_left (Nat.le_mul_of_pos_right m (by omega))] at this
    exact this
  have rv0 : 0 < (runs v).length := by
    rcases Nat.eq_zero_or_pos (runs v).length with z | z
    · rw [z] at lm; omega
    · exact z
  have hP2 : runs p = rp (runs v) ((j + 1) * (k + 1)) := by
    rw [ru, rp_rp] at hP
    exact hP
  have gv : Good (runs p) (runs v).length := by
    have l2 : (runs p).length = (j + 1) * (k + 1) * (runs v).length := by
      have := congrArg List.length hP2
      rwa [rp_len] at this
    have tk : (runs p).take (runs v).length = runs v := by
      obtain ⟨i, hi⟩ : ∃ i, (j + 1) * (k + 1) = i + 1 := ⟨(j + 1) * (k + 1) - 1, by
        have := Nat.mul_pos (show 0 < j + 1 by omega) (show 0 < k + 1 by omega)
        omega⟩
      rw [hP2, hi, rp_succ, List.take_left']
      rfl
    refine ⟨⟨_, by rw [l2, Nat.mul_comm]⟩, ?_⟩
    rw [tk, l2, Nat.mul_div_cancel _ rv0]
    exact hP2
  have hle : ¬ (runs v).length < m := fun z => hm _ rv0 z gv
  have : (j + 1) * (runs v).length = (runs v).length + j * (runs v).length := by rw [Nat.succ_mul]; omega
  have j0 : j = 0 := by
    rcases Nat.eq_zero_or_pos j with z | z
    · exact z
    · have := Nat.mul_pos z rv0
      omega
  subst j0
  rw [hj]; simp
end Lim
end

section
set_option Elab.async false
set_option linter.all false
set_option maxRecDepth 100000
set_option maxHeartbeats 4000000
namespace Lim
/-! # A path's run against the word -/
theorem beyW_rep (x : Bool) (v : Wd) : ∀ (k : Nat) (ω : Om), BeyW (List.replicate k x ++ v) (app (List.replicate k x) ω) ↔ BeyW v ω
  | 0, ω => Iff.rfl
  | k + 1, ω => by
    show ((x = x ∧ BeyW (List.replicate k x ++ v) (app (List.replicate k x) ω)) ∨ (x ≠ x ∧ x = true)) ↔ _
    rw [beyW_rep x v k ω]
    simp
theorem beyW_mis (x y : Bool) (xy : y ≠ x) (v : Wd) : ∀ (j k : Nat) (ω : Om), j < k → (BeyW (List.replicate k x ++ v) (app (List.replicate j x ++ [y]) ω) ↔ x = true)
  | j, 0, ω, h => by omega
  | 0, k + 1, ω, h => by
    show ((x = y ∧ _) ∨ (x ≠ y ∧ x = true)) ↔ _
    have : x ≠ y := fun z => xy z.symm
    simp [this]
  | j + 1, k + 1, ω, h => by
    show ((x = x ∧ BeyW (List.replicate k x ++ v) (app (List.replicate j x ++ [y]) ω)) ∨ (x ≠ x ∧ x = true)) ↔ _
    rw [beyW_mis x y xy v j k ω (by omega)]
    simp
def tailw (R : Rs) (a l : Nat) : Wd := (ex (R.drop a)).drop l
/-- a place among the runs -/
structure Place (R : Rs) (a l : Nat) : Prop where
  le : a ≤ R.length
  lt : ∀ r, R[a]? = some r → l < r.2
  z : a = R.length → l = 0
theorem tail_step {R : Rs} {a l n : Nat} {y : Bool} (h : R[a]? = some (y, n)) (hl : l ≤ n) : tailw R a l = List.replicate (n - l) y ++ ex (R.drop (a + 1)) := by
  have alt : a < R.length := (List.getElem?_eq_some_iff.mp h).1
  have e : R.drop a = (y, n) :: R.drop (a + 1) := by
    rw [List.drop_eq_getElem_cons alt]
    congr 1
    exact (List.getElem?_eq_some_iff.mp h).2
  unfold tailw
  rw [e]
  simp only [ex]
  rw [List.drop_append_of_le_length (by simpa using hl), List.drop_replicate]
theorem tail_next {R : Rs} {a l n : Nat} {y : Bool} (h : R[a]? = some (y, n)) (hl : l ≤ n) : tailw R a l = List.replicate (n - l) y ++ tailw R (a + 1) 0 := by
  rw [tail_step h hl]
  simp [tailw]
theorem tail_part {R : Rs} {a l n k : Nat} {y : Bool} (h : R[a]? = some (y, n)) (hl : l + k ≤ n) : tailw R a l = List.replicate k y ++ tailw R a (l + k) := by
  rw [tail_step h (by omega), tail_step h hl, ← List.append_assoc, List.replicate_append_replicate]
  congr 2
  omega
theorem app_cst (x : Bool) : ∀ k : Nat, app (List.replicate k x) (cst x) = cst x
  | 0 => rfl
  | k + 1 => by
    funext n
    cases n with
    | zero => rfl
    | succ n =>
      show app (List.replicate k x) (cst x) n = x
      rw [app_cst x k]
      rfl
theorem app_cst' (x : Bool) : ∀ w : Wd, (∀ y ∈ w, y = x) → app w (cst x) = cst x
  | [], _ => rfl
  | y :: w, h => by
    funext n
    cases n with
    | zero => exact h y (by simp)
    | succ n =>
      show app w (cst x) n = x
      rw [app_cst' x w (fun z hz => h z (by simp [hz]))]
      rfl
theorem mem_ex {rs : Rs} {y : Bool} (h : y ∈ ex rs) : ∃ r ∈ rs, r.1 = y := by
  induction rs with
  | nil => simp [ex] at h
  | cons r rs ih =>
    simp only [ex, List.mem_append, List.mem_replicate] at h
    rcases h with h | h
    · exact ⟨r, by simp, h.2.symm⟩
    · obtain ⟨s, h1, h2⟩ := ih h
      exact ⟨s, by simp [h1], h2⟩
theorem per_single {p : Wd} {x : Bool} {n : Nat} (h : runs p = [(x, n)]) : per p = cst x := by
  have ep : p = List.replicate n x := by rw [← ex_runs p, h]; simp [ex]
  have n1 : 1 ≤ n := (can_runs p).pos (x, n) (by rw [h]; simp)
  funext i
  have hl : i % p.length < p.length := Nat.mod_lt _ (by rw [ep]; simp; omega)
  show p.getD (i % p.length) false = x
  have : ∀ k, k < p.length → p.getD k false = x := by
    intro k hk
    rw [ep] at hk ⊢
    rw [List.getD_eq_getElem?_getD, List.getElem?_replicate]
    simp at hk
    simp [hk]
  exact this _ hl
end Lim
end

section
set_option Elab.async false
set_option linter.all false
set_option maxRecDepth 100000
set_option maxHeartbeats 4000000
namespace Lim
/-! # The letters of the period; the limit told -/
theorem mem_of_om {h p h' p' : Wd} (hp : p ≠ []) (hp' : p' ≠ []) (e : om h p = om h' p') {x : Bool} (hx : x ∈ p) : x ∈ p' := by
  have l1 : 0 < p.length := List.length_pos_iff.mpr hp
  have l2 : 0 < p'.length := List.length_pos_iff.mpr hp'
  obtain ⟨n, hn, e1⟩ := List.mem_iff_getElem.mp hx
  have a0 : per p n = x := by rw [per_lt hn, List.getD_eq_getElem?_getD, List.getElem?_eq_getElem hn, e1]; rfl
  have a1 : om h p (n + h'.length * p.length + h.length) = x := by
    rw [om_ge, ← a0]
    exact Rep.mul (α := per p) (fun n => per_add n) _ _
  have big : h'.length ≤ h'.length * p.length := Nat.le_mul_of_pos_right _ l1
  have a2 := om_ge h' p' (n + h'.length * p.length + h.length - h'.length)
  rw [Nat.sub_add_cancel (by omega), ← e, a1] at a2
  have lt := Nat.mod_lt (n + h'.length * p.length + h.length - h'.length) l2
  have a3 : per p' (n + h'.length * p.length + h.length - h'.length) = p'[(n + h'.length * p.length + h.length - h'.length) % p'.length] := by
    simp only [per]
    rw [List.getD_eq_getElem?_getD, List.getElem?_eq_getElem lt]
    rfl
  rw [a2, a3]
  exact List.getElem_mem lt
/-- one letter only: the short period is that letter -/
theorem single_of {h p : Wd} (S : Short h p) {x : Bool} (hx : ∀ y ∈ p, y = x) : p = [x] := by
  have l1 : 0 < p.length := List.length_pos_iff.mpr S.ne
  have r : Rep (per p) 1 := fun n => by
    have c : ∀ n, per p n = x := fun n => by
      have lt := Nat.mod_lt n l1
      simp only [per]
      rw [List.getD_eq_getElem?_getD, List.getElem?_eq_getElem lt]
      exact hx _ (List.getElem_mem lt)
    rw [c, c]
  have := S.prim 1 (by decide) (Nat.one_dvd _) r
  obtain ⟨y, e⟩ := List.length_eq_one_iff.mp this.symm
  rw [e]
  rw [hx y (by rw [e]; simp)]
theorem runs_one_iff {p : Wd} (hp : p ≠ []) : (runs p).length = 1 ↔ ∃ x, ∀ y ∈ p, y = x := by
  constructor
  · intro h
    obtain ⟨⟨x, n⟩, e⟩ := List.length_eq_one_iff.mp h
    refine ⟨x, fun y hy => ?_⟩
    rw [← ex_runs p, e] at hy
    simp [ex] at hy
    exact hy.2
  · rintro ⟨x, hx⟩
    have e : p = List.replicate p.length x := List.eq_replicate_iff.mpr ⟨rfl, hx⟩
    have l1 : 0 < p.length := List.length_pos_iff.mpr hp
    have := runs_reps [] x l1
    rw [List.nil_append, ← e] at this
    rw [this]
    rfl
end Lim
end

section
set_option Elab.async false
set_option linter.all false
set_option maxRecDepth 100000
set_option maxHeartbeats 4000000
namespace W
open DL Lim
/-! # The readings at data of letters -/
def cc (b : Bool) : Nat := if b then 98 else 97
def tx (w : Wd) : D := .str (w.map cc)
def dr (r : Bool × Nat) : D := .tup [.str [cc r.1], .int r.2]
theorem cc_inj {a b : Bool} : cc a = cc b ↔ a = b := by cases a <;> cases b <;> simp [cc]
theorem cc_beq {a b : Bool} : ([cc a] == [cc b]) = (a == b) := by cases a <;> cases b <;> decide
theorem asg_nm (i : Nat) (d : D) (ρ : Ev) : asg (.nm i) d ρ = if (ρ.io && i == 0) = true then none else some (ρ.put i (.fz d)) := rfl
theorem asg_tp (ts : List Tg) (ds : List D) (ρ : Ev) : asg (.tp ts) (.tup ds) ρ = asgs ts ds ρ := rfl
theorem asgs_nil (ρ : Ev) : asgs [] [] ρ = some ρ := rfl
theorem asgs_cons (t : Tg) (ts : List Tg) (d : D) (ds : List D) (ρ : Ev) : asgs (t :: ts) (d :: ds) ρ = (asg t d ρ).bind (asgs ts ds) := rfl
/-! ## shapes -/
theorem shp_int (i : Int) : shp (.int i) = true := rfl
theorem shp_bl (i : Bool) : shp (.bl i) = true := rfl
theorem ok_tx (w : Wd) : PySem.PyData.strOk (mkS (w.map cc)) = true := by
  show (w.map cc).toArray.all (· < 0x110000) = true
  rw [List.all_toArray, List.all_map, List.all_eq_true]
  intro x _
  cases x <;> decide
theorem ok_cc (x : Bool) : PySem.PyData.strOk (mkS [cc x]) = true := ok_tx [x]
theorem shp_of {d : D} (h : pl d = true) (h2 : dep d ≤ 64) : shp d = true := by
  unfold shp
  rw [h, decide_eq_true h2]
  rfl
theorem dep_tup (l : List D) : dep (.tup l) = depA l + 1 := by simp [dep]
theorem dep_lst (l : List D) : dep (.lst l) = depA l + 1 := by simp [dep]
theorem pl_tup (l : List D) : pl (.tup l) = plA l := by simp [pl]
theorem pl_lst (l : List D) : pl (.lst l) = plA l := by simp [pl]
theorem shp_tx (w : Wd) : shp (tx w) = true := shp_of (by simp [tx, pl, ok_tx]) (by simp [tx, dep])
theorem pd_dr (r : Bool × Nat) : pl (dr r) = true ∧ dep (dr r) ≤ 1 := by
  simp [dr, pl, plA, dep, depA, ok_cc]
theorem shp_dr (r : Bool × Nat) : shp (dr r) = true := shp_of (pd_dr r).1 (by have := (pd_dr r).2; omega)
theorem plA_of : ∀ {l : List D} {n : Nat}, (∀ d ∈ l, pl d = true ∧ dep d ≤ n) → plA l = true ∧ depA l ≤ n
  | [], n, _ => by simp [plA, depA]
  | d :: l, n, h => by
    have h1 := h d (by simp)
    have h2 := plA_of (l := l) (n := n) fun e he => h e (by simp [he])
    simp only [plA, depA, h1.1, h2.1, Bool.and_self, true_and]
    omega
theorem pd_drs (rs : List (Bool × Nat)) : plA (rs.map dr) = true ∧ depA (rs.map dr) ≤ 1 := plA_of fun d h => by
  obtain ⟨r, _, rfl⟩ := List.mem_map.mp h
  exact pd_dr r
theorem shp_drs (rs : List (Bool × Nat)) : shp (.tup (rs.map dr)) = true := shp_of (by rw [pl_tup]; exact (pd_drs rs).1) (by rw [dep_tup]; have := (pd_drs rs).2; omega)
theorem shp_ldrs (rs : List (Bool × Nat)) : shp (.lst (rs.map dr)) = true := shp_of (by rw [pl_lst]; exact (pd_drs rs).1) (by rw [dep_lst]; have := (pd_drs rs).2; omega)
theorem deq_dr (r s : Bool × Nat) : deq (dr r) (dr s) = decide (r = s) := by
  obtain ⟨x, n⟩ := r
  obtain ⟨y, m⟩ := s
  simp only [dr, deq, deqA, cc_beq, Bool.and_true, Prod.mk.injEq]
  by_cases h : x = y <;> by_cases h2 : n = m <;> simp [h, h2] <;> omega
theorem deqA_drs : ∀ rs ss : List (Bool × Nat), deqA (rs.map dr) (ss.map dr) = decide (rs = ss)
  | [], [] => by simp [deqA]
  | [], _ :: _ => by simp [deqA]
  | _ :: _, [] => by simp [deqA]
  | r :: rs, s :: ss => by
    simp only [List.map_cons, deqA, deq_dr, deqA_drs rs ss, List.cons.injEq]
    by_cases h : r = s <;> by_cases h2 : rs = ss <;> simp [h, h2]
theorem deq_tup_drs (rs ss : List (Bool × Nat)) : deq (.tup (rs.map dr)) (.tup (ss.map dr)) = decide (rs = ss) := deqA_drs rs ss
theorem oEq_int (neg : Bool) (i j : Int) : oEq neg (.int i) (.int j) = some (.val (.bl (if neg then !(i == j) else (i == j)))) := rfl
theorem oEq_cc (neg : Bool) (x y : Bool) : oEq neg (.str [cc x]) (.str [cc y]) = some (.val (.bl (if neg then !(x == y) else (x == y)))) := by
  have h1 : shp (.str [cc x]) = true := shp_tx [x]
  have h2 : shp (.str [cc y]) = true := shp_tx [y]
  simp only [oEq, h1, h2, Bool.and_self, if_true, deq, cc_beq]
theorem oEq_lnil (neg : Bool) (rs : List (Bool × Nat)) : oEq neg (.lst (rs.map dr)) (.lst []) = some (.val (.bl (if neg then !rs.isEmpty else rs.isEmpty))) := by
  have h1 := shp_ldrs rs
  have h2 : shp (.lst []) = true := rfl
  simp only [oEq, h1, h2, Bool.and_self, if_true]
  cases rs <;> simp [deq, deqA]
theorem oEq_drs (neg : Bool) (rs ss : List (Bool × Nat)) : oEq neg (.tup (rs.map dr)) (.tup (ss.map dr)) = some (.val (.bl (if neg then !decide (rs = ss) else decide (rs = ss)))) := by
  simp only [oEq, shp_drs, Bool.and_self, if_true, deq_tup_drs]
theorem e_is_integer (i : Int) : φ_is_integer [.int i] = some (.val (.bl true), []) := by
  rfl
theorem e_is_list_t (l : List D) : φ_is_list [.tup l] = some (.val (.bl true), []) := by
  rfl
theorem e_is_within (v l m : Int) : φ_is_within [.int v, .int l, .int m] = some (.val (.bl (decide (l ≤ v) && decide (v ≤ m))), []) := by
  simp [φ_is_within, phiP, env0, g_is_within, sSeq, sIf, gNot, gTb, gCallX, aCons, gVar, frz, aNil, e_is_integer, asB, sNx, sRet, gAndV, gOrV, gBin, gC, dat, oIs, isNonD, Rv.res, oCmpI, retR, RF.res]
  by_cases h : l ≤ v <;> simp [h, retR]
end W
end

section
set_option Elab.async false
set_option linter.all false
set_option maxRecDepth 100000
set_option maxHeartbeats 4000000
namespace W
open DL Lim
/-! # Comprehensions -/
theorem rest_wipe {vs : List Nat} {ρ : Ev} : Ev.rest vs ρ (ρ.wipe vs) = ρ := by
  obtain ⟨io, sl⟩ := ρ
  simp only [Ev.rest, Ev.wipe, Ev.mk.injEq, true_and, List.length_map, List.length_range]
  apply List.ext_getElem
  · simp
  · intro i h1 h2
    simp only [List.getElem_map, List.getElem_range]
    have : i < sl.length := h2
    simp only [List.getElem?_map, List.getElem?_range this, Option.map_some, Option.getD_some, List.getElem?_eq_getElem this]
    split <;> rfl
theorem compG_ok {tg : Tg} {ge : GE} {vs : List Nat} {w : Ev} {f : Rv → D} (hio : (w.io && vs.contains 0) = false) : ∀ (items : List Rv) (acc : List D),
    (∀ r ∈ items, ∃ ρa, asgR tg r w = some ρa ∧ ge ρa = some (.fz (f r), ρa) ∧ ρa.wipe vs = w ∧ ρa.io = w.io) → acc.length + items.length ≤ 16777216 → compG tg gYes ge vs items w acc = some (acc ++ items.map f, w)
  | [], acc, _, _ => by simp [compG]
  | r :: rs, acc, h, hl => by
    obtain ⟨ρa, h1, h2, h3, h4⟩ := h r (by simp)
    simp only [List.length_cons] at hl
    simp only [compG, h1, Option.bind_some, gYes, if_true, h2, frz, h4, hio, h3]
    rw [if_pos ⟨by omega, trivial⟩, compG_ok hio rs _ (fun q hq => h q (by simp [hq])) (by simp; omega)]
    simp
theorem comp_ok {gi : GI} {tg : Tg} {ge : GE} {vs : List Nat} {ρ ρ1 : Ev} {items : List Rv} (f : Rv → D) (h1 : gi ρ = some (items, ρ1)) (h2 : ownOk vs ρ1 = true) (h3 : (tgIx tg).all (vs.contains ·) = true) (h5 : items.length ≤ 16777216)
    (h4 : ∀ r ∈ items, ∃ ρa, asgR tg r (ρ1.wipe vs) = some ρa ∧ ge ρa = some (.fz (f r), ρa) ∧ ρa.wipe vs = ρ1.wipe vs ∧ ρa.io = ρ1.io) : gComp gi tg gYes ge vs ρ = some (.nw (items.map f), ρ1) := by
  have hio : (ρ1.io && vs.contains 0) = false := by
    unfold ownOk at h2
    simp only [Bool.and_eq_true, Bool.not_eq_true'] at h2
    exact h2.2
  have hio' : ((ρ1.wipe vs).io && vs.contains 0) = false := hio
  have := compG_ok (tg := tg) (ge := ge) (f := f) hio' items [] h4 (by simpa using h5)
  simp only [gComp, h1, Option.bind_some, h2, h3, and_self, if_true, this, List.nil_append]
  rw [if_pos (show (ρ1.wipe vs).io = ρ1.io from rfl), rest_wipe]
theorem blsD_map {α : Type} (f : α → Bool) : ∀ l : List α, blsD (l.map fun x => D.bl (f x)) = some (l.map f)
  | [] => rfl
  | x :: l => by simp [blsD, blsD_map f l]
theorem blsD_rep : ∀ n : Nat, blsD (List.replicate n (.bl true)) = some (List.replicate n true)
  | 0 => rfl
  | n + 1 => by simp [List.replicate_succ, blsD, blsD_rep n]
theorem oAll_rep (n : Nat) : oAll (.lst (List.replicate n (.bl true))) = some (.val (.bl true)) := by
  simp [oAll, blsD_rep]
/-- all are true -/
theorem comp_all {gi : GI} {tg : Tg} {ge : GE} {vs : List Nat} {ρ ρ1 : Ev} {items : List Rv} (h1 : gi ρ = some (items, ρ1)) (h2 : ownOk vs ρ1 = true) (h3 : (tgIx tg).all (vs.contains ·) = true) (h5 : items.length ≤ 16777216)
    (h4 : ∀ r ∈ items, ∃ ρa, asgR tg r (ρ1.wipe vs) = some ρa ∧ ge ρa = some (.fz (.bl true), ρa) ∧ ρa.wipe vs = ρ1.wipe vs ∧ ρa.io = ρ1.io) : gComp gi tg gYes ge vs ρ = some (.nw (List.replicate items.length (.bl true)), ρ1) := by
  rw [comp_ok (fun _ => .bl true) h1 h2 h3 h5 h4, List.map_const']
/-! ## runs, paths -/
theorem e_is_run (r : Bool × Nat) (h1 : 1 ≤ r.2) (h2 : r.2 ≤ 1000000000000) : φ_is_run [dr r] = some (.val (.bl true), []) := by
  obtain ⟨x, n⟩ := r
  have e1 : φ_is_list [.tup [.str [cc x], .int n]] = some (.val (.bl true), []) := rfl
  have e2 : oIn false (.str [cc x]) (.tup [.str [97], .str [98]]) = some (.val (.bl true)) := by
    have hs : shp (.str [cc x]) = true := shp_tx [x]
    have ht : shp (.tup [.str [97], .str [98]]) = true := shp_of (by have := ok_cc false; have := ok_cc true; simp_all [pl, plA, cc]) (by simp [dep, depA])
    simp only [oIn, hs, ht, Bool.and_self, if_true]
    cases x <;> simp [deq, cc]
  have e3 := e_is_within n 1 1000000000000
  simp only at h1 h2
  have c1 : decide ((1 : Int) ≤ (n : Int)) = true := by simp; omega
  have c2 : decide ((n : Int) ≤ 1000000000000) = true := by simp; omega
  rw [c1, c2] at e3
  simp [φ_is_run, g_is_run, dr, phiP, env0, sSeq, sIf, sNx, sRet, sRetN, sSet, sAsg, sPar, sPar3, sItem, sDrop, sFor, sBk, sCt, sNever, gNot, gTb, gAnd, gOr, gCallX, aCons, aNil, aStar, gVar, gC, gAndV, gOrV, gNotV, gBin, gUn, gIfE, gTup, gLst, gSl, gP, gNoP, gM, iAny, iRange, iRange2, iRev, iZip, frz, unb, setR, retR, asB, dat, slD, asg_nm, asg_tp, asgs_nil, asgs_cons, asgR, Rv.res, RF.res, Ev.put, oIs, isNonD, oCmpI, oI, oNeg, oLen, itemsOf, itemsR, revR, zipD, zipR, oTuple, oList, oBool, oIsi, oIsi2, isT, tyD, oEq_int, oEq_cc, oEq_lnil, oEq_drs, mApp, mExt, mPop, e1, e2, e3, oIx, L2.atI, L2.ixN, k_A, k_B, k_MOST_TIMES]
end W
end

section
set_option Elab.async false
set_option linter.all false
set_option maxRecDepth 100000
set_option maxHeartbeats 4000000
namespace W
open DL Lim
theorem atI_0 {α : Type} (x : α) (l : List α) : L2.atI (x :: l) 0 = some x := by
  simp [L2.atI, L2.ixN]
theorem atI_1 {α : Type} (x y : α) (l : List α) : L2.atI (x :: y :: l) 1 = some y := by
  have : (1 : Int) < (l.length : Int) + 1 + 1 := by omega
  simp [L2.atI, L2.ixN, this]
theorem atI_nat {α : Type} (l : List α) (k : Nat) : L2.atI l (k : Int) = l[k]? := by
  unfold L2.atI L2.ixN
  rw [if_pos (by omega)]
  by_cases h : (k : Int) < (l.length : Int)
  · rw [if_pos h]; simp
  · rw [if_neg h]
    simp only [Option.bind_none]
    rw [List.getElem?_eq_none (by omega)]
theorem ixN_m1 {n : Nat} : L2.ixN (n + 1) (-1) = some n := by
  unfold L2.ixN
  rw [if_neg (by omega), if_pos (by omega)]
  congr 1
  omega
theorem atI_m1 {α : Type} (a : List α) (x : α) : L2.atI (a ++ [x]) (-1) = some x := by
  unfold L2.atI
  rw [List.length_append, List.length_singleton, ixN_m1]
  simp
theorem cut_drop {α : Type} (l : List α) (k : Nat) : cutD l (some (k : Int)) none = l.drop k := by
  unfold cutD
  rw [HT.sIx_nat, HT.sIx_none]
  rcases Nat.le_total k l.length with h | h
  · rw [Nat.min_eq_left h, List.take_of_length_le (by simp)]
  · rw [Nat.min_eq_right h, List.drop_eq_nil_of_le (Nat.le_refl _), List.drop_eq_nil_of_le h]; simp
theorem cut_take {α : Type} (l : List α) (k : Nat) : cutD l none (some (k : Int)) = l.take k := by
  unfold cutD
  rw [HT.sIx_nat, HT.sIx_none, List.drop_zero, Nat.sub_zero]
  rcases Nat.le_total k l.length with h | h
  · rw [Nat.min_eq_left h]
  · rw [Nat.min_eq_right h, List.take_of_length_le (Nat.le_refl _), List.take_of_length_le h]
theorem sIx_m1 (n d : Nat) : HT.sIx n d (some (-1)) = n - 1 := by
  show (if (-1 : Int) < 0 then ((-1 : Int) + (n : Int)).toNat else min (-1 : Int).toNat n) = n - 1
  rw [if_pos (by decide)]
  omega
theorem cut_init {α : Type} (l : List α) : cutD l none (some (-1)) = l.dropLast := by
  unfold cutD
  rw [sIx_m1, HT.sIx_none, List.drop_zero, Nat.sub_zero, List.dropLast_eq_take]
theorem cut_mid {α : Type} (l : List α) : cutD l (some 1) (some (-1)) = (l.drop 1).dropLast := by
  unfold cutD
  have : HT.sIx l.length 0 (some 1) = min 1 l.length := HT.sIx_nat _ _ 1
  rw [sIx_m1, this, List.dropLast_eq_take, List.length_drop]
  rcases Nat.lt_or_ge 0 l.length with h | h
  · rw [Nat.min_eq_left (by omega)]
  · have : l = [] := List.length_eq_zero_iff.mp (by omega)
    subst this; simp
theorem cut_1 {α : Type} (l : List α) : cutD l (some 1) none = l.drop 1 := cut_drop l 1
/-! ## paths -/
def Adj : Rs → Prop
  | [] => True
  | [_] => True
  | r :: s :: t => r.1 ≠ s.1 ∧ Adj (s :: t)
theorem Can.adj : ∀ {rs : Rs}, Can rs → Adj rs
  | [], _ => True.intro
  | [_], _ => True.intro
  | _ :: _ :: _, h => ⟨h.2.1, Can.adj h.2.2⟩
structure Pok (rs : Rs) : Prop where
  one : ∀ r ∈ rs, 1 ≤ r.2 ∧ r.2 ≤ 1000000000000
  len : rs.length ≤ 10000
  adj : Adj rs
theorem zip_adj : ∀ {rs : Rs}, Adj rs → ∀ p ∈ rs.zip (rs.drop 1), p.1.1 ≠ p.2.1
  | [], _, p, h => by simp at h
  | [_], _, p, h => by simp at h
  | r :: s :: t, h, p, hp => by
    simp only [List.drop_succ_cons, List.drop_zero, List.zip_cons_cons, List.mem_cons] at hp
    rcases hp with e | e
    · subst e; exact h.1
    · exact zip_adj h.2 p (by simpa using e)
theorem e_is_path {rs : Rs} (h : Pok rs) : φ_is_path [.tup (rs.map dr)] = some (.val (.bl true), []) := by
  have c1 : gComp (iAny (gVar 0)) (.nm 3) gYes X_is_path_0 [3] ⟨false, [.fz (.tup (rs.map dr)), .un, .un, .un]⟩ = some (.nw (List.replicate ((rs.map dr).map Rv.val).length (.bl true)), ⟨false, [.fz (.tup (rs.map dr)), .un, .un, .un]⟩) := by
    refine comp_all (items := (rs.map dr).map Rv.val) (by simp [phiP, env0, sSeq, sIf, sNx, sRet, sRetN, sSet, sAsg, sPar, sPar3, sItem, sDrop, sFor, sBk, sCt, sNever, gNot, gTb, gAnd, gOr, gCallX, aCons, aNil, aStar, gVar, gC, gAndV, gOrV, gNotV, gBin, gUn, gIfE, gTup, gLst, gSl, gP, gNoP, gM, iAny, iRange, iRange2, iRev, iZip, frz, unb, setR, retR, asB, dat, slD, asg_nm, asg_tp, asgs_nil, asgs_cons, asgR, Rv.res, RF.res, Ev.put, oIs, isNonD, oCmpI, oI, oNeg, oLen, itemsOf, itemsR, revR, zipD, zipR, oTuple, oList, oBool, oIsi, oIsi2, isT, tyD, oEq_int, oEq_cc, oEq_lnil, oEq_drs, mApp, mExt, mPop]) (by rfl) (by rfl) (by simp; have := h.len; omega) ?_
    intro r hr
    simp only [List.mem_map] at hr
    obtain ⟨d, ⟨q, hq, rfl⟩, rfl⟩ := hr
    refine ⟨⟨false, [.fz (.tup (rs.map dr)), .un, .un, .fz (dr q)]⟩, by rfl, ?_, by rfl, rfl⟩
    simp [X_is_path_0, phiP, env0, sSeq, sIf, sNx, sRet, sRetN, sSet, sAsg, sPar, sPar3, sItem, sDrop, sFor, sBk, sCt, sNever, gNot, gTb, gAnd, gOr, gCallX, aCons, aNil, aStar, gVar, gC, gAndV, gOrV, gNotV, gBin, gUn, gIfE, gTup, gLst, gSl, gP, gNoP, gM, iAny, iRange, iRange2, iRev, iZip, frz, unb, setR, retR, asB, dat, slD, asg_nm, asg_tp, asgs_nil, asgs_cons, asgR, Rv.res, RF.res, Ev.put, oIs, isNonD, oCmpI, oI, oNeg, oLen, itemsOf, itemsR, revR, zipD, zipR, oTuple, oList, oBool, oIsi, oIsi2, isT, tyD, oEq_int, oEq_cc, oEq_lnil, oEq_drs, mApp, mExt, mPop, e_is_run q (h.one q hq).1 (h.one q hq).2]
  have c2 : gComp (iZip (gVar 0) (gSl (gVar 0) (gP (gC (.int 1))) gNoP)) (.tp [.nm 1, .nm 2]) gYes X_is_path_1 [1, 2] ⟨false, [.fz (.tup (rs.map dr)), .un, .un, .un]⟩ = some (.nw (List.replicate (zipR (rs.map dr) ((rs.map dr).drop 1)).length (.bl true)), ⟨false, [.fz (.tup (rs.map dr)), .un, .un, .un]⟩) := by
    refine comp_all (items := zipR (rs.map dr) ((rs.map dr).drop 1)) (by simp [phiP, env0, sSeq, sIf, sNx, sRet, sRetN, sSet, sAsg, sPar, sPar3, sItem, sDrop, sFor, sBk, sCt, sNever, gNot, gTb, gAnd, gOr, gCallX, aCons, aNil, aStar, gVar, gC, gAndV, gOrV, gNotV, gBin, gUn, gIfE, gTup, gLst, gSl, gP, gNoP, gM, iAny, iRange, iRange2, iRev, iZip, frz, unb, setR, retR, asB, dat, slD, asg_nm, asg_tp, asgs_nil, asgs_cons, asgR, Rv.res, RF.res, Ev.put, oIs, isNonD, oCmpI, oI, oNeg, oLen, itemsOf, itemsR, revR, zipD, zipR, oTuple, oList, oBool, oIsi, oIsi2, isT, tyD, oEq_int, oEq_cc, oEq_lnil, oEq_drs, mApp, mExt, mPop, oSl, cut_1]) (by rfl) (by rfl) (by simp [zipR]; have := h.len; omega) ?_
    intro r hr
    simp only [zipR, List.mem_map] at hr
    obtain ⟨⟨d1, d2⟩, hd, rfl⟩ := hr
    rw [← List.map_drop, List.zip_map, List.mem_map] at hd
    obtain ⟨⟨q1, q2⟩, hq, e⟩ := hd
    cases e
    have ne := zip_adj h.adj _ hq
    refine ⟨⟨false, [.fz (.tup (rs.map dr)), .fz (dr q1), .fz (dr q2), .un]⟩, by rfl, ?_, by rfl, rfl⟩
    obtain ⟨x, n⟩ := q1
    obtain ⟨y, m⟩ := q2
    simp only at ne
    simp [X_is_path_1, phiP, env0, sSeq, sIf, sNx, sRet, sRetN, sSet, sAsg, sPar, sPar3, sItem, sDrop, sFor, sBk, sCt, sNever, gNot, gTb, gAnd, gOr, gCallX, aCons, aNil, aStar, gVar, gC, gAndV, gOrV, gNotV, gBin, gUn, gIfE, gTup, gLst, gSl, gP, gNoP, gM, iAny, iRange, iRange2, iRev, iZip, frz, unb, setR, retR, asB, dat, slD, asg_nm, asg_tp, asgs_nil, asgs_cons, asgR, Rv.res, RF.res, Ev.put, oIs, isNonD, oCmpI, oI, oNeg, oLen, itemsOf, itemsR, revR, zipD, zipR, oTuple, oList, oBool, oIsi, oIsi2, isT, tyD, oEq_int, oEq_cc, oEq_lnil, oEq_drs, mApp, mExt, mPop, oIx, dr, atI_0, ne]
  have e1 : φ_is_list [.tup (rs.map dr)] = some (.val (.bl true), []) := rfl
  have l1 : ¬ ((20000 : Int) < (rs.length : Int)) := by have := h.len; omega
  simp [φ_is_path, g_is_path, phiP, env0, sSeq, sIf, sNx, sRet, sRetN, sSet, sAsg, sPar, sPar3, sItem, sDrop, sFor, sBk, sCt, sNever, gNot, gTb, gAnd, gOr, gCallX, aCons, aNil, aStar, gVar, gC, gAndV, gOrV, gNotV, gBin, gUn, gIfE, gTup, gLst, gSl, gP, gNoP, gM, iAny, iRange, iRange2, iRev, iZip, frz, unb, setR, retR, asB, dat, slD, asg_nm, asg_tp, asgs_nil, asgs_cons, asgR, Rv.res, RF.res, Ev.put, oIs, isNonD, oCmpI, oI, oNeg, oLen, itemsOf, itemsR, revR, zipD, zipR, oTuple, oList, oBool, oIsi, oIsi2, isT, tyD, oEq_int, oEq_cc, oEq_lnil, oEq_drs, mApp, mExt, mPop, e1, c1, c2, k_MOST_RUNS, l1, oAll_rep]
end W
end

section
set_option Elab.async false
set_option linter.all false
set_option maxRecDepth 100000
set_option maxHeartbeats 4000000
namespace W
open DL Lim
def rvD : Rv → D
  | .val d => d
  | .newL l => .lst l
  | .newT l => .tup l
theorem e_path_at {rs : Rs} (h : rs.length ≤ 16777216) : φ_path_at [.tup (rs.map dr)] = some (.val (.tup (rs.map dr)), []) := by
  have c1 : gComp (iAny (gVar 0)) (.nm 1) gYes X_path_at_0 [1] ⟨false, [.fz (.tup (rs.map dr)), .un]⟩ = some (.nw (((rs.map dr).map Rv.val).map rvD), ⟨false, [.fz (.tup (rs.map dr)), .un]⟩) := by
    refine comp_ok rvD (items := (rs.map dr).map Rv.val) (by simp [phiP, env0, sSeq, sIf, sNx, sRet, sRetN, sSet, sAsg, sPar, sPar3, sItem, sDrop, sFor, sBk, sCt, sNever, gNot, gTb, gAnd, gOr, gCallX, aCons, aNil, aStar, gVar, gC, gAndV, gOrV, gNotV, gBin, gUn, gIfE, gTup, gLst, gSl, gP, gNoP, gM, iAny, iRange, iRange2, iRev, iZip, frz, unb, setR, retR, asB, dat, slD, asg_nm, asg_tp, asgs_nil, asgs_cons, asgR, Rv.res, RF.res, Ev.put, oIs, isNonD, oCmpI, oI, oNeg, oLen, itemsOf, itemsR, revR, zipD, zipR, oTuple, oList, oBool, oIsi, oIsi2, isT, tyD, oEq_int, oEq_cc, oEq_lnil, oEq_drs, mApp, mExt, mPop]) (by rfl) (by rfl) (by simpa using h) ?_
    intro r hr
    simp only [List.mem_map] at hr
    obtain ⟨d, ⟨q, hq, rfl⟩, rfl⟩ := hr
    exact ⟨⟨false, [.fz (.tup (rs.map dr)), .fz (dr q)]⟩, by rfl, by rfl, by rfl, rfl⟩
  have e : ((rs.map dr).map Rv.val).map rvD = rs.map dr := by simp [Function.comp_def, rvD]
  rw [e] at c1
  simp [φ_path_at, g_path_at, phiP, env0, sSeq, sIf, sNx, sRet, sRetN, sSet, sAsg, sPar, sPar3, sItem, sDrop, sFor, sBk, sCt, sNever, gNot, gTb, gAnd, gOr, gCallX, aCons, aNil, aStar, gVar, gC, gAndV, gOrV, gNotV, gBin, gUn, gIfE, gTup, gLst, gSl, gP, gNoP, gM, iAny, iRange, iRange2, iRev, iZip, frz, unb, setR, retR, asB, dat, slD, asg_nm, asg_tp, asgs_nil, asgs_cons, asgR, Rv.res, RF.res, Ev.put, oIs, isNonD, oCmpI, oI, oNeg, oLen, itemsOf, itemsR, revR, zipD, zipR, oTuple, oList, oBool, oIsi, oIsi2, isT, tyD, oEq_int, oEq_cc, oEq_lnil, oEq_drs, mApp, mExt, mPop, c1]
/-! ## runs_of -/
theorem oEq_l0 (neg : Bool) : oEq neg (.lst []) (.lst []) = some (.val (.bl (!neg))) := by cases neg <;> rfl
/-- the last run of a list of runs -/
theorem last_facts {f a : Rs} {r : Bool × Nat} (e : f = a ++ [r]) : (∀ neg, oEq neg (.lst (f.map dr)) (.lst []) = some (.val (.bl neg))) ∧ L2.atI (f.map dr) (-1) = some (.tup [.str [cc r.1], .int r.2]) ∧ L2.ixN f.length (-1) = some a.length ∧ ∀ d, (f.map dr).set a.length d = a.map dr ++ [d] := by
  subst e
  refine ⟨fun neg => ?_, ?_, ?_, fun d => ?_⟩
  · rw [oEq_lnil]
    cases neg <;> simp
  · rw [List.map_append]
    exact atI_m1 _ _
  · rw [List.length_append]
    exact ixN_m1
  · rw [List.map_append, List.set_append_right _ _ (by simp)]
    simp
theorem b_runs_of {X : D} {f : Rs} {x : Bool} {n : Nat} (hl : f.length < 16777216) : L_runs_of_0 ⟨false, [.fz X, .ow (f.map dr), .fz (.str [cc x]), .fz (.int n)]⟩ = some (.nx ⟨false, [.fz X, .ow ((add f (x, n)).map dr), .fz (.str [cc x]), .fz (.int n)]⟩) := by
  by_cases hn : 0 < n
  · have h1 : (0 : Int) < (n : Int) := by omega
    rcases snoc_cases f with e | ⟨a, r, e⟩
    · subst e
      simp [L_runs_of_0, phiP, env0, sSeq, sIf, sNx, sRet, sRetN, sSet, sAsg, sPar, sPar3, sItem, sDrop, sFor, sBk, sCt, sNever, gNot, gTb, gAnd, gOr, gCallX, aCons, aNil, aStar, gVar, gC, gAndV, gOrV, gNotV, gBin, gUn, gIfE, gTup, gLst, gSl, gP, gNoP, gM, iAny, iRange, iRange2, iRev, iZip, frz, unb, setR, retR, asB, dat, slD, asg_nm, asg_tp, asgs_nil, asgs_cons, asgR, Rv.res, RF.res, Ev.put, oIs, isNonD, oCmpI, oI, oNeg, oLen, itemsOf, itemsR, revR, zipD, zipR, oTuple, oList, oBool, oIsi, oIsi2, isT, tyD, oEq_int, oEq_cc, oEq_lnil, oEq_drs, mApp, mExt, mPop, h1, add, hn, push, dr, oEq_l0]
    · obtain ⟨F1, F2, F3, F4⟩ := last_facts e
      by_cases q : r.1 = x
      · have e2 : push f x n = a ++ [(x, r.2 + n)] := by rw [e, push_app, if_pos q]
        subst q
        simp [L_runs_of_0, phiP, env0, sSeq, sIf, sNx, sRet, sRetN, sSet, sAsg, sPar, sPar3, sItem, sDrop, sFor, sBk, sCt, sNever, gNot, gTb, gAnd, gOr, gCallX, aCons, aNil, aStar, gVar, gC, gAndV, gOrV, gNotV, gBin, gUn, gIfE, gTup, gLst, gSl, gP, gNoP, gM, iAny, iRange, iRange2, iRev, iZip, frz, unb, setR, retR, asB, dat, slD, asg_nm, asg_tp, asgs_nil, asgs_cons, asgR, Rv.res, RF.res, Ev.put, oIs, isNonD, oCmpI, oI, oNeg, oLen, itemsOf, itemsR, revR, zipD, zipR, oTuple, oList, oBool, oIsi, oIsi2, isT, tyD, oEq_int, oEq_cc, oEq_lnil, oEq_drs, mApp, mExt, mPop, h1, add, hn, F1, F2, F3, F4, e2, oIx, atI_0, atI_1, oAdd, dr]
      · have e2 : push f x n = f ++ [(x, n)] := by rw [e, push_app, if_neg q]; simp
        simp [L_runs_of_0, phiP, env0, sSeq, sIf, sNx, sRet, sRetN, sSet, sAsg, sPar, sPar3, sItem, sDrop, sFor, sBk, sCt, sNever, gNot, gTb, gAnd, gOr, gCallX, aCons, aNil, aStar, gVar, gC, gAndV, gOrV, gNotV, gBin, gUn, gIfE, gTup, gLst, gSl, gP, gNoP, gM, iAny, iRange, iRange2, iRev, iZip, frz, unb, setR, retR, asB, dat, slD, asg_nm, asg_tp, asgs_nil, asgs_cons, asgR, Rv.res, RF.res, Ev.put, oIs, isNonD, oCmpI, oI, oNeg, oLen, itemsOf, itemsR, revR, zipD, zipR, oTuple, oList, oBool, oIsi, oIsi2, isT, tyD, oEq_int, oEq_cc, oEq_lnil, oEq_drs, mApp, mExt, mPop, h1, add, hn, F1, F2, e2, oIx, atI_0, atI_1, oAdd, dr, q, hl]
  · have h0 : n = 0 := by omega
    subst h0
    simp [L_runs_of_0, phiP, env0, sSeq, sIf, sNx, sRet, sRetN, sSet, sAsg, sPar, sPar3, sItem, sDrop, sFor, sBk, sCt, sNever, gNot, gTb, gAnd, gOr, gCallX, aCons, aNil, aStar, gVar, gC, gAndV, gOrV, gNotV, gBin, gUn, gIfE, gTup, gLst, gSl, gP, gNoP, gM, iAny, iRange, iRange2, iRev, iZip, frz, unb, setR, retR, asB, dat, slD, asg_nm, asg_tp, asgs_nil, asgs_cons, asgR, Rv.res, RF.res, Ev.put, oIs, isNonD, oCmpI, oI, oNeg, oLen, itemsOf, itemsR, revR, zipD, zipR, oTuple, oList, oBool, oIsi, oIsi2, isT, tyD, oEq_int, oEq_cc, oEq_lnil, oEq_drs, mApp, mExt, mPop, add]
theorem add_len (f : Rs) (r : Bool × Nat) : (add f r).length ≤ f.length + 1 := by
  unfold add
  split
  · rcases snoc_cases f with e | ⟨a, s, e⟩
    · subst e; simp [push]
    · subst e
      rw [push_app]
      split <;> simp
  · omega
theorem l_runs_of {X : D} : ∀ (rs f : Rs) (s t : Sl), f.length + rs.length < 16777216 → ∃ s' t', loopG (.tp [.nm 2, .nm 3]) L_runs_of_0 ((rs.map dr).map Rv.val) ⟨false, [.fz X, .ow (f.map dr), s, t]⟩ = some (.nx ⟨false, [.fz X, .ow ((rs.foldl add f).map dr), s', t']⟩)
  | [], f, s, t, _ => ⟨s, t, rfl⟩
  | (x, n) :: rs, f, s, t, h => by
    simp only [List.length_cons] at h
    have hl := add_len f (x, n)
    obtain ⟨s', t', ih⟩ := l_runs_of (X := X) rs (add f (x, n)) (.fz (.str [cc x])) (.fz (.int n)) (by omega)
    refine ⟨s', t', ?_⟩
    show loopG _ _ (Rv.val (dr (x, n)) :: (rs.map dr).map Rv.val) _ = _
    have e : asgR (.tp [.nm 2, .nm 3]) (Rv.val (dr (x, n))) ⟨false, [.fz X, .ow (f.map dr), s, t]⟩ = some ⟨false, [.fz X, .ow (f.map dr), .fz (.str [cc x]), .fz (.int n)]⟩ := rfl
    simp only [loopG, e, Option.bind_some, b_runs_of (X := X) (f := f) (x := x) (n := n) (by omega)]
    exact ih
theorem e_runs_of {rs : Rs} (h : rs.length < 16777216) : φ_runs_of [.lst (rs.map dr)] = some (.val (.tup ((runs (ex rs)).map dr)), []) := by
  obtain ⟨s', t', ih⟩ := l_runs_of (X := .lst (rs.map dr)) rs [] .un .un (by simpa using h)
  rw [adds_nil] at ih
  have e : loopG (.tp [.nm 2, .nm 3]) L_runs_of_0 (List.map (Rv.val ∘ dr) rs) ⟨false, [.fz (.lst (rs.map dr)), .ow [], .un, .un]⟩ = some (.nx ⟨false, [.fz (.lst (rs.map dr)), .ow ((runs (ex rs)).map dr), s', t']⟩) := by
    rw [← List.map_map]; exact ih
  simp [φ_runs_of, g_runs_of, phiP, env0, sSeq, sIf, sNx, sRet, sRetN, sSet, sAsg, sPar, sPar3, sItem, sDrop, sFor, sBk, sCt, sNever, gNot, gTb, gAnd, gOr, gCallX, aCons, aNil, aStar, gVar, gC, gAndV, gOrV, gNotV, gBin, gUn, gIfE, gTup, gLst, gSl, gP, gNoP, gM, iAny, iRange, iRange2, iRev, iZip, frz, unb, setR, retR, asB, dat, slD, asg_nm, asg_tp, asgs_nil, asgs_cons, asgR, Rv.res, RF.res, Ev.put, oIs, isNonD, oCmpI, oI, oNeg, oLen, itemsOf, itemsR, revR, zipD, zipR, oTuple, oList, oBool, oIsi, oIsi2, isT, tyD, oEq_int, oEq_cc, oEq_lnil, oEq_drs, mApp, mExt, mPop, e]
end W
end

section
set_option Elab.async false
set_option linter.all false
set_option maxRecDepth 100000
set_option maxHeartbeats 4000000
namespace W
open DL Lim
def dW (w : Wd) : D := .tup ((runs w).map dr)
/-! ## _law_name -/
theorem b_law_name {X : D} {f : Rs} {x : Bool} (hl : f.length < 16777216) : L__law_name_0 ⟨false, [.fz X, .ow (f.map dr), .fz (.str [cc x])]⟩ = some (.nx ⟨false, [.fz X, .ow ((push f x 1).map dr), .fz (.str [cc x])]⟩) := by
  rcases snoc_cases f with e | ⟨a, r, e⟩
  · subst e
    simp [L__law_name_0, phiP, env0, sSeq, sIf, sNx, sRet, sRetN, sSet, sAsg, sPar, sPar3, sItem, sDrop, sFor, sBk, sCt, sNever, gNot, gTb, gAnd, gOr, gCallX, aCons, aNil, aStar, gVar, gC, gAndV, gOrV, gNotV, gBin, gUn, gIfE, gTup, gLst, gSl, gP, gNoP, gM, iAny, iRange, iRange2, iRev, iZip, frz, unb, setR, retR, asB, dat, slD, asg_nm, asg_tp, asgs_nil, asgs_cons, asgR, Rv.res, RF.res, Ev.put, oIs, isNonD, oCmpI, oI, oNeg, oLen, itemsOf, itemsR, revR, zipD, zipR, oTuple, oList, oBool, oIsi, oIsi2, isT, tyD, oEq_int, oEq_cc, oEq_lnil, oEq_drs, mApp, mExt, mPop, push, dr, oEq_l0]
  · obtain ⟨F1, F2, F3, F4⟩ := last_facts e
    by_cases q : r.1 = x
    · have e2 : push f x 1 = a ++ [(x, r.2 + 1)] := by rw [e, push_app, if_pos q]
      subst q
      simp [L__law_name_0, phiP, env0, sSeq, sIf, sNx, sRet, sRetN, sSet, sAsg, sPar, sPar3, sItem, sDrop, sFor, sBk, sCt, sNever, gNot, gTb, gAnd, gOr, gCallX, aCons, aNil, aStar, gVar, gC, gAndV, gOrV, gNotV, gBin, gUn, gIfE, gTup, gLst, gSl, gP, gNoP, gM, iAny, iRange, iRange2, iRev, iZip, frz, unb, setR, retR, asB, dat, slD, asg_nm, asg_tp, asgs_nil, asgs_cons, asgR, Rv.res, RF.res, Ev.put, oIs, isNonD, oCmpI, oI, oNeg, oLen, itemsOf, itemsR, revR, zipD, zipR, oTuple, oList, oBool, oIsi, oIsi2, isT, tyD, oEq_int, oEq_cc, oEq_lnil, oEq_drs, mApp, mExt, mPop, F1, F2, F3, F4, e2, oIx, atI_0, atI_1, oAdd, dr]
    · have e2 : push f x 1 = f ++ [(x, 1)] := by rw [e, push_app, if_neg q]; simp
      simp [L__law_name_0, phiP, env0, sSeq, sIf, sNx, sRet, sRetN, sSet, sAsg, sPar, sPar3, sItem, sDrop, sFor, sBk, sCt, sNever, gNot, gTb, gAnd, gOr, gCallX, aCons, aNil, aStar, gVar, gC, gAndV, gOrV, gNotV, gBin, gUn, gIfE, gTup, gLst, gSl, gP, gNoP, gM, iAny, iRange, iRange2, iRev, iZip, frz, unb, setR, retR, asB, dat, slD, asg_nm, asg_tp, asgs_nil, asgs_cons, asgR, Rv.res, RF.res, Ev.put, oIs, isNonD, oCmpI, oI, oNeg, oLen, itemsOf, itemsR, revR, zipD, zipR, oTuple, oList, oBool, oIsi, oIsi2, isT, tyD, oEq_int, oEq_cc, oEq_lnil, oEq_drs, mApp, mExt, mPop, F1, F2, e2, oIx, atI_0, atI_1, oAdd, dr, q, hl]
theorem push_len (f : Rs) (x : Bool) (n : Nat) : (push f x n).length ≤ f.length + 1 := by
  rcases snoc_cases f with e | ⟨a, s, e⟩
  · subst e; simp [push]
  · subst e
    rw [push_app]
    split <;> simp
def chR (w : Wd) : List Rv := w.map fun x => .val (.str [cc x])
theorem chars_tx (w : Wd) : chars (w.map cc) = chR w := by simp [chars, chR]
theorem l_law_name {X : D} : ∀ (w : Wd) (f : Rs) (s : Sl), f.length + w.length < 16777216 → ∃ s', loopG (.nm 2) L__law_name_0 (chR w) ⟨false, [.fz X, .ow (f.map dr), s]⟩ = some (.nx ⟨false, [.fz X, .ow ((w.foldl (fun r x => push r x 1) f).map dr), s']⟩)
  | [], f, s, _ => ⟨s, rfl⟩
  | x :: w, f, s, h => by
    simp only [List.length_cons] at h
    have hl := push_len f x 1
    obtain ⟨s', ih⟩ := l_law_name (X := X) w (push f x 1) (.fz (.str [cc x])) (by omega)
    refine ⟨s', ?_⟩
    show loopG _ _ (Rv.val (.str [cc x]) :: chR w) _ = _
    have e : asgR (.nm 2) (Rv.val (.str [cc x])) ⟨false, [.fz X, .ow (f.map dr), s]⟩ = some ⟨false, [.fz X, .ow (f.map dr), .fz (.str [cc x])]⟩ := rfl
    simp only [loopG, e, Option.bind_some, b_law_name (X := X) (f := f) (x := x) (by omega)]
    exact ih
theorem e_law_name {w : Wd} (h : w.length < 16777216) : φ__law_name [tx w] = some (.val (dW w), []) := by
  obtain ⟨s', ih⟩ := l_law_name (X := tx w) w [] .un (by simpa using h)
  simp only [List.map_nil] at ih
  have e : loopG (.nm 2) L__law_name_0 (chR w) ⟨false, [.fz (.str (w.map cc)), .ow [], .un]⟩ = some (.nx ⟨false, [.fz (.str (w.map cc)), .ow ((runs w).map dr), s']⟩) := ih
  simp [φ__law_name, g__law_name, tx, dW, phiP, env0, sSeq, sIf, sNx, sRet, sRetN, sSet, sAsg, sPar, sPar3, sItem, sDrop, sFor, sBk, sCt, sNever, gNot, gTb, gAnd, gOr, gCallX, aCons, aNil, aStar, gVar, gC, gAndV, gOrV, gNotV, gBin, gUn, gIfE, gTup, gLst, gSl, gP, gNoP, gM, iAny, iRange, iRange2, iRev, iZip, frz, unb, setR, retR, asB, dat, slD, asg_nm, asg_tp, asgs_nil, asgs_cons, asgR, Rv.res, RF.res, Ev.put, oIs, isNonD, oCmpI, oI, oNeg, oLen, itemsOf, itemsR, revR, zipD, zipR, oTuple, oList, oBool, oIsi, oIsi2, isT, tyD, oEq_int, oEq_cc, oEq_lnil, oEq_drs, mApp, mExt, mPop, chars_tx, e]
/-! ## letters_in, _law_letters -/
theorem intsD_map {α : Type} (f : α → Int) : ∀ l : List α, intsD (l.map fun x => D.int (f x)) = some (l.map f)
  | [] => rfl
  | x :: l => by simp [intsD, intsD_map f l]
theorem strsD_map {α : Type} (f : α → List Nat) : ∀ l : List α, strsD (l.map fun x => D.str (f x)) = some (l.map f)
  | [] => rfl
  | x :: l => by simp [strsD, strsD_map f l]
def sndD : Rv → D
  | .val (.tup [_, d]) => d
  | _ => .non
theorem e_letters_in {w : Wd} (h : w.length < 16777216) : φ_letters_in [dW w] = some (.val (.int w.length), []) := by
  have hl := runs_len_le w
  have c1 : gComp (iAny (gVar 0)) (.tp [.nm 1, .nm 2]) gYes X_letters_in_0 [1, 2] ⟨false, [.fz (dW w), .un, .un]⟩ = some (.nw ((((runs w).map dr).map Rv.val).map sndD), ⟨false, [.fz (dW w), .un, .un]⟩) := by
    refine comp_ok sndD (items := ((runs w).map dr).map Rv.val) (by simp [phiP, env0, sSeq, sIf, sNx, sRet, sRetN, sSet, sAsg, sPar, sPar3, sItem, sDrop, sFor, sBk, sCt, sNever, gNot, gTb, gAnd, gOr, gCallX, aCons, aNil, aStar, gVar, gC, gAndV, gOrV, gNotV, gBin, gUn, gIfE, gTup, gLst, gSl, gP, gNoP, gM, iAny, iRange, iRange2, iRev, iZip, frz, unb, setR, retR, asB, dat, slD, asg_nm, asg_tp, asgs_nil, asgs_cons, asgR, Rv.res, RF.res, Ev.put, oIs, isNonD, oCmpI, oI, oNeg, oLen, itemsOf, itemsR, revR, zipD, zipR, oTuple, oList, oBool, oIsi, oIsi2, isT, tyD, oEq_int, oEq_cc, oEq_lnil, oEq_drs, mApp, mExt, mPop, dW]) (by rfl) (by rfl) (by simp; omega) ?_
    intro r hr
    simp only [List.mem_map] at hr
    obtain ⟨d, ⟨q, hq, rfl⟩, rfl⟩ := hr
    exact ⟨⟨false, [.fz (dW w), .fz (.str [cc q.1]), .fz (.int q.2)]⟩, by rfl, by rfl, by rfl, rfl⟩
  have e : (((runs w).map dr).map Rv.val).map sndD = (runs w).map fun r => D.int (r.2 : Int) := by simp [Function.comp_def, sndD, dr]
  rw [e] at c1
  have e2 : ((runs w).map fun r => (r.2 : Int)).sum = (w.length : Int) := by
    have : ∀ rs : Rs, (rs.map fun r => (r.2 : Int)).sum = ((ex rs).length : Int) := by
      intro rs
      induction rs with
      | nil => rfl
      | cons r rs ih => simp [ex, ih]
    rw [this, ex_runs]
  simp [φ_letters_in, g_letters_in, phiP, env0, sSeq, sIf, sNx, sRet, sRetN, sSet, sAsg, sPar, sPar3, sItem, sDrop, sFor, sBk, sCt, sNever, gNot, gTb, gAnd, gOr, gCallX, aCons, aNil, aStar, gVar, gC, gAndV, gOrV, gNotV, gBin, gUn, gIfE, gTup, gLst, gSl, gP, gNoP, gM, iAny, iRange, iRange2, iRev, iZip, frz, unb, setR, retR, asB, dat, slD, asg_nm, asg_tp, asgs_nil, asgs_cons, asgR, Rv.res, RF.res, Ev.put, oIs, isNonD, oCmpI, oI, oNeg, oLen, itemsOf, itemsR, revR, zipD, zipR, oTuple, oList, oBool, oIsi, oIsi2, isT, tyD, oEq_int, oEq_cc, oEq_lnil, oEq_drs, mApp, mExt, mPop, c1, oSum, intsD_map, e2]
def mulD : Rv → D
  | .val (.tup [.str s, .int n]) => .str (List.replicate n.toNat s).flatten
  | _ => .non
theorem e_law_letters {w : Wd} (h : w.length < 16777216) : φ__law_letters [dW w] = some (.val (tx w), []) := by
  have hl := runs_len_le w
  have c1 : gComp (iAny (gVar 0)) (.tp [.nm 1, .nm 2]) gYes X__law_letters_0 [1, 2] ⟨false, [.fz (dW w), .un, .un]⟩ = some (.nw ((((runs w).map dr).map Rv.val).map mulD), ⟨false, [.fz (dW w), .un, .un]⟩) := by
    refine comp_ok mulD (items := ((runs w).map dr).map Rv.val) (by simp [phiP, env0, sSeq, sIf, sNx, sRet, sRetN, sSet, sAsg, sPar, sPar3, sItem, sDrop, sFor, sBk, sCt, sNever, gNot, gTb, gAnd, gOr, gCallX, aCons, aNil, aStar, gVar, gC, gAndV, gOrV, gNotV, gBin, gUn, gIfE, gTup, gLst, gSl, gP, gNoP, gM, iAny, iRange, iRange2, iRev, iZip, frz, unb, setR, retR, asB, dat, slD, asg_nm, asg_tp, asgs_nil, asgs_cons, asgR, Rv.res, RF.res, Ev.put, oIs, isNonD, oCmpI, oI, oNeg, oLen, itemsOf, itemsR, revR, zipD, zipR, oTuple, oList, oBool, oIsi, oIsi2, isT, tyD, oEq_int, oEq_cc, oEq_lnil, oEq_drs, mApp, mExt, mPop, dW]) (by rfl) (by rfl) (by simp; omega) ?_
    intro r hr
    simp only [List.mem_map] at hr
    obtain ⟨d, ⟨q, hq, rfl⟩, rfl⟩ := hr
    refine ⟨⟨false, [.fz (dW w), .fz (.str [cc q.1]), .fz (.int q.2)]⟩, by rfl, ?_, by rfl, rfl⟩
    have l1 := run_le hq
    rw [ex_runs] at l1
    have l2 : (q.2 : Int) ≤ 16777216 := by omega
    have l3 : q.2 ≤ 16777216 := by omega
    simp [X__law_letters_0, phiP, env0, sSeq, sIf, sNx, sRet, sRetN, sSet, sAsg, sPar, sPar3, sItem, sDrop, sFor, sBk, sCt, sNever, gNot, gTb, gAnd, gOr, gCallX, aCons, aNil, aStar, gVar, gC, gAndV, gOrV, gNotV, gBin, gUn, gIfE, gTup, gLst, gSl, gP, gNoP, gM, iAny, iRange, iRange2, iRev, iZip, frz, unb, setR, retR, asB, dat, slD, asg_nm, asg_tp, asgs_nil, asgs_cons, asgR, Rv.res, RF.res, Ev.put, oIs, isNonD, oCmpI, oI, oNeg, oLen, itemsOf, itemsR, revR, zipD, zipR, oTuple, oList, oBool, oIsi, oIsi2, isT, tyD, oEq_int, oEq_cc, oEq_lnil, oEq_drs, mApp, mExt, mPop, oMul, mulD, dr, l2, l3]
  have e : (((runs w).map dr).map Rv.val).map mulD = (runs w).map fun r => D.str ((List.replicate r.2 r.1).map cc) := by simp [Function.comp_def, mulD, dr, List.flatten_replicate_singleton]
  rw [e] at c1
  have e2 : ((runs w).map fun r => (List.replicate r.2 r.1).map cc).flatten = w.map cc := by
    have : ∀ rs : Rs, (rs.map fun r => (List.replicate r.2 r.1).map cc).flatten = (ex rs).map cc := by
      intro rs
      induction rs with
      | nil => rfl
      | cons r rs ih => simp only [List.map_cons, List.flatten_cons, ih, ex, List.map_append]
    rw [this, ex_runs]
  have e3 : (((runs w).map fun r => (List.replicate r.2 r.1).map cc).map (·.length)).sum ≤ 16777216 := by
    have : (((runs w).map fun r => (List.replicate r.2 r.1).map cc).map (·.length)).sum = w.length := by
      rw [← List.length_flatten, e2, List.length_map]
    omega
  have e4 : oJoin (.lst ((runs w).map fun r => D.str ((List.replicate r.2 r.1).map cc))) = some (.val (tx w)) := by
    simp only [oJoin, strsD_map, Option.bind_some]
    rw [if_pos e3, e2]
    rfl
  simp only [List.map_replicate] at c1 e4
  simp [φ__law_letters, g__law_letters, phiP, env0, sSeq, sIf, sNx, sRet, sRetN, sSet, sAsg, sPar, sPar3, sItem, sDrop, sFor, sBk, sCt, sNever, gNot, gTb, gAnd, gOr, gCallX, aCons, aNil, aStar, gVar, gC, gAndV, gOrV, gNotV, gBin, gUn, gIfE, gTup, gLst, gSl, gP, gNoP, gM, iAny, iRange, iRange2, iRev, iZip, frz, unb, setR, retR, asB, dat, slD, asg_nm, asg_tp, asgs_nil, asgs_cons, asgR, Rv.res, RF.res, Ev.put, oIs, isNonD, oCmpI, oI, oNeg, oLen, itemsOf, itemsR, revR, zipD, zipR, oTuple, oList, oBool, oIsi, oIsi2, isT, tyD, oEq_int, oEq_cc, oEq_lnil, oEq_drs, mApp, mExt, mPop, c1, e4]
end W
end

section
set_option Elab.async false
set_option linter.all false
set_option maxRecDepth 100000
set_option maxHeartbeats 4000000
namespace Lim
def mmul (M N : Mat) : Mat := ⟨M.a * N.a + M.b * N.c, M.a * N.b + M.b * N.d, M.c * N.a + M.d * N.c, M.c * N.b + M.d * N.d⟩
theorem step_mmul (x : Bool) (M N : Mat) : step x (mmul M N) = mmul (step x M) N := by
  cases x <;> (simp only [step, mmul, Mat.mk.injEq]; grind)
theorem mat_app : ∀ u v : Wd, mat (u ++ v) = mmul (mat u) (mat v)
  | [], v => by simp [mat, mmul]
  | x :: u, v => by
    show step x (mat (u ++ v)) = mmul (step x (mat u)) (mat v)
    rw [mat_app u v, step_mmul]
theorem mat_rep_b : ∀ n : Nat, mat (List.replicate n true) = ⟨1, n, 0, 1⟩
  | 0 => rfl
  | n + 1 => by
    show step true (mat (List.replicate n true)) = _
    rw [mat_rep_b n]
    simp [step, Int.add_comm]
theorem mat_rep_a : ∀ n : Nat, mat (List.replicate n false) = ⟨1, 0, n, 1⟩
  | 0 => rfl
  | n + 1 => by
    show step false (mat (List.replicate n false)) = _
    rw [mat_rep_a n]
    simp [step]
theorem mmul_assoc (A B C : Mat) : mmul (mmul A B) C = mmul A (mmul B C) := by
  simp only [mmul, Mat.mk.injEq]; grind
theorem actw_rep_a : ∀ (n : Nat) (v : Int × Int), actw (List.replicate n false) v = (v.1 + n * v.2, v.2)
  | 0, v => by simp [actw]
  | n + 1, v => by
    show act false (actw (List.replicate n false) v) = _
    rw [actw_rep_a n]
    simp only [act]
    ext
    · simp; grind
    · rfl
theorem actw_rep_b : ∀ (n : Nat) (v : Int × Int), actw (List.replicate n true) v = (v.1, v.2 + n * v.1)
  | 0, v => by simp [actw]
  | n + 1, v => by
    show act true (actw (List.replicate n true) v) = _
    rw [actw_rep_b n]
    simp only [act]
    ext
    · rfl
    · simp; grind
theorem actw_add : ∀ (w : Wd) (u v : Int × Int), actw w (u.1 + v.1, u.2 + v.2) = ((actw w u).1 + (actw w v).1, (actw w u).2 + (actw w v).2)
  | [], _, _ => rfl
  | x :: w, u, v => by
    show act x (actw w _) = ((act x (actw w u)).1 + (act x (actw w v)).1, (act x (actw w u)).2 + (act x (actw w v)).2)
    rw [actw_add w u v]
    generalize actw w u = a
    generalize actw w v = b
    cases x
    · simp only [act, Prod.mk.injEq, and_true]; omega
    · simp only [act, Prod.mk.injEq, true_and]; omega
end Lim
namespace W
open DL Lim
theorem cMul_small {n : Nat} (h : n < 2 ^ 64) (x : Int) : cMul (n : Int) x = true := by
  unfold cMul
  have : decide ((n : Int).natAbs < 2 ^ 64) = true := by simpa using h
  rw [this]
  simp
def sM (X : D) (M : Mat) (s t : Sl) : Ev := ⟨false, [.fz X, .fz (.int M.a), .fz (.int M.b), .fz (.int M.c), .fz (.int M.d), s, t]⟩
theorem oEq_str (neg : Bool) (x : Bool) : oEq neg (.str [cc x]) (.str [98]) = some (.val (.bl (if neg then !x else x))) := by
  have := oEq_cc neg x true
  rw [show cc true = 98 from rfl] at this
  rw [this]
  cases x <;> cases neg <;> rfl
theorem oEq_strA (neg : Bool) (x : Bool) : oEq neg (.str [cc x]) (.str [97]) = some (.val (.bl (if neg then x else !x))) := by
  have := oEq_cc neg x false
  rw [show cc false = 97 from rfl] at this
  rw [this]
  cases x <;> cases neg <;> rfl
theorem b_machine {X : D} {M : Mat} {x : Bool} {n : Nat} (hn : n < 2 ^ 64) : L_machine_of_0 (sM X M (.fz (.str [cc x])) (.fz (.int n))) = some (.nx (sM X (mmul M (mat (List.replicate n x))) (.fz (.str [cc x])) (.fz (.int n)))) := by
  have c := cMul_small hn
  cases x
  · have e : mmul M (mat (List.replicate n false)) = ⟨M.a + n * M.b, M.b, M.c + n * M.d, M.d⟩ := by
      rw [mat_rep_a]; simp only [mmul, Mat.mk.injEq]; grind
    rw [e]
    simp [L_machine_of_0, sM, phiP, env0, sSeq, sIf, sNx, sRet, sRetN, sSet, sAsg, sPar, sPar3, sItem, sDrop, sFor, sBk, sCt, sNever, gNot, gTb, gAnd, gOr, gCallX, aCons, aNil, aStar, gVar, gC, gAndV, gOrV, gNotV, gBin, gUn, gIfE, gTup, gLst, gSl, gP, gNoP, gM, iAny, iRange, iRange2, iRev, iZip, frz, unb, setR, retR, asB, dat, slD, asg_nm, asg_tp, asgs_nil, asgs_cons, asgR, Rv.res, RF.res, Ev.put, oIs, isNonD, oCmpI, oI, oNeg, oLen, itemsOf, itemsR, revR, zipD, zipR, oTuple, oList, oBool, oIsi, oIsi2, isT, tyD, oEq_int, oEq_cc, oEq_lnil, oEq_drs, mApp, mExt, mPop, k_B, oEq_str, c, oMul, oAdd]
  · have e : mmul M (mat (List.replicate n true)) = ⟨M.a, M.b + n * M.a, M.c, M.d + n * M.c⟩ := by
      rw [mat_rep_b]; simp only [mmul, Mat.mk.injEq]; grind
    rw [e]
    simp [L_machine_of_0, sM, phiP, env0, sSeq, sIf, sNx, sRet, sRetN, sSet, sAsg, sPar, sPar3, sItem, sDrop, sFor, sBk, sCt, sNever, gNot, gTb, gAnd, gOr, gCallX, aCons, aNil, aStar, gVar, gC, gAndV, gOrV, gNotV, gBin, gUn, gIfE, gTup, gLst, gSl, gP, gNoP, gM, iAny, iRange, iRange2, iRev, iZip, frz, unb, setR, retR, asB, dat, slD, asg_nm, asg_tp, asgs_nil, asgs_cons, asgR, Rv.res, RF.res, Ev.put, oIs, isNonD, oCmpI, oI, oNeg, oLen, itemsOf, itemsR, revR, zipD, zipR, oTuple, oList, oBool, oIsi, oIsi2, isT, tyD, oEq_int, oEq_cc, oEq_lnil, oEq_drs, mApp, mExt, mPop, k_B, oEq_str, c, oMul, oAdd]
theorem l_machine {X : D} : ∀ (rs : Rs) (M : Mat) (s t : Sl), (∀ r ∈ rs, r.2 < 2 ^ 64) → ∃ s' t', loopG (.tp [.nm 5, .nm 6]) L_machine_of_0 ((rs.map dr).map Rv.val) (sM X M s t) = some (.nx (sM X (mmul M (mat (ex rs))) s' t'))
  | [], M, s, t, _ => ⟨s, t, by simp [loopG, ex, mat, mmul]⟩
  | (x, n) :: rs, M, s, t, h => by
    obtain ⟨s', t', ih⟩ := l_machine (X := X) rs (mmul M (mat (List.replicate n x))) (.fz (.str [cc x])) (.fz (.int n)) (fun r hr => h r (by simp [hr]))
    refine ⟨s', t', ?_⟩
    show loopG _ _ (Rv.val (dr (x, n)) :: (rs.map dr).map Rv.val) _ = _
    have e : asgR (.tp [.nm 5, .nm 6]) (Rv.val (dr (x, n))) (sM X M s t) = some (sM X M (.fz (.str [cc x])) (.fz (.int n))) := rfl
    have hb := b_machine (X := X) (M := M) (x := x) (n := n) (h (x, n) (by simp))
    simp only [loopG, e, Option.bind_some, hb]
    rw [ih, mmul_assoc, ← mat_app]
    rfl
theorem e_machine_of {w : Wd} (h : w.length < 16777216) : φ_machine_of [dW w] = some (.val (.tup [.int (mat w).a, .int (mat w).b, .int (mat w).c, .int (mat w).d]), []) := by
  obtain ⟨s', t', ih⟩ := l_machine (X := dW w) (runs w) ⟨1, 0, 0, 1⟩ .un .un (fun r hr => by have := run_le hr; rw [ex_runs] at this; omega)
  have e1 : mmul ⟨1, 0, 0, 1⟩ (mat (ex (runs w))) = mat w := by rw [ex_runs]; simp [mmul]
  rw [e1] at ih
  simp only [List.map_map, dW, sM] at ih
  simp [φ_machine_of, g_machine_of, phiP, env0, sSeq, sIf, sNx, sRet, sRetN, sSet, sAsg, sPar, sPar3, sItem, sDrop, sFor, sBk, sCt, sNever, gNot, gTb, gAnd, gOr, gCallX, aCons, aNil, aStar, gVar, gC, gAndV, gOrV, gNotV, gBin, gUn, gIfE, gTup, gLst, gSl, gP, gNoP, gM, iAny, iRange, iRange2, iRev, iZip, frz, unb, setR, retR, asB, dat, slD, asg_nm, asg_tp, asgs_nil, asgs_cons, asgR, Rv.res, RF.res, Ev.put, oIs, isNonD, oCmpI, oI, oNeg, oLen, itemsOf, itemsR, revR, zipD, zipR, oTuple, oList, oBool, oIsi, oIsi2, isT, tyD, oEq_int, oEq_cc, oEq_lnil, oEq_drs, mApp, mExt, mPop, dW, ih]
/-! ## ways_in, slant_in -/
def dv2 (v : Int × Int) : D := .tup [.int v.1, .int v.2]
def sY (X : D) (u v : Int × Int) (s t p q : Sl) : Ev := ⟨false, [.fz X, .ow [dv2 u, dv2 v], s, t, p, q]⟩
def dvA (x : Bool) (n : Nat) : Rv → D
  | .val (.tup [.int p, .int q]) => dv2 (actw (List.replicate n x) (p, q))
  | _ => .non
theorem b_ways {X : D} {u v : Int × Int} {x : Bool} {n : Nat} {p q : Sl} (hp : p = .un) (hq : q = .un) (hn : n < 2 ^ 64) : L_ways_in_0 (sY X u v (.fz (.str [cc x])) (.fz (.int n)) p q) = some (.nx (sY X (actw (List.replicate n x) u) (actw (List.replicate n x) v) (.fz (.str [cc x])) (.fz (.int n)) p q)) := by
  subst hp hq
  have c := cMul_small hn
  have c1 : gComp (iAny (gVar 1)) (.tp [.nm 4, .nm 5]) gYes X_ways_in_0 [4, 5] (sY X u v (.fz (.str [cc x])) (.fz (.int n)) .un .un) = some (.nw ([Rv.val (dv2 u), Rv.val (dv2 v)].map (dvA x n)), ⟨false, [.fz X, .fz (.lst [dv2 u, dv2 v]), .fz (.str [cc x]), .fz (.int n), .un, .un]⟩) := by
    refine comp_ok (dvA x n) (items := [Rv.val (dv2 u), Rv.val (dv2 v)]) (by simp [phiP, env0, sSeq, sIf, sNx, sRet, sRetN, sSet, sAsg, sPar, sPar3, sItem, sDrop, sFor, sBk, sCt, sNever, gNot, gTb, gAnd, gOr, gCallX, aCons, aNil, aStar, gVar, gC, gAndV, gOrV, gNotV, gBin, gUn, gIfE, gTup, gLst, gSl, gP, gNoP, gM, iAny, iRange, iRange2, iRev, iZip, frz, unb, setR, retR, asB, dat, slD, asg_nm, asg_tp, asgs_nil, asgs_cons, asgR, Rv.res, RF.res, Ev.put, oIs, isNonD, oCmpI, oI, oNeg, oLen, itemsOf, itemsR, revR, zipD, zipR, oTuple, oList, oBool, oIsi, oIsi2, isT, tyD, oEq_int, oEq_cc, oEq_lnil, oEq_drs, mApp, mExt, mPop, sY]) (by rfl) (by rfl) (by simp) ?_
    intro r hr
    have : ∃ w : Int × Int, r = Rv.val (dv2 w) := by
      simp at hr
      rcases hr with e | e
      · exact ⟨u, e⟩
      · exact ⟨v, e⟩
    obtain ⟨w, rfl⟩ := this
    refine ⟨⟨false, [.fz X, .fz (.lst [dv2 u, dv2 v]), .fz (.str [cc x]), .fz (.int n), .fz (.int w.1), .fz (.int w.2)]⟩, by rfl, ?_, by rfl, rfl⟩
    cases x
    · simp [X_ways_in_0, phiP, env0, sSeq, sIf, sNx, sRet, sRetN, sSet, sAsg, sPar, sPar3, sItem, sDrop, sFor, sBk, sCt, sNever, gNot, gTb, gAnd, gOr, gCallX, aCons, aNil, aStar, gVar, gC, gAndV, gOrV, gNotV, gBin, gUn, gIfE, gTup, gLst, gSl, gP, gNoP, gM, iAny, iRange, iRange2, iRev, iZip, frz, unb, setR, retR, asB, dat, slD, asg_nm, asg_tp, asgs_nil, asgs_cons, asgR, Rv.res, RF.res, Ev.put, oIs, isNonD, oCmpI, oI, oNeg, oLen, itemsOf, itemsR, revR, zipD, zipR, oTuple, oList, oBool, oIsi, oIsi2, isT, tyD, oEq_int, oEq_cc, oEq_lnil, oEq_drs, mApp, mExt, mPop, k_A, oEq_strA, oMul, oAdd, c, dvA, dv2, actw_rep_a]
    · simp [X_ways_in_0, phiP, env0, sSeq, sIf, sNx, sRet, sRetN, sSet, sAsg, sPar, sPar3, sItem, sDrop, sFor, sBk, sCt, sNever, gNot, gTb, gAnd, gOr, gCallX, aCons, aNil, aStar, gVar, gC, gAndV, gOrV, gNotV, gBin, gUn, gIfE, gTup, gLst, gSl, gP, gNoP, gM, iAny, iRange, iRange2, iRev, iZip, frz, unb, setR, retR, asB, dat, slD, asg_nm, asg_tp, asgs_nil, asgs_cons, asgR, Rv.res, RF.res, Ev.put, oIs, isNonD, oCmpI, oI, oNeg, oLen, itemsOf, itemsR, revR, zipD, zipR, oTuple, oList, oBool, oIsi, oIsi2, isT, tyD, oEq_int, oEq_cc, oEq_lnil, oEq_drs, mApp, mExt, mPop, k_A, oEq_strA, oMul, oAdd, c, dvA, dv2, actw_rep_b]
  have e : [Rv.val (dv2 u), Rv.val (dv2 v)].map (dvA x n) = [dv2 (actw (List.replicate n x) u), dv2 (actw (List.replicate n x) v)] := rfl
  rw [e] at c1
  simp [L_ways_in_0, phiP, env0, sSeq, sIf, sNx, sRet, sRetN, sSet, sAsg, sPar, sPar3, sItem, sDrop, sFor, sBk, sCt, sNever, gNot, gTb, gAnd, gOr, gCallX, aCons, aNil, aStar, gVar, gC, gAndV, gOrV, gNotV, gBin, gUn, gIfE, gTup, gLst, gSl, gP, gNoP, gM, iAny, iRange, iRange2, iRev, iZip, frz, unb, setR, retR, asB, dat, slD, asg_nm, asg_tp, asgs_nil, asgs_cons, asgR, Rv.res, RF.res, Ev.put, oIs, isNonD, oCmpI, oI, oNeg, oLen, itemsOf, itemsR, revR, zipD, zipR, oTuple, oList, oBool, oIsi, oIsi2, isT, tyD, oEq_int, oEq_cc, oEq_lnil, oEq_drs, mApp, mExt, mPop, c1]
  rfl
theorem l_ways {X : D} : ∀ (rs : Rs) (u v : Int × Int) (s t : Sl), (∀ r ∈ rs, r.2 < 2 ^ 64) → ∃ s' t', loopG (.tp [.nm 2, .nm 3]) L_ways_in_0 ((rs.map dr).map Rv.val) (sY X u v s t .un .un) = some (.nx (sY X (actw (ex rs.reverse) u) (actw (ex rs.reverse) v) s' t' .un .un))
  | [], u, v, s, t, _ => ⟨s, t, rfl⟩
  | (x, n) :: rs, u, v, s, t, h => by
    obtain ⟨s', t', ih⟩ := l_ways (X := X) rs (actw (List.replicate n x) u) (actw (List.replicate n x) v) (.fz (.str [cc x])) (.fz (.int n)) (fun r hr => h r (by simp [hr]))
    refine ⟨s', t', ?_⟩
    show loopG _ _ (Rv.val (dr (x, n)) :: (rs.map dr).map Rv.val) _ = _
    have e : asgR (.tp [.nm 2, .nm 3]) (Rv.val (dr (x, n))) (sY X u v s t .un .un) = some (sY X u v (.fz (.str [cc x])) (.fz (.int n)) .un .un) := rfl
    have hb := b_ways (X := X) (u := u) (v := v) (x := x) (n := n) (p := .un) (q := .un) rfl rfl (h (x, n) (by simp))
    simp only [loopG, e, Option.bind_some, hb]
    rw [ih, ← actw_app, ← actw_app, List.reverse_cons, ex_app]
    simp [ex]
theorem e_ways_in {w : Wd} (h : w.length < 16777216) : φ_ways_in [dW w] = some (.val (.tup [dv2 (actw w (1, 0)), dv2 (actw w (0, 1))]), []) := by
  obtain ⟨s', t', ih⟩ := l_ways (X := dW w) (runs w).reverse (1, 0) (0, 1) .un .un (fun r hr => by have := run_le (List.mem_reverse.mp hr); rw [ex_runs] at this; omega)
  rw [List.reverse_reverse, ex_runs] at ih
  simp only [List.map_map, dW, sY, dv2] at ih
  simp [φ_ways_in, g_ways_in, phiP, env0, sSeq, sIf, sNx, sRet, sRetN, sSet, sAsg, sPar, sPar3, sItem, sDrop, sFor, sBk, sCt, sNever, gNot, gTb, gAnd, gOr, gCallX, aCons, aNil, aStar, gVar, gC, gAndV, gOrV, gNotV, gBin, gUn, gIfE, gTup, gLst, gSl, gP, gNoP, gM, iAny, iRange, iRange2, iRev, iZip, frz, unb, setR, retR, asB, dat, slD, asg_nm, asg_tp, asgs_nil, asgs_cons, asgR, Rv.res, RF.res, Ev.put, oIs, isNonD, oCmpI, oI, oNeg, oLen, itemsOf, itemsR, revR, zipD, zipR, oTuple, oList, oBool, oIsi, oIsi2, isT, tyD, oEq_int, oEq_cc, oEq_lnil, oEq_drs, mApp, mExt, mPop, dW, ← List.map_reverse, ih, dv2]
theorem e_slant_in {w : Wd} (h : w.length < 16777216) : φ_slant_in [dW w] = some (.val (dv2 (back w)), []) := by
  have e1 := e_ways_in h
  have e2 := actw_add w (1, 0) (0, 1)
  simp only [Int.add_zero, Int.zero_add, actw_back] at e2
  have e3 : ∀ u v : Int × Int, φ_added [.tup [.int u.1, .int u.2], .tup [.int v.1, .int v.2]] = some (.val (.tup [.int (u.1 + v.1), .int (u.2 + v.2)]), []) := fun u v => by
    simp [φ_added, g_added, phiP, env0, sSeq, sIf, sNx, sRet, sRetN, sSet, sAsg, sPar, sPar3, sItem, sDrop, sFor, sBk, sCt, sNever, gNot, gTb, gAnd, gOr, gCallX, aCons, aNil, aStar, gVar, gC, gAndV, gOrV, gNotV, gBin, gUn, gIfE, gTup, gLst, gSl, gP, gNoP, gM, iAny, iRange, iRange2, iRev, iZip, frz, unb, setR, retR, asB, dat, slD, asg_nm, asg_tp, asgs_nil, asgs_cons, asgR, Rv.res, RF.res, Ev.put, oIs, isNonD, oCmpI, oI, oNeg, oLen, itemsOf, itemsR, revR, zipD, zipR, oTuple, oList, oBool, oIsi, oIsi2, isT, tyD, oEq_int, oEq_cc, oEq_lnil, oEq_drs, mApp, mExt, mPop, oIx, atI_0, atI_1, oAdd]
  simp [φ_slant_in, g_slant_in, phiP, env0, sSeq, sIf, sNx, sRet, sRetN, sSet, sAsg, sPar, sPar3, sItem, sDrop, sFor, sBk, sCt, sNever, gNot, gTb, gAnd, gOr, gCallX, aCons, aNil, aStar, gVar, gC, gAndV, gOrV, gNotV, gBin, gUn, gIfE, gTup, gLst, gSl, gP, gNoP, gM, iAny, iRange, iRange2, iRev, iZip, frz, unb, setR, retR, asB, dat, slD, asg_nm, asg_tp, asgs_nil, asgs_cons, asgR, Rv.res, RF.res, Ev.put, oIs, isNonD, oCmpI, oI, oNeg, oLen, itemsOf, itemsR, revR, zipD, zipR, oTuple, oList, oBool, oIsi, oIsi2, isT, tyD, oEq_int, oEq_cc, oEq_lnil, oEq_drs, mApp, mExt, mPop, e1, dv2, e3, e2]
end W
end

section
set_option Elab.async false
set_option linter.all false
set_option maxRecDepth 100000
set_option maxHeartbeats 4000000
namespace W
open DL Lim
/-! ## sizes -/
def Sm (k : Nat) (x : Int) : Prop := x.natAbs < 2 ^ k
theorem Sm.mono {j k : Nat} {x : Int} (h : Sm j x) (hk : j ≤ k) : Sm k x := Nat.lt_of_lt_of_le h (Nat.pow_le_pow_right (by decide) hk)
theorem Sm.add {j k : Nat} {x y : Int} (h : Sm j x) (h2 : Sm j y) (hk : j + 1 ≤ k) : Sm k (x + y) := by
  refine Sm.mono (j := j + 1) ?_ hk
  have := Int.natAbs_add_le x y
  unfold Sm at *
  rw [Nat.pow_succ]
  omega
theorem Sm.neg {k : Nat} {x : Int} (h : Sm k x) : Sm k (-x) := by unfold Sm at *; rwa [Int.natAbs_neg]
theorem Sm.sub {j k : Nat} {x y : Int} (h : Sm j x) (h2 : Sm j y) (hk : j + 1 ≤ k) : Sm k (x - y) := by
  rw [Int.sub_eq_add_neg]
  exact h.add h2.neg hk
theorem Sm.mul {i j k : Nat} {x y : Int} (h : Sm i x) (h2 : Sm j y) (hk : i + j ≤ k) : Sm k (x * y) := by
  refine Sm.mono (j := i + j) ?_ hk
  unfold Sm at *
  rw [Int.natAbs_mul, Nat.pow_add]
  exact Nat.mul_lt_mul'' h h2
theorem Sm.cMul {i j : Nat} {x y : Int} (h : Sm i x) (h2 : Sm j y) (h0 : 0 < i := by decide) (h1 : 0 < j := by decide) (hk : i + j ≤ 1000000 := by decide) : cMul x y = true := by
  have := L2.wide_mul h h2 h0 h1 hk
  unfold L2.CMulW at this
  unfold DL.cMul
  rw [decide_eq_true this]
  simp
theorem Sm.log {k : Nat} {x : Int} (h : Sm k x) (h0 : 0 < k := by decide) (hk : k ≤ 9000 := by decide) : x.natAbs.log2 < 9000 := Nat.lt_of_lt_of_le (PySem.Flt.log2_lt_of h0 h) hk
theorem Sm.le {k : Nat} {x y : Int} (h : Sm k y) (h1 : x.natAbs ≤ y.natAbs) : Sm k x := Nat.lt_of_le_of_lt h1 h
theorem Sm.big {n : Nat} (h : Sm 3000 (n : Int)) : n < big := by
  unfold Sm at h
  rw [Int.natAbs_natCast] at h
  refine Nat.lt_trans h ?_
  decide +kernel
/-! ## common -/
theorem oAbs_int (i : Int) : oAbs (.int i) = some (.val (.int (i.natAbs : Int))) := by
  simp only [oAbs, Option.some.injEq, Rv.val.injEq, D.int.injEq]
  split <;> omega
theorem l_common : ∀ (N m n : Nat), n < N → whileG C_common_0 L_common_0 N ⟨false, [.fz (.int m), .fz (.int n)]⟩ = some (.nx ⟨false, [.fz (.int (Nat.gcd m n : Nat)), .fz (.int 0)]⟩)
  | 0, m, n, h => by omega
  | N + 1, m, n, h => by
    rcases Nat.eq_zero_or_pos n with e | e
    · subst e
      simp [whileG, C_common_0, phiP, env0, sSeq, sIf, sNx, sRet, sRetN, sSet, sAsg, sPar, sPar3, sItem, sDrop, sFor, sBk, sCt, sNever, gNot, gTb, gAnd, gOr, gCallX, aCons, aNil, aStar, gVar, gC, gAndV, gOrV, gNotV, gBin, gUn, gIfE, gTup, gLst, gSl, gP, gNoP, gM, iAny, iRange, iRange2, iRev, iZip, frz, unb, setR, retR, asB, dat, slD, asg_nm, asg_tp, asgs_nil, asgs_cons, asgR, Rv.res, RF.res, Ev.put, oIs, isNonD, oCmpI, oI, oNeg, oLen, itemsOf, itemsR, revR, zipD, zipR, oTuple, oList, oBool, oIsi, oIsi2, isT, tyD, oEq_int, oEq_cc, oEq_lnil, oEq_drs, mApp, mExt, mPop]
    · have ne : ¬ n = 0 := by omega
      have e1 : C_common_0 ⟨false, [.fz (.int m), .fz (.int n)]⟩ = some (true, ⟨false, [.fz (.int m), .fz (.int n)]⟩) := by
        simp [C_common_0, phiP, env0, sSeq, sIf, sNx, sRet, sRetN, sSet, sAsg, sPar, sPar3, sItem, sDrop, sFor, sBk, sCt, sNever, gNot, gTb, gAnd, gOr, gCallX, aCons, aNil, aStar, gVar, gC, gAndV, gOrV, gNotV, gBin, gUn, gIfE, gTup, gLst, gSl, gP, gNoP, gM, iAny, iRange, iRange2, iRev, iZip, frz, unb, setR, retR, asB, dat, slD, asg_nm, asg_tp, asgs_nil, asgs_cons, asgR, Rv.res, RF.res, Ev.put, oIs, isNonD, oCmpI, oI, oNeg, oLen, itemsOf, itemsR, revR, zipD, zipR, oTuple, oList, oBool, oIsi, oIsi2, isT, tyD, oEq_int, oEq_cc, oEq_lnil, oEq_drs, mApp, mExt, mPop, ne]
      have e2 : L_common_0 ⟨false, [.fz (.int m), .fz (.int n)]⟩ = some (.nx ⟨false, [.fz (.int n), .fz (.int (m % n : Nat))]⟩) := by
        simp [L_common_0, phiP, env0, sSeq, sIf, sNx, sRet, sRetN, sSet, sAsg, sPar, sPar3, sItem, sDrop, sFor, sBk, sCt, sNever, gNot, gTb, gAnd, gOr, gCallX, aCons, aNil, aStar, gVar, gC, gAndV, gOrV, gNotV, gBin, gUn, gIfE, gTup, gLst, gSl, gP, gNoP, gM, iAny, iRange, iRange2, iRev, iZip, frz, unb, setR, retR, asB, dat, slD, asg_nm, asg_tp, asgs_nil, asgs_cons, asgR, Rv.res, RF.res, Ev.put, oIs, isNonD, oCmpI, oI, oNeg, oLen, itemsOf, itemsR, revR, zipD, zipR, oTuple, oList, oBool, oIsi, oIsi2, isT, tyD, oEq_int, oEq_cc, oEq_lnil, oEq_drs, mApp, mExt, mPop, fMod, e]
      simp only [whileG, e1, Option.bind_some, if_true, e2]
      rw [l_common N n (m % n) (by have := Nat.mod_lt m e; omega)]
      have : Nat.gcd n (m % n) = Nat.gcd m n := by rw [Nat.gcd_comm n, ← Nat.gcd_rec, Nat.gcd_comm]
      rw [this]
theorem e_common (a b : Int) (h : Sm 3000 b) : φ_common [.int a, .int b] = some (.val (.int (Nat.gcd a.natAbs b.natAbs : Nat)), []) := by
  have e := l_common big a.natAbs b.natAbs (Sm.big (by unfold Sm at *; simpa using h))
  simp [φ_common, g_common, phiP, env0, sSeq, sIf, sNx, sRet, sRetN, sSet, sAsg, sPar, sPar3, sItem, sDrop, sFor, sBk, sCt, sNever, gNot, gTb, gAnd, gOr, gCallX, aCons, aNil, aStar, gVar, gC, gAndV, gOrV, gNotV, gBin, gUn, gIfE, gTup, gLst, gSl, gP, gNoP, gM, iAny, iRange, iRange2, iRev, iZip, frz, unb, setR, retR, asB, dat, slD, asg_nm, asg_tp, asgs_nil, asgs_cons, asgR, Rv.res, RF.res, Ev.put, oIs, isNonD, oCmpI, oI, oNeg, oLen, itemsOf, itemsR, revR, zipD, zipR, oTuple, oList, oBool, oIsi, oIsi2, isT, tyD, oEq_int, oEq_cc, oEq_lnil, oEq_drs, mApp, mExt, mPop, oAbs_int, e]
theorem l_law_common : ∀ (N m n : Nat), n < N → whileG C__law_common_0 L__law_common_0 N ⟨false, [.fz (.int m), .fz (.int n)]⟩ = some (.nx ⟨false, [.fz (.int (Nat.gcd m n : Nat)), .fz (.int 0)]⟩)
  | 0, m, n, h => by omega
  | N + 1, m, n, h => by
    rcases Nat.eq_zero_or_pos n with e | e
    · subst e
      simp [whileG, C__law_common_0, phiP, env0, sSeq, sIf, sNx, sRet, sRetN, sSet, sAsg, sPar, sPar3, sItem, sDrop, sFor, sBk, sCt, sNever, gNot, gTb, gAnd, gOr, gCallX, aCons, aNil, aStar, gVar, gC, gAndV, gOrV, gNotV, gBin, gUn, gIfE, gTup, gLst, gSl, gP, gNoP, gM, iAny, iRange, iRange2, iRev, iZip, frz, unb, setR, retR, asB, dat, slD, asg_nm, asg_tp, asgs_nil, asgs_cons, asgR, Rv.res, RF.res, Ev.put, oIs, isNonD, oCmpI, oI, oNeg, oLen, itemsOf, itemsR, revR, zipD, zipR, oTuple, oList, oBool, oIsi, oIsi2, isT, tyD, oEq_int, oEq_cc, oEq_lnil, oEq_drs, mApp, mExt, mPop]
    · have e1 : C__law_common_0 ⟨false, [.fz (.int m), .fz (.int n)]⟩ = some (true, ⟨false, [.fz (.int m), .fz (.int n)]⟩) := by
        simp [C__law_common_0, phiP, env0, sSeq, sIf, sNx, sRet, sRetN, sSet, sAsg, sPar, sPar3, sItem, sDrop, sFor, sBk, sCt, sNever, gNot, gTb, gAnd, gOr, gCallX, aCons, aNil, aStar, gVar, gC, gAndV, gOrV, gNotV, gBin, gUn, gIfE, gTup, gLst, gSl, gP, gNoP, gM, iAny, iRange, iRange2, iRev, iZip, frz, unb, setR, retR, asB, dat, slD, asg_nm, asg_tp, asgs_nil, asgs_cons, asgR, Rv.res, RF.res, Ev.put, oIs, isNonD, oCmpI, oI, oNeg, oLen, itemsOf, itemsR, revR, zipD, zipR, oTuple, oList, oBool, oIsi, oIsi2, isT, tyD, oEq_int, oEq_cc, oEq_lnil, oEq_drs, mApp, mExt, mPop, e]
      have e2 : L__law_common_0 ⟨false, [.fz (.int m), .fz (.int n)]⟩ = some (.nx ⟨false, [.fz (.int n), .fz (.int (m % n : Nat))]⟩) := by
        simp [L__law_common_0, phiP, env0, sSeq, sIf, sNx, sRet, sRetN, sSet, sAsg, sPar, sPar3, sItem, sDrop, sFor, sBk, sCt, sNever, gNot, gTb, gAnd, gOr, gCallX, aCons, aNil, aStar, gVar, gC, gAndV, gOrV, gNotV, gBin, gUn, gIfE, gTup, gLst, gSl, gP, gNoP, gM, iAny, iRange, iRange2, iRev, iZip, frz, unb, setR, retR, asB, dat, slD, asg_nm, asg_tp, asgs_nil, asgs_cons, asgR, Rv.res, RF.res, Ev.put, oIs, isNonD, oCmpI, oI, oNeg, oLen, itemsOf, itemsR, revR, zipD, zipR, oTuple, oList, oBool, oIsi, oIsi2, isT, tyD, oEq_int, oEq_cc, oEq_lnil, oEq_drs, mApp, mExt, mPop, fMod, e, oInt]
      simp only [whileG, e1, Option.bind_some, if_true, e2]
      rw [l_law_common N n (m % n) (by have := Nat.mod_lt m e; omega)]
      have : Nat.gcd n (m % n) = Nat.gcd m n := by rw [Nat.gcd_comm n, ← Nat.gcd_rec, Nat.gcd_comm]
      rw [this]
theorem e_law_common (a b : Nat) (h : Sm 3000 (b : Int)) : φ__law_common [.int a, .int b] = some (.val (.int (Nat.gcd a b : Nat)), []) := by
  have e := l_law_common big a b (Sm.big h)
  simp [φ__law_common, g__law_common, phiP, env0, sSeq, sIf, sNx, sRet, sRetN, sSet, sAsg, sPar, sPar3, sItem, sDrop, sFor, sBk, sCt, sNever, gNot, gTb, gAnd, gOr, gCallX, aCons, aNil, aStar, gVar, gC, gAndV, gOrV, gNotV, gBin, gUn, gIfE, gTup, gLst, gSl, gP, gNoP, gM, iAny, iRange, iRange2, iRev, iZip, frz, unb, setR, retR, asB, dat, slD, asg_nm, asg_tp, asgs_nil, asgs_cons, asgR, Rv.res, RF.res, Ev.put, oIs, isNonD, oCmpI, oI, oNeg, oLen, itemsOf, itemsR, revR, zipD, zipR, oTuple, oList, oBool, oIsi, oIsi2, isT, tyD, oEq_int, oEq_cc, oEq_lnil, oEq_drs, mApp, mExt, mPop, e]
/-! ## points, slants -/
theorem e_is_point (v : Int × Int) : φ_is_point [dv2 v] = some (.val (.bl true), []) := by
  have c1 : gComp (iAny (gVar 0)) (.nm 1) gYes X_is_point_0 [1] ⟨false, [.fz (dv2 v), .un]⟩ = some (.nw (List.replicate ([Rv.val (.int v.1), Rv.val (.int v.2)]).length (.bl true)), ⟨false, [.fz (dv2 v), .un]⟩) := by
    refine comp_all (items := [Rv.val (.int v.1), Rv.val (.int v.2)]) (by simp [phiP, env0, sSeq, sIf, sNx, sRet, sRetN, sSet, sAsg, sPar, sPar3, sItem, sDrop, sFor, sBk, sCt, sNever, gNot, gTb, gAnd, gOr, gCallX, aCons, aNil, aStar, gVar, gC, gAndV, gOrV, gNotV, gBin, gUn, gIfE, gTup, gLst, gSl, gP, gNoP, gM, iAny, iRange, iRange2, iRev, iZip, frz, unb, setR, retR, asB, dat, slD, asg_nm, asg_tp, asgs_nil, asgs_cons, asgR, Rv.res, RF.res, Ev.put, oIs, isNonD, oCmpI, oI, oNeg, oLen, itemsOf, itemsR, revR, zipD, zipR, oTuple, oList, oBool, oIsi, oIsi2, isT, tyD, oEq_int, oEq_cc, oEq_lnil, oEq_drs, mApp, mExt, mPop, dv2]) (by rfl) (by rfl) (by simp) ?_
    intro r hr
    have : ∃ z : Int, r = Rv.val (.int z) := by
      simp at hr
      rcases hr with e | e
      · exact ⟨_, e⟩
      · exact ⟨_, e⟩
    obtain ⟨z, rfl⟩ := this
    exact ⟨⟨false, [.fz (dv2 v), .fz (.int z)]⟩, by rfl, by rfl, by rfl, rfl⟩
  have e1 : φ_is_list [dv2 v] = some (.val (.bl true), []) := rfl
  have e2 : gUn oLen (gVar 0) ⟨false, [.fz (dv2 v), .un]⟩ = some (.fz (.int 2), ⟨false, [.fz (dv2 v), .un]⟩) := rfl
  have e3 : oLen (dv2 v) = some (.val (.int 2)) := rfl
  have e4 : oAll (.lst [.bl true, .bl true]) = some (.val (.bl true)) := rfl
  simp only [List.length_cons, List.length_nil, Nat.zero_add, Nat.reduceAdd, List.replicate] at c1
  simp [φ_is_point, g_is_point, phiP, env0, sRet, gAndV, gCallX, aCons, aNil, gVar, frz, e1, asB, gBin, gUn, e3, dat, Rv.res, gC, oEq_int, c1, e4, retR, RF.res]
def Cop (v : Int × Int) : Prop := ∃ x y : Int, x * v.1 + y * v.2 = 1
theorem Cop.gcd {v : Int × Int} (h : Cop v) : Nat.gcd v.1.natAbs v.2.natAbs = 1 := by
  obtain ⟨x, y, e⟩ := h
  have d1 : ((Nat.gcd v.1.natAbs v.2.natAbs : Nat) : Int) ∣ v.1 := Int.ofNat_dvd_left.mpr (Nat.gcd_dvd_left _ _)
  have d2 : ((Nat.gcd v.1.natAbs v.2.natAbs : Nat) : Int) ∣ v.2 := Int.ofNat_dvd_left.mpr (Nat.gcd_dvd_right _ _)
  have d : ((Nat.gcd v.1.natAbs v.2.natAbs : Nat) : Int) ∣ 1 := by
    rw [← e]
    exact Int.dvd_add (Int.dvd_trans d1 (Int.dvd_mul_left _ _)) (Int.dvd_trans d2 (Int.dvd_mul_left _ _))
  have := Int.ofNat_dvd_left.mp d
  simpa using this
theorem bezout (m n : Nat) : ∃ x y : Int, x * m + y * n = (Nat.gcd m n : Nat) := by
  induction m, n using Nat.gcd.induction with
  | H0 n => exact ⟨0, 1, by simp⟩
  | H1 m n hm ih =>
    obtain ⟨x, y, e⟩ := ih
    refine ⟨y - x * ((n / m : Nat) : Int), x, ?_⟩
    rw [Nat.gcd_rec, ← e]
    have : (n : Int) = ((n % m : Nat) : Int) + (m : Int) * ((n / m : Nat) : Int) := by
      have := Nat.mod_add_div n m
      exact_mod_cast this.symm
    conv => lhs; rw [this]
    grind
theorem e_is_slant {v : Int × Int} (h1 : 0 ≤ v.1) (h2 : 0 ≤ v.2) (hc : Cop v) (hs : Sm 3000 v.2) : φ_is_slant [dv2 v] = some (.val (.bl true), []) := by
  have e1 := e_is_point v
  have e2 := e_common v.1 v.2 hs
  rw [hc.gcd] at e2
  simp only [dv2] at e1
  simp [φ_is_slant, g_is_slant, phiP, env0, sSeq, sIf, sNx, sRet, sRetN, sSet, sAsg, sPar, sPar3, sItem, sDrop, sFor, sBk, sCt, sNever, gNot, gTb, gAnd, gOr, gCallX, aCons, aNil, aStar, gVar, gC, gAndV, gOrV, gNotV, gBin, gUn, gIfE, gTup, gLst, gSl, gP, gNoP, gM, iAny, iRange, iRange2, iRev, iZip, frz, unb, setR, retR, asB, dat, slD, asg_nm, asg_tp, asgs_nil, asgs_cons, asgR, Rv.res, RF.res, Ev.put, oIs, isNonD, oCmpI, oI, oNeg, oLen, itemsOf, itemsR, revR, zipD, zipR, oTuple, oList, oBool, oIsi, oIsi2, isT, tyD, oEq_int, oEq_cc, oEq_lnil, oEq_drs, mApp, mExt, mPop, dv2, e1, e2, oIx, atI_0, atI_1, h1, h2]
end W
end

section
set_option Elab.async false
set_option linter.all false
set_option maxRecDepth 100000
set_option maxHeartbeats 4000000
namespace W
open DL Lim
def sP (X : D) (p q : Int) (f : Rs) (s : Sl) : Ev := ⟨false, [.fz X, .fz (.int p), .fz (.int q), .ow (f.map dr), s]⟩
theorem c_path {X : D} {p q : Int} {f : Rs} {s : Sl} : C_path_in_0 (sP X p q f s) = some (!(p == q), sP X p q f s) := by
  simp [C_path_in_0, sP, phiP, env0, sSeq, sIf, sNx, sRet, sRetN, sSet, sAsg, sPar, sPar3, sItem, sDrop, sFor, sBk, sCt, sNever, gNot, gTb, gAnd, gOr, gCallX, aCons, aNil, aStar, gVar, gC, gAndV, gOrV, gNotV, gBin, gUn, gIfE, gTup, gLst, gSl, gP, gNoP, gM, iAny, iRange, iRange2, iRev, iZip, frz, unb, setR, retR, asB, dat, slD, asg_nm, asg_tp, asgs_nil, asgs_cons, asgR, Rv.res, RF.res, Ev.put, oIs, isNonD, oCmpI, oI, oNeg, oLen, itemsOf, itemsR, revR, zipD, zipR, oTuple, oList, oBool, oIsi, oIsi2, isT, tyD, oEq_int, oEq_cc, oEq_lnil, oEq_drs, mApp, mExt, mPop]
theorem b_path_a {X : D} {p q : Int} {f : Rs} {s : Sl} {t : Nat} (h : q < p) (hq : 0 < q) (ht : (p - 1).fdiv q = (t : Int)) (sp : Sm 3000 p) (sq : Sm 3000 q) (st : Sm 3000 (t : Int)) (hl : f.length < 16777216) :
    L_path_in_0 (sP X p q f s) = some (.nx (sP X (p - t * q) q (f ++ [(false, t)]) (.fz (.int t)))) := by
  have l1 := sq.log
  have l2 := st.cMul sq
  have ne : ¬ q = 0 := by omega
  simp [L_path_in_0, sP, phiP, env0, sSeq, sIf, sNx, sRet, sRetN, sSet, sAsg, sPar, sPar3, sItem, sDrop, sFor, sBk, sCt, sNever, gNot, gTb, gAnd, gOr, gCallX, aCons, aNil, aStar, gVar, gC, gAndV, gOrV, gNotV, gBin, gUn, gIfE, gTup, gLst, gSl, gP, gNoP, gM, iAny, iRange, iRange2, iRev, iZip, frz, unb, setR, retR, asB, dat, slD, asg_nm, asg_tp, asgs_nil, asgs_cons, asgR, Rv.res, RF.res, Ev.put, oIs, isNonD, oCmpI, oI, oNeg, oLen, itemsOf, itemsR, revR, zipD, zipR, oTuple, oList, oBool, oIsi, oIsi2, isT, tyD, oEq_int, oEq_cc, oEq_lnil, oEq_drs, mApp, mExt, mPop, h, fFdiv, ht, l1, l2, oMul, ne, hl, k_A, dr, cc]
theorem b_path_b {X : D} {p q : Int} {f : Rs} {s : Sl} {t : Nat} (h : p < q) (hp : 0 < p) (ht : (q - 1).fdiv p = (t : Int)) (sp : Sm 3000 p) (sq : Sm 3000 q) (st : Sm 3000 (t : Int)) (hl : f.length < 16777216) :
    L_path_in_0 (sP X p q f s) = some (.nx (sP X p (q - t * p) (f ++ [(true, t)]) (.fz (.int t)))) := by
  have l1 := sp.log
  have l2 := st.cMul sp
  have ne : ¬ p = 0 := by omega
  have h' : ¬ q < p := by omega
  simp [L_path_in_0, sP, phiP, env0, sSeq, sIf, sNx, sRet, sRetN, sSet, sAsg, sPar, sPar3, sItem, sDrop, sFor, sBk, sCt, sNever, gNot, gTb, gAnd, gOr, gCallX, aCons, aNil, aStar, gVar, gC, gAndV, gOrV, gNotV, gBin, gUn, gIfE, gTup, gLst, gSl, gP, gNoP, gM, iAny, iRange, iRange2, iRev, iZip, frz, unb, setR, retR, asB, dat, slD, asg_nm, asg_tp, asgs_nil, asgs_cons, asgR, Rv.res, RF.res, Ev.put, oIs, isNonD, oCmpI, oI, oNeg, oLen, itemsOf, itemsR, revR, zipD, zipR, oTuple, oList, oBool, oIsi, oIsi2, isT, tyD, oEq_int, oEq_cc, oEq_lnil, oEq_drs, mApp, mExt, mPop, h', fFdiv, ht, l1, l2, oMul, ne, hl, k_B, dr, cc]
theorem Cop.eq {p : Int} (h : Cop (p, p)) (hp : 1 ≤ p) : p = 1 := by
  obtain ⟨x, y, e⟩ := h
  simp only at e
  have d : p ∣ 1 := ⟨x + y, by grind⟩
  have := Int.le_of_dvd (by decide) d
  omega
/-- one turn: p > q -/
theorem turn {p q : Int} (h : q < p) (hq : 1 ≤ q) : ∃ t : Nat, (p - 1).fdiv q = (t : Int) ∧ 1 ≤ t ∧ 1 ≤ p - t * q ∧ p - t * q ≤ q ∧ (t : Int) < p := by
  have e : (p - 1).fdiv q = (p - 1) / q := Int.fdiv_eq_ediv_of_nonneg _ (by omega)
  have h1 : 1 ≤ (p - 1) / q := Int.le_ediv_of_mul_le (by omega) (by omega)
  have h2 := Int.mul_ediv_add_emod (p - 1) q
  have h3 := Int.emod_nonneg (p - 1) (show q ≠ 0 by omega)
  have h4 := Int.emod_lt_of_pos (p - 1) (show 0 < q by omega)
  have h6 : (p - 1) / q ≤ p - 1 := Int.ediv_le_self _ (by omega)
  refine ⟨((p - 1) / q).toNat, ?_, by omega, ?_, ?_, by omega⟩
  · rw [e]; omega
  · rw [Int.toNat_of_nonneg (by omega), Int.mul_comm]; omega
  · rw [Int.toNat_of_nonneg (by omega), Int.mul_comm]; omega
theorem half {p q t : Int} {n : Nat} (hq : 1 ≤ q) (ht : 1 ≤ t) (h1 : 1 ≤ p - t * q) (h2 : p - t * q ≤ q) (hs : Sm (n + 1) (p * q)) : Sm n ((p - t * q) * q) := by
  have k1 : q ≤ t * q := by have := Int.mul_le_mul_of_nonneg_right ht (show 0 ≤ q by omega); omega
  have k2 : 2 * (p - t * q) ≤ p := by omega
  have k3 : 2 * (p - t * q) * q ≤ p * q := Int.mul_le_mul_of_nonneg_right k2 (by omega)
  have k4 : 0 ≤ (p - t * q) * q := Int.mul_nonneg (by omega) (by omega)
  have k5 : 2 * (p - t * q) * q = 2 * ((p - t * q) * q) := Int.mul_assoc _ _ _
  unfold Sm at *
  rw [Nat.pow_succ] at hs
  omega
structure PathOk (p q : Int) (n : Nat) (rs : Rs) : Prop where
  can : Can rs
  bk : back (ex rs) = (p, q)
  first : ∀ r t, rs = r :: t → r.1 = decide (p < q)
  same : p = q → rs = []
  len : rs.length ≤ n
  lt : ∀ r ∈ rs, (r.2 : Int) < p ∨ (r.2 : Int) < q
theorem can_cons {r : Bool × Nat} {rs : Rs} (h : Can rs) (h1 : 1 ≤ r.2) (h2 : ∀ s t, rs = s :: t → r.1 ≠ s.1) : Can (r :: rs) := by
  cases rs with
  | nil => exact h1
  | cons s t => exact ⟨h1, h2 s t rfl, h⟩
theorem l_path {X : D} : ∀ (n N : Nat) (p q : Int) (f : Rs) (s : Sl), 1 ≤ p → 1 ≤ q → Cop (p, q) → Sm n (p * q) → n ≤ N → f.length + n < 16777216 → Sm 3000 p → Sm 3000 q →
    ∃ rs s', whileG C_path_in_0 L_path_in_0 (N + 1) (sP X p q f s) = some (.nx (sP X 1 1 (f ++ rs) s')) ∧ PathOk p q n rs
  | n, N, p, q, f, s, hp, hq, hc, hs, hn, hl, sp, sq => by
    by_cases e : p = q
    · subst e
      have e1 := hc.eq hp
      subst e1
      refine ⟨[], s, ?_, True.intro, rfl, fun r t z => by simp at z, fun _ => rfl, by simp, fun r hr => by simp at hr⟩
      simp [whileG, c_path]
    · cases n with
      | zero =>
        exfalso
        unfold Sm at hs
        have := Int.mul_pos (show 0 < p by omega) (show 0 < q by omega)
        omega
      | succ n =>
        obtain ⟨N, rfl⟩ : ∃ M, N = M + 1 := ⟨N - 1, by omega⟩
        have eb : (!(p == q)) = true := by simp [e]
        rcases Int.lt_or_le q p with h | h
        · obtain ⟨t, h1, h2, h3, h4, h5⟩ := turn h hq
          have st : Sm 3000 (t : Int) := sp.le (by omega)
          have hb := b_path_a (X := X) (f := f) (s := s) h (by omega) h1 sp sq st (by omega)
          have hc' : Cop (p - t * q, q) := by
            obtain ⟨x, y, z⟩ := hc
            exact ⟨x, y + x * t, by simp only at z ⊢; rw [← z]; grind⟩
          obtain ⟨rs, s', ih, P⟩ := l_path (X := X) n N (p - t * q) q (f ++ [(false, t)]) (.fz (.int t)) h3 hq hc' (half hq (by omega) h3 h4 hs) (by omega) (by simp; omega) (sp.le (by omega)) sq
          refine ⟨(false, t) :: rs, s', ?_, ?_, ?_, ?_, fun z => absurd z e, by have := P.len; simp; omega, ?_⟩
          · rw [whileG]
            simp only [c_path, Option.bind_some, eb, if_true, hb, ih, List.append_assoc, List.singleton_append]
          · refine can_cons P.can h2 fun r u z => ?_
            rw [P.first r u z]
            have : p - t * q ≠ q := fun z2 => by rw [P.same z2] at z; simp at z
            have : p - t * q < q := by omega
            simp [this]
          · show back (List.replicate t false ++ ex rs) = (p, q)
            rw [← actw_back, actw_app, actw_back, P.bk, actw_rep_a]
            ext <;> (first | rfl | (simp only; omega))
          · intro r u z
            simp only [List.cons.injEq] at z
            rw [← z.1]
            simp; omega
          · intro r hr
            rcases List.mem_cons.mp hr with z | z
            · subst z; left; exact h5
            · have := P.lt r z
              have : 1 * q ≤ t * q := Int.mul_le_mul_of_nonneg_right (by omega) (by omega)
              omega
        · have h : p < q := by omega
          obtain ⟨t, h1, h2, h3, h4, h5⟩ := turn h hp
          have st : Sm 3000 (t : Int) := sq.le (by omega)
          have hb := b_path_b (X := X) (f := f) (s := s) h (by omega) h1 sp sq st (by omega)
          have hc' : Cop (p, q - t * p) := by
            obtain ⟨x, y, z⟩ := hc
            exact ⟨x + y * t, y, by simp only at z ⊢; rw [← z]; grind⟩
          have hs' : Sm n (p * (q - t * p)) := by
            rw [Int.mul_comm]
            exact half hp (by omega) h3 h4 (by rwa [Int.mul_comm] at hs)
          obtain ⟨rs, s', ih, P⟩ := l_path (X := X) n N p (q - t * p) (f ++ [(true, t)]) (.fz (.int t)) hp h3 hc' hs' (by omega) (by simp; omega) sp (sq.le (by omega))
          refine ⟨(true, t) :: rs, s', ?_, ?_, ?_, ?_, fun z => absurd z e, by have := P.len; simp; omega, ?_⟩
          · rw [whileG]
            simp only [c_path, Option.bind_some, eb, if_true, hb, ih, List.append_assoc, List.singleton_append]
          · refine can_cons P.can h2 fun r u z => ?_
            rw [P.first r u z]
            have : p ≠ q - t * p := fun z2 => by rw [P.same z2] at z; simp at z
            have : ¬ p < q - t * p := by omega
            simp [this]
          · show back (List.replicate t true ++ ex rs) = (p, q)
            rw [← actw_back, actw_app, actw_back, P.bk, actw_rep_b]
            ext <;> (first | rfl | (simp only; omega))
          · intro r u z
            simp only [List.cons.injEq] at z
            rw [← z.1]
            simp; omega
          · intro r hr
            rcases List.mem_cons.mp hr with z | z
            · subst z; right; exact h5
            · have := P.lt r z
              have : 1 * p ≤ t * p := Int.mul_le_mul_of_nonneg_right (by omega) (by omega)
              omega
/-- a slant's path -/
theorem e_path_in {p q : Int} (hp : 1 ≤ p) (hq : 1 ≤ q) (hc : Cop (p, q)) (sp : Sm 2000 p) (sq : Sm 2000 q) :
    ∃ v : Wd, φ_path_in [dv2 (p, q)] = some (.val (dW v), []) ∧ back v = (p, q) ∧ (runs v).length ≤ 4000 ∧ ∀ r ∈ runs v, (r.2 : Int) < p ∨ (r.2 : Int) < q := by
  have hb : (4000 : Nat) ≤ big - 1 := by decide +kernel
  obtain ⟨rs, s', e, P⟩ := l_path (X := dv2 (p, q)) 4000 (big - 1) p q [] .un hp hq hc (sp.mul sq (by decide)) hb (by simp) (sp.mono (by decide)) (sq.mono (by decide))
  have e0 : big - 1 + 1 = big := by decide +kernel
  rw [e0] at e
  have er := runs_ex P.can
  refine ⟨ex rs, ?_, P.bk, by rw [er]; exact P.len, by rw [er]; exact P.lt⟩
  simp only [sP, dv2, List.map_nil, List.nil_append] at e
  simp [φ_path_in, g_path_in, phiP, env0, sSeq, sIf, sNx, sRet, sRetN, sSet, sAsg, sPar, sPar3, sItem, sDrop, sFor, sBk, sCt, sNever, gNot, gTb, gAnd, gOr, gCallX, aCons, aNil, aStar, gVar, gC, gAndV, gOrV, gNotV, gBin, gUn, gIfE, gTup, gLst, gSl, gP, gNoP, gM, iAny, iRange, iRange2, iRev, iZip, frz, unb, setR, retR, asB, dat, slD, asg_nm, asg_tp, asgs_nil, asgs_cons, asgR, Rv.res, RF.res, Ev.put, oIs, isNonD, oCmpI, oI, oNeg, oLen, itemsOf, itemsR, revR, zipD, zipR, oTuple, oList, oBool, oIsi, oIsi2, isT, tyD, oEq_int, oEq_cc, oEq_lnil, oEq_drs, mApp, mExt, mPop, dv2, e, dW, er]
end W
end

section
set_option Elab.async false
set_option linter.all false
set_option maxRecDepth 100000
set_option maxHeartbeats 4000000
namespace W
open DL Lim
/-! # Step by step -/
theorem seq_nx {g h : GS} {ρ ρ' : Ev} {out : Option Out} (h1 : g ρ = some (.nx ρ')) (h2 : h ρ' = out) : sSeq g h ρ = out := by
  simp only [sSeq, h1, Option.bind_some, h2]
theorem seq_rt {g h : GS} {ρ ρ' : Ev} {r : RF} (h1 : g ρ = some (.rt r ρ')) : sSeq g h ρ = some (.rt r ρ') := by
  simp only [sSeq, h1, Option.bind_some]
theorem phi_rt {m n : Nat} {g : GS} {ds : List D} {r : RF} {ρ : Ev} (h : g (env0 false n ds) = some (.rt r ρ)) (hl : ds.length = m) : phiP m n g ds = some (r, []) := by
  simp only [phiP, hl, if_true, h]
theorem set_fz {i : Nat} {g : GE} {ρ ρ' : Ev} {d : D} (h : g ρ = some (.fz d, ρ')) (hio : (ρ'.io && i == 0) = false) : sSet i g ρ = some (.nx (ρ'.put i (.fz d))) := by
  simp only [sSet, h, Option.bind_some, setR, hio, Bool.false_eq_true, if_false, Option.map_some]
theorem set_nw {i : Nat} {g : GE} {ρ ρ' : Ev} {d : List D} (h : g ρ = some (.nw d, ρ')) (hio : (ρ'.io && i == 0) = false) : sSet i g ρ = some (.nx (ρ'.put i (.ow d))) := by
  simp only [sSet, h, Option.bind_some, setR, hio, Bool.false_eq_true, if_false, Option.map_some]
theorem if_t {c : GT} {g h : GS} {ρ ρ' : Ev} {out : Option Out} (hc : c ρ = some (true, ρ')) (h1 : g ρ' = out) : sIf c g h ρ = out := by
  simp only [sIf, hc, Option.bind_some, if_true, h1]
theorem if_f {c : GT} {g h : GS} {ρ ρ' : Ev} {out : Option Out} (hc : c ρ = some (false, ρ')) (h1 : h ρ' = out) : sIf c g h ρ = out := by
  simp only [sIf, hc, Option.bind_some, Bool.false_eq_true, if_false, h1]
theorem ret_fz {g : GE} {ρ ρ' : Ev} {d : D} (h : g ρ = some (.fz d, ρ')) : sRet g ρ = some (.rt (.val d) ρ') := by
  simp only [sRet, h, Option.bind_some, retR, Option.map_some]
/-- a value, frozen, the environment stands -/
def Ev1 (g : GE) (ρ : Ev) (d : D) : Prop := g ρ = some (.fz d, ρ)
abbrev EvI (g : GE) (ρ : Ev) (i : Int) : Prop := Ev1 g ρ (.int i)
section
variable {ρ : Ev} {ga gb gc : GE} {i j k : Int} {d d1 d2 d3 : D}
theorem v_var {n : Nat} (h : ρ.sl[n]? = some (.fz d)) : Ev1 (gVar n) ρ d := by simp only [Ev1, gVar, h]
theorem v_c : Ev1 (gC d) ρ d := rfl
theorem v_bin {op : D → D → Option Rv} (h1 : Ev1 ga ρ d1) (h2 : Ev1 gb ρ d2) (h : op d1 d2 = some (.val d)) : Ev1 (gBin op ga gb) ρ d := by
  unfold Ev1 at *
  simp only [gBin, h1, h2, Option.bind_some, dat, h, Option.map_some, Rv.res]
theorem v_un {op : D → Option Rv} (h1 : Ev1 ga ρ d1) (h : op d1 = some (.val d)) : Ev1 (gUn op ga) ρ d := by
  unfold Ev1 at *
  simp only [gUn, h1, Option.bind_some, dat, h, Option.map_some, Rv.res]
theorem v_mul (h1 : EvI ga ρ i) (h2 : EvI gb ρ j) (h : cMul i j = true) : EvI (gBin oMul ga gb) ρ (i * j) := v_bin h1 h2 (by simp only [oMul, h, if_true])
theorem v_add (h1 : EvI ga ρ i) (h2 : EvI gb ρ j) : EvI (gBin oAdd ga gb) ρ (i + j) := v_bin h1 h2 rfl
theorem v_sub (h1 : EvI ga ρ i) (h2 : EvI gb ρ j) : EvI (gBin (oI fun i j => some (i - j)) ga gb) ρ (i - j) := v_bin h1 h2 rfl
theorem v_ix {l : List D} (h1 : Ev1 ga ρ (.tup l)) (h2 : EvI gb ρ i) (h : L2.atI l i = some d) : Ev1 (gBin oIx ga gb) ρ d := v_bin h1 h2 (by simp only [oIx, h, Option.map_some])
/-- arguments -/
def EvA (g : GA) (ρ : Ev) (ds : List D) : Prop := g ρ = some (ds, ρ)
theorem a_nil : EvA aNil ρ [] := rfl
theorem a_cons {gs : GA} {ds : List D} (h1 : Ev1 ga ρ d) (h2 : EvA gs ρ ds) : EvA (aCons ga gs) ρ (d :: ds) := by
  unfold Ev1 EvA at *
  simp only [aCons, h1, Option.bind_some, frz, h2, Option.map_some]
theorem v_tup {gs : GA} {ds : List D} (h : EvA gs ρ ds) (hl : ds.length ≤ 16777216) : Ev1 (gTup gs) ρ (.tup ds) := by
  unfold Ev1 EvA at *
  simp only [gTup, h, Option.bind_some, hl, if_true]
theorem v_call {φ : Phi} {xs : List D} {gs : GA} {ds : List D} {cs : List D} (h : EvA gs ρ ds) (hf : φ (ds ++ xs) = some (.val d, cs)) : Ev1 (gCallX φ xs gs) ρ d := by
  unfold Ev1 EvA at *
  simp only [gCallX, h, Option.bind_some, hf, Option.map_some, RF.res]
theorem v_call0 {φ : Phi} {gs : GA} {ds : List D} {cs : List D} (h : EvA gs ρ ds) (hf : φ ds = some (.val d, cs)) : Ev1 (gCallX φ [] gs) ρ d := v_call h (by rw [List.append_nil]; exact hf)
/-- tests -/
def EvT (g : GT) (ρ : Ev) (b : Bool) : Prop := g ρ = some (b, ρ)
theorem t_b {b : Bool} (h : Ev1 ga ρ (.bl b)) : EvT (gTb ga) ρ b := by
  unfold Ev1 EvT at *
  simp only [gTb, h, Option.bind_some, asB, Option.map_some]
theorem t_not {g : GT} {b : Bool} (h : EvT g ρ b) : EvT (gNot g) ρ (!b) := by
  unfold EvT at *
  simp only [gNot, h, Option.map_some]
theorem t_and {g h : GT} {a b : Bool} (h1 : EvT g ρ a) (h2 : a = true → EvT h ρ b) : EvT (gAnd g h) ρ (a && b) := by
  unfold EvT at *
  cases a
  · simp only [gAnd, h1, Option.bind_some, Bool.false_eq_true, if_false, Bool.false_and]
  · simp only [gAnd, h1, Option.bind_some, if_true, h2 rfl, Bool.true_and]
theorem t_or {g h : GT} {a b : Bool} (h1 : EvT g ρ a) (h2 : a = false → EvT h ρ b) : EvT (gOr g h) ρ (a || b) := by
  unfold EvT at *
  cases a
  · simp only [gOr, h1, Option.bind_some, Bool.false_eq_true, if_false, h2 rfl, Bool.false_or]
  · simp only [gOr, h1, Option.bind_some, if_true, Bool.true_or]
theorem v_ifT {c : GT} (hc : EvT c ρ true) (h : Ev1 ga ρ d) : Ev1 (gIfE c ga gb) ρ d := by
  unfold Ev1 EvT at *
  simp only [gIfE, hc, Option.bind_some, if_true, h]
theorem v_ifF {c : GT} (hc : EvT c ρ false) (h : Ev1 gb ρ d) : Ev1 (gIfE c ga gb) ρ d := by
  unfold Ev1 EvT at *
  simp only [gIfE, hc, Option.bind_some, Bool.false_eq_true, if_false, h]
theorem v_cmp {p : Int → Int → Bool} (h1 : EvI ga ρ i) (h2 : EvI gb ρ j) : Ev1 (gBin (oCmpI p) ga gb) ρ (.bl (p i j)) := v_bin h1 h2 rfl
theorem v_eqI (neg : Bool) (h1 : EvI ga ρ i) (h2 : EvI gb ρ j) : Ev1 (gBin (oEq neg) ga gb) ρ (.bl (if neg then !(i == j) else (i == j))) := v_bin h1 h2 (oEq_int _ _ _)
theorem v_and {a b : Bool} (h1 : Ev1 ga ρ (.bl a)) (h2 : a = true → Ev1 gb ρ (.bl b)) : Ev1 (gAndV ga gb) ρ (.bl (a && b)) := by
  unfold Ev1 at *
  cases a
  · simp only [gAndV, h1, Option.bind_some, asB, Bool.false_eq_true, if_false, Bool.false_and]
  · simp only [gAndV, h1, Option.bind_some, asB, if_true, h2 rfl, Bool.true_and]
theorem v_or {a b : Bool} (h1 : Ev1 ga ρ (.bl a)) (h2 : a = false → Ev1 gb ρ (.bl b)) : Ev1 (gOrV ga gb) ρ (.bl (a || b)) := by
  unfold Ev1 at *
  cases a
  · simp only [gOrV, h1, Option.bind_some, asB, Bool.false_eq_true, if_false, h2 rfl, Bool.false_or]
  · simp only [gOrV, h1, Option.bind_some, asB, if_true, Bool.true_or]
theorem v_not {b : Bool} (h : Ev1 ga ρ (.bl b)) : Ev1 (gNotV ga) ρ (.bl (!b)) := by
  unfold Ev1 at *
  simp only [gNotV, h, Option.bind_some, asB, Option.map_some]
end
end W
end

section
set_option Elab.async false
set_option linter.all false
set_option maxRecDepth 100000
set_option maxHeartbeats 4000000
namespace Lim
theorem mat_le : ∀ w : Wd, (mat w).a ≤ 2 ^ w.length ∧ (mat w).b ≤ 2 ^ w.length ∧ (mat w).c ≤ 2 ^ w.length ∧ (mat w).d ≤ 2 ^ w.length
  | [] => by decide
  | x :: w => by
    have h := mat_le w
    have n := mat_nn w
    have e : (2 : Int) ^ (x :: w).length = 2 * 2 ^ w.length := by rw [List.length_cons, Int.pow_succ, Int.mul_comm]
    rw [e]
    generalize (2 : Int) ^ w.length = P at *
    cases x <;> (simp only [mat, step]; omega)
end Lim
namespace W
open DL Lim
theorem sm_mat {w : Wd} {k : Nat} (h : w.length < k) : Sm k (mat w).a ∧ Sm k (mat w).b ∧ Sm k (mat w).c ∧ Sm k (mat w).d := by
  have l := mat_le w
  have n := mat_nn w
  have e : ((2 ^ w.length : Nat) : Int) = (2 : Int) ^ w.length := by simp
  have p : 2 ^ w.length < 2 ^ k := Nat.pow_lt_pow_right (by decide) h
  unfold Sm
  rw [← e] at l
  omega
theorem comp_w {gi : GI} {tg : Tg} {ge : GE} {vs : List Nat} {ρ ρ1 : Ev} {items : List Rv} (w : Ev) (f : Rv → D) (hw : ρ1.wipe vs = w) (h1 : gi ρ = some (items, ρ1)) (h2 : ownOk vs ρ1 = true) (h3 : (tgIx tg).all (vs.contains ·) = true) (h5 : items.length ≤ 16777216)
    (h4 : ∀ r ∈ items, ∃ ρa, asgR tg r w = some ρa ∧ ge ρa = some (.fz (f r), ρa) ∧ ρa.wipe vs = w ∧ ρa.io = ρ1.io) : gComp gi tg gYes ge vs ρ = some (.nw (items.map f), ρ1) := by
  subst hw
  exact comp_ok f h1 h2 h3 h5 h4
def dE (G : Eqn) : D := .tup [.int G.a, .int G.b, .int G.c]
def divD (s : Int) : Rv → D
  | .val (.int i) => .int (i.fdiv s)
  | _ => .non
theorem mem3 {a b c : Int} {r : Rv} (h : r ∈ [Rv.val (.int a), Rv.val (.int b), Rv.val (.int c)]) : ∃ z : Int, r = Rv.val (.int z) := by
  simp at h
  rcases h with e | e | e
  · exact ⟨_, e⟩
  · exact ⟨_, e⟩
  · exact ⟨_, e⟩
def sgn (G : Eqn) : Int := if 0 < G.a then (g3 G : Int) else 0 - (g3 G : Int)
theorem sgn_ne {G : Eqn} (h : G.a ≠ 0) : sgn G ≠ 0 := by
  have gp : 0 < g3 G := Nat.gcd_pos_of_pos_left _ (Nat.gcd_pos_of_pos_left _ (Int.natAbs_pos.mpr h))
  unfold sgn
  split <;> omega
theorem sm_g3 {G : Eqn} (h : G.a ≠ 0) {k : Nat} (s : Sm k G.a) : Sm k (g3 G : Int) := by
  refine s.le ?_
  rw [Int.natAbs_natCast]
  have d : g3 G ∣ G.a.natAbs := Nat.dvd_trans (Nat.gcd_dvd_left _ _) (Nat.gcd_dvd_left _ _)
  exact Nat.le_of_dvd (Int.natAbs_pos.mpr h) d
theorem sm_sgn {G : Eqn} (h : G.a ≠ 0) {k : Nat} (s : Sm k G.a) : Sm k (sgn G) := by
  have := sm_g3 h s
  unfold sgn
  split
  · exact this
  · rw [Int.zero_sub]; exact this.neg
/-- the equation as the program reckons it -/
theorem e_equation_of {h p : Wd} (h1 : h.length < 100) (h2 : p.length < 100) (ha : (eq2 h p).a ≠ 0) : φ_equation_of [dW h, dW p] = some (.val (dE (low (eq2 h p))), []) := by
  obtain ⟨sa, sb, sc, sd⟩ := sm_mat h1
  obtain ⟨tA, tB, tC, tD⟩ := sm_mat h2
  have m1 := e_machine_of (w := h) (by omega)
  have m2 := e_machine_of (w := p) (by omega)
  have he : eq2 h p = eqn (mat h) (mat p) := rfl
  have hs : Sm 600 (eq2 h p).a := by
    rw [he]
    have k1 : Sm 300 ((mat p).c * (mat h).d * (mat h).d) := (tC.mul sd (k := 200) (by decide)).mul sd (by decide)
    have k2 : Sm 301 (((mat p).d - (mat p).a) * (mat h).c * (mat h).d) := ((tD.sub tA (k := 101) (by decide)).mul sc (k := 201) (by decide)).mul sd (by decide)
    have k3 : Sm 300 ((mat p).b * (mat h).c * (mat h).c) := (tB.mul sc (k := 200) (by decide)).mul sc (by decide)
    exact (((k1.mono (by decide)).sub k2 (k := 302) (by decide)).sub (k3.mono (by decide)) (k := 303) (by decide)).mono (by decide)
  have hs2 : Sm 600 (eq2 h p).b := by
    rw [he]
    have k1 : Sm 302 (((mat p).d - (mat p).a) * ((mat h).a * (mat h).d + (mat h).b * (mat h).c)) := (tD.sub tA (k := 101) (by decide)).mul ((sa.mul sd (k := 200) (by decide)).add (sb.mul sc (by decide)) (k := 201) (by decide)) (by decide)
    have two : Sm 2 (2 : Int) := by unfold Sm; decide
    have k2 : Sm 302 (2 * (mat p).c * (mat h).b * (mat h).d) := ((two.mul tC (k := 102) (by decide)).mul sb (k := 202) (by decide)).mul sd (by decide)
    have k3 : Sm 302 (2 * (mat p).b * (mat h).a * (mat h).c) := ((two.mul tB (k := 102) (by decide)).mul sa (k := 202) (by decide)).mul sc (by decide)
    exact ((k1.sub k2 (k := 303) (by decide)).add (k3.mono (by decide)) (k := 304) (by decide)).mono (by decide)
  have hs3 : Sm 600 (eq2 h p).c := by
    rw [he]
    have k1 : Sm 300 ((mat p).c * (mat h).b * (mat h).b) := (tC.mul sb (k := 200) (by decide)).mul sb (by decide)
    have k2 : Sm 301 (((mat p).d - (mat p).a) * (mat h).a * (mat h).b) := ((tD.sub tA (k := 101) (by decide)).mul sa (k := 201) (by decide)).mul sb (by decide)
    have k3 : Sm 300 ((mat p).b * (mat h).a * (mat h).a) := (tB.mul sa (k := 200) (by decide)).mul sa (by decide)
    exact (((k1.mono (by decide)).sub k2 (k := 302) (by decide)).sub (k3.mono (by decide)) (k := 303) (by decide)).mono (by decide)
  have q1 := e_common (eq2 h p).a (eq2 h p).b (hs2.mono (by decide))
  have q2 := e_common ((Nat.gcd (eq2 h p).a.natAbs (eq2 h p).b.natAbs : Nat) : Int) (eq2 h p).c (hs3.mono (by decide))
  rw [Int.natAbs_natCast] at q2
  have q2 : φ_common [.int ((Nat.gcd (eq2 h p).a.natAbs (eq2 h p).b.natAbs : Nat) : Int), .int (eq2 h p).c] = some (.val (.int (g3 (eq2 h p) : Nat)), []) := q2
  have hne := sgn_ne ha
  have hlog := (sm_sgn ha hs).log
  generalize hG : eq2 h p = G at *
  have c1 : ∀ s2 s3 s4 s5 s6 s7 s8 s9 s10 : Sl, gComp (iAny (gVar 11)) (.nm 13) gYes X_equation_of_0 [13] ⟨false, [.fz (dW h), .fz (dW p), s2, s3, s4, s5, s6, s7, s8, s9, s10, .fz (dE G), .fz (.int (sgn G)), .un]⟩ = some (.nw ([Rv.val (.int G.a), Rv.val (.int G.b), Rv.val (.int G.c)].map (divD (sgn G))), ⟨false, [.fz (dW h), .fz (dW p), s2, s3, s4, s5, s6, s7, s8, s9, s10, .fz (dE G), .fz (.int (sgn G)), .un]⟩) := by
    intro s2 s3 s4 s5 s6 s7 s8 s9 s10
    refine comp_w ⟨false, [.fz (dW h), .fz (dW p), s2, s3, s4, s5, s6, s7, s8, s9, s10, .fz (dE G), .fz (.int (sgn G)), .un]⟩ (divD (sgn G)) (items := [Rv.val (.int G.a), Rv.val (.int G.b), Rv.val (.int G.c)]) (by rfl) (by simp [phiP, env0, sSeq, sIf, sNx, sRet, sRetN, sSet, sAsg, sPar, sPar3, sItem, sDrop, sFor, sBk, sCt, sNever, gNot, gTb, gAnd, gOr, gCallX, aCons, aNil, aStar, gVar, gC, gAndV, gOrV, gNotV, gBin, gUn, gIfE, gTup, gLst, gSl, gP, gNoP, gM, iAny, iRange, iRange2, iRev, iZip, frz, unb, setR, retR, asB, dat, slD, asg_nm, asg_tp, asgs_nil, asgs_cons, asgR, Rv.res, RF.res, Ev.put, oIs, isNonD, oCmpI, oI, oNeg, oLen, itemsOf, itemsR, revR, zipD, zipR, oTuple, oList, oBool, oIsi, oIsi2, isT, tyD, oEq_int, oEq_cc, oEq_lnil, oEq_drs, mApp, mExt, mPop, dE]) (by rfl) (by rfl) (by simp) ?_
    intro r hr
    obtain ⟨z, rfl⟩ := mem3 hr
    refine ⟨⟨false, [.fz (dW h), .fz (dW p), s2, s3, s4, s5, s6, s7, s8, s9, s10, .fz (dE G), .fz (.int (sgn G)), .fz (.int z)]⟩, by rfl, ?_, by rfl, rfl⟩
    simp [X_equation_of_0, phiP, env0, sSeq, sIf, sNx, sRet, sRetN, sSet, sAsg, sPar, sPar3, sItem, sDrop, sFor, sBk, sCt, sNever, gNot, gTb, gAnd, gOr, gCallX, aCons, aNil, aStar, gVar, gC, gAndV, gOrV, gNotV, gBin, gUn, gIfE, gTup, gLst, gSl, gP, gNoP, gM, iAny, iRange, iRange2, iRev, iZip, frz, unb, setR, retR, asB, dat, slD, asg_nm, asg_tp, asgs_nil, asgs_cons, asgR, Rv.res, RF.res, Ev.put, oIs, isNonD, oCmpI, oI, oNeg, oLen, itemsOf, itemsR, revR, zipD, zipR, oTuple, oList, oBool, oIsi, oIsi2, isT, tyD, oEq_int, oEq_cc, oEq_lnil, oEq_drs, mApp, mExt, mPop, fFdiv, hne, hlog, divD]
  have r1 : [Rv.val (.int G.a), Rv.val (.int G.b), Rv.val (.int G.c)].map (divD (sgn G)) = [.int (low G).a, .int (low G).b, .int (low G).c] := rfl
  rw [r1] at c1
  have ea : (mat p).c * (mat h).d * (mat h).d - ((mat p).d - (mat p).a) * (mat h).c * (mat h).d - (mat p).b * (mat h).c * (mat h).c = G.a := by rw [← hG]; rfl
  have eb : ((mat p).d - (mat p).a) * ((mat h).a * (mat h).d + (mat h).b * (mat h).c) - 2 * (mat p).c * (mat h).b * (mat h).d + 2 * (mat p).b * (mat h).a * (mat h).c = G.b := by rw [← hG]; rfl
  have ec : (mat p).c * (mat h).b * (mat h).b - ((mat p).d - (mat p).a) * (mat h).a * (mat h).b - (mat p).b * (mat h).a * (mat h).a = G.c := by rw [← hG]; rfl
  generalize mat h = m at *
  generalize mat p = M at *
  obtain ⟨a, b, c, d⟩ := m
  obtain ⟨A, B, C, D⟩ := M
  simp only at sa sb sc sd tA tB tC tD ea eb ec m1 m2
  have tm : Sm 101 (D - A) := tD.sub tA (by decide)
  have two : Sm 2 (2 : Int) := by unfold Sm; decide
  have p1 := tC.cMul sd
  have p2 := (tC.mul sd (k := 200) (by decide)).cMul sd
  have p3 := tm.cMul sc
  have p4 := (tm.mul sc (k := 201) (by decide)).cMul sd
  have p5 := tB.cMul sc
  have p6 := (tB.mul sc (k := 200) (by decide)).cMul sc
  have p7 := sa.cMul sd
  have p8 := sb.cMul sc
  have p9 := tm.cMul ((sa.mul sd (k := 200) (by decide)).add (sb.mul sc (by decide)) (k := 201) (by decide))
  have p10 := two.cMul tC
  have p11 := (two.mul tC (k := 102) (by decide)).cMul sb
  have p12 := ((two.mul tC (k := 102) (by decide)).mul sb (k := 202) (by decide)).cMul sd
  have p13 := two.cMul tB
  have p14 := (two.mul tB (k := 102) (by decide)).cMul sa
  have p15 := ((two.mul tB (k := 102) (by decide)).mul sa (k := 202) (by decide)).cMul sc
  have p16 := tC.cMul sb
  have p17 := (tC.mul sb (k := 200) (by decide)).cMul sb
  have p18 := tm.cMul sa
  have p19 := (tm.mul sa (k := 201) (by decide)).cMul sb
  have p20 := tB.cMul sa
  have p21 := (tB.mul sa (k := 200) (by decide)).cMul sa
  clear hs hs2 hs3 he
  have st : ∀ (u : Int) (hu : u = sgn G), gIfE (gTb (gBin (oCmpI fun i j => decide (j < i)) (gBin oIx (gVar 11) (gC (.int 0))) (gC (.int 0)))) (gVar 12) (gBin (oI fun i j => some (i - j)) (gC (.int 0)) (gVar 12)) ⟨false, [.fz (dW h), .fz (dW p), .fz (.int a), .fz (.int b), .fz (.int c), .fz (.int d), .fz (.int A), .fz (.int B), .fz (.int C), .fz (.int D), .fz (.int (D - A)), .fz (dE G), .fz (.int (g3 G)), .un]⟩ = some (.fz (.int u), ⟨false, [.fz (dW h), .fz (dW p), .fz (.int a), .fz (.int b), .fz (.int c), .fz (.int d), .fz (.int A), .fz (.int B), .fz (.int C), .fz (.int D), .fz (.int (D - A)), .fz (dE G), .fz (.int (g3 G)), .un]⟩) := by
    intro u hu
    have ht := t_b (v_cmp (p := fun i j => decide (j < i)) (v_ix (ga := gVar 11) (gb := gC (.int 0)) (ρ := ⟨false, [.fz (dW h), .fz (dW p), .fz (.int a), .fz (.int b), .fz (.int c), .fz (.int d), .fz (.int A), .fz (.int B), .fz (.int C), .fz (.int D), .fz (.int (D - A)), .fz (dE G), .fz (.int (g3 G)), .un]⟩) (v_var rfl) v_c (atI_0 _ _)) (v_c (d := .int 0)))
    by_cases hp : 0 < G.a
    · rw [hu, show sgn G = (g3 G : Int) by unfold sgn; rw [if_pos hp]]
      simp only [hp, decide_true] at ht
      exact v_ifT ht (v_var rfl)
    · rw [hu, show sgn G = 0 - (g3 G : Int) by unfold sgn; rw [if_neg hp]]
      simp only [hp, decide_false] at ht
      exact v_ifF ht (v_sub v_c (v_var rfl))
  refine phi_rt (ρ := ⟨false, [.fz (dW h), .fz (dW p), .fz (.int a), .fz (.int b), .fz (.int c), .fz (.int d), .fz (.int A), .fz (.int B), .fz (.int C), .fz (.int D), .fz (.int (D - A)), .fz (dE G), .fz (.int (sgn G)), .un]⟩) ?_ rfl
  show g_equation_of ⟨false, [.fz (dW h), .fz (dW p), .un, .un, .un, .un, .un, .un, .un, .un, .un, .un, .un, .un]⟩ = _
  unfold g_equation_of
  refine seq_nx (ρ' := ⟨false, [.fz (dW h), .fz (dW p), .fz (.int a), .fz (.int b), .fz (.int c), .fz (.int d), .un, .un, .un, .un, .un, .un, .un, .un]⟩) (by simp [phiP, env0, sSeq, sIf, sNx, sRet, sRetN, sSet, sAsg, sPar, sPar3, sItem, sDrop, sFor, sBk, sCt, sNever, gNot, gTb, gAnd, gOr, gCallX, aCons, aNil, aStar, gVar, gC, gAndV, gOrV, gNotV, gBin, gUn, gIfE, gTup, gLst, gSl, gP, gNoP, gM, iAny, iRange, iRange2, iRev, iZip, frz, unb, setR, retR, asB, dat, slD, asg_nm, asg_tp, asgs_nil, asgs_cons, asgR, Rv.res, RF.res, Ev.put, oIs, isNonD, oCmpI, oI, oNeg, oLen, itemsOf, itemsR, revR, zipD, zipR, oTuple, oList, oBool, oIsi, oIsi2, isT, tyD, oEq_int, oEq_cc, oEq_lnil, oEq_drs, mApp, mExt, mPop, m1]) ?_
  refine seq_nx (ρ' := ⟨false, [.fz (dW h), .fz (dW p), .fz (.int a), .fz (.int b), .fz (.int c), .fz (.int d), .fz (.int A), .fz (.int B), .fz (.int C), .fz (.int D), .un, .un, .un, .un]⟩) (by simp [phiP, env0, sSeq, sIf, sNx, sRet, sRetN, sSet, sAsg, sPar, sPar3, sItem, sDrop, sFor, sBk, sCt, sNever, gNot, gTb, gAnd, gOr, gCallX, aCons, aNil, aStar, gVar, gC, gAndV, gOrV, gNotV, gBin, gUn, gIfE, gTup, gLst, gSl, gP, gNoP, gM, iAny, iRange, iRange2, iRev, iZip, frz, unb, setR, retR, asB, dat, slD, asg_nm, asg_tp, asgs_nil, asgs_cons, asgR, Rv.res, RF.res, Ev.put, oIs, isNonD, oCmpI, oI, oNeg, oLen, itemsOf, itemsR, revR, zipD, zipR, oTuple, oList, oBool, oIsi, oIsi2, isT, tyD, oEq_int, oEq_cc, oEq_lnil, oEq_drs, mApp, mExt, mPop, m2]) ?_
  refine seq_nx (set_fz (v_sub (v_var rfl) (v_var rfl)) rfl) ?_
  refine seq_nx (set_fz (v_tup (ds := [.int (C * d * d - (D - A) * c * d - B * c * c), .int ((D - A) * (a * d + b * c) - 2 * C * b * d + 2 * B * a * c), .int (C * b * b - (D - A) * a * b - B * a * a)])
    (a_cons (v_sub (v_sub (v_mul (v_mul (v_var rfl) (v_var rfl) p1) (v_var rfl) p2) (v_mul (v_mul (v_var rfl) (v_var rfl) p3) (v_var rfl) p4)) (v_mul (v_mul (v_var rfl) (v_var rfl) p5) (v_var rfl) p6))
    (a_cons (v_add (v_sub (v_mul (v_var rfl) (v_add (v_mul (v_var rfl) (v_var rfl) p7) (v_mul (v_var rfl) (v_var rfl) p8)) p9) (v_mul (v_mul (v_mul v_c (v_var rfl) p10) (v_var rfl) p11) (v_var rfl) p12)) (v_mul (v_mul (v_mul v_c (v_var rfl) p13) (v_var rfl) p14) (v_var rfl) p15))
    (a_cons (v_sub (v_sub (v_mul (v_mul (v_var rfl) (v_var rfl) p16) (v_var rfl) p17) (v_mul (v_mul (v_var rfl) (v_var rfl) p18) (v_var rfl) p19)) (v_mul (v_mul (v_var rfl) (v_var rfl) p20) (v_var rfl) p21)) a_nil))) (by simp)) rfl) ?_
  rw [ea, eb, ec]
  refine seq_nx (set_fz (v_call0 (a_cons (v_call0 (a_cons (v_ix (v_var rfl) v_c (atI_0 _ _)) (a_cons (v_ix (v_var rfl) v_c (atI_1 _ _ _)) a_nil)) q1) (a_cons (v_ix (v_var rfl) v_c (by rfl)) a_nil)) q2) rfl) ?_
  refine seq_nx (set_fz (st _ rfl) rfl) ?_
  refine ret_fz (d := dE (low G)) ?_
  have c1' := c1 (.fz (.int a)) (.fz (.int b)) (.fz (.int c)) (.fz (.int d)) (.fz (.int A)) (.fz (.int B)) (.fz (.int C)) (.fz (.int D)) (.fz (.int (D - A)))
  show gUn oTuple _ ⟨false, [.fz (dW h), .fz (dW p), .fz (.int a), .fz (.int b), .fz (.int c), .fz (.int d), .fz (.int A), .fz (.int B), .fz (.int C), .fz (.int D), .fz (.int (D - A)), .fz (dE G), .fz (.int (sgn G)), .un]⟩ = _
  simp only [gUn, c1', Option.bind_some, dat, oTuple, Option.map_some, Rv.res]
  rfl
end W
end

section
set_option Elab.async false
set_option linter.all false
set_option maxRecDepth 100000
set_option maxHeartbeats 4000000
namespace W
open DL Lim
structure SmE (k : Nat) (G : Eqn) : Prop where
  a : Sm k G.a
  b : Sm k G.b
  c : Sm k G.c
/-- lowest terms, in the law's own words -/
theorem e_law_coprime {G : Eqn} (ha : G.a ≠ 0) (s : SmE 2000 G) : φ__law_coprime [dE G] = some (.val (dE (low G)), []) := by
  have q1 := e_law_common G.a.natAbs G.b.natAbs (by have := s.b; unfold Sm at *; rw [Int.natAbs_natCast]; exact Nat.lt_of_lt_of_le this (Nat.pow_le_pow_right (by decide) (by decide)))
  have q2 := e_law_common (Nat.gcd G.a.natAbs G.b.natAbs) G.c.natAbs (by have := s.c; unfold Sm at *; rw [Int.natAbs_natCast]; exact Nat.lt_of_lt_of_le this (Nat.pow_le_pow_right (by decide) (by decide)))
  have q2 : φ__law_common [.int ((Nat.gcd G.a.natAbs G.b.natAbs : Nat) : Int), .int (G.c.natAbs : Int)] = some (.val (.int (g3 G : Nat)), []) := q2
  have hne := sgn_ne ha
  have hlog := (sm_sgn ha s.a).log
  have c1 : gComp (iAny (gVar 0)) (.nm 2) gYes X__law_coprime_0 [2] ⟨false, [.fz (dE G), .fz (.int (sgn G)), .un]⟩ = some (.nw ([Rv.val (.int G.a), Rv.val (.int G.b), Rv.val (.int G.c)].map (divD (sgn G))), ⟨false, [.fz (dE G), .fz (.int (sgn G)), .un]⟩) := by
    refine comp_w ⟨false, [.fz (dE G), .fz (.int (sgn G)), .un]⟩ (divD (sgn G)) (items := [Rv.val (.int G.a), Rv.val (.int G.b), Rv.val (.int G.c)]) (by rfl) (by simp [phiP, env0, sSeq, sIf, sNx, sRet, sRetN, sSet, sAsg, sPar, sPar3, sItem, sDrop, sFor, sBk, sCt, sNever, gNot, gTb, gAnd, gOr, gCallX, aCons, aNil, aStar, gVar, gC, gAndV, gOrV, gNotV, gBin, gUn, gIfE, gTup, gLst, gSl, gP, gNoP, gM, iAny, iRange, iRange2, iRev, iZip, frz, unb, setR, retR, asB, dat, slD, asg_nm, asg_tp, asgs_nil, asgs_cons, asgR, Rv.res, RF.res, Ev.put, oIs, isNonD, oCmpI, oI, oNeg, oLen, itemsOf, itemsR, revR, zipD, zipR, oTuple, oList, oBool, oIsi, oIsi2, isT, tyD, oEq_int, oEq_cc, oEq_lnil, oEq_drs, mApp, mExt, mPop, dE]) (by rfl) (by rfl) (by simp) ?_
    intro r hr
    obtain ⟨z, rfl⟩ := mem3 hr
    refine ⟨⟨false, [.fz (dE G), .fz (.int (sgn G)), .fz (.int z)]⟩, by rfl, ?_, by rfl, rfl⟩
    simp [X__law_coprime_0, phiP, env0, sSeq, sIf, sNx, sRet, sRetN, sSet, sAsg, sPar, sPar3, sItem, sDrop, sFor, sBk, sCt, sNever, gNot, gTb, gAnd, gOr, gCallX, aCons, aNil, aStar, gVar, gC, gAndV, gOrV, gNotV, gBin, gUn, gIfE, gTup, gLst, gSl, gP, gNoP, gM, iAny, iRange, iRange2, iRev, iZip, frz, unb, setR, retR, asB, dat, slD, asg_nm, asg_tp, asgs_nil, asgs_cons, asgR, Rv.res, RF.res, Ev.put, oIs, isNonD, oCmpI, oI, oNeg, oLen, itemsOf, itemsR, revR, zipD, zipR, oTuple, oList, oBool, oIsi, oIsi2, isT, tyD, oEq_int, oEq_cc, oEq_lnil, oEq_drs, mApp, mExt, mPop, fFdiv, hne, hlog, divD, oInt]
  refine phi_rt (ρ := ⟨false, [.fz (dE G), .fz (.int (sgn G)), .un]⟩) ?_ rfl
  show g__law_coprime ⟨false, [.fz (dE G), .un, .un]⟩ = _
  unfold g__law_coprime
  have i0 : Ev1 (gBin oIx (gVar 0) (gC (.int 0))) ⟨false, [.fz (dE G), .un, .un]⟩ (.int G.a) := v_ix (v_var rfl) v_c (atI_0 _ _)
  have i1 : Ev1 (gBin oIx (gVar 0) (gC (.int 1))) ⟨false, [.fz (dE G), .un, .un]⟩ (.int G.b) := v_ix (v_var rfl) v_c (atI_1 _ _ _)
  have i2 : Ev1 (gBin oIx (gVar 0) (gC (.int 2))) ⟨false, [.fz (dE G), .un, .un]⟩ (.int G.c) := v_ix (v_var rfl) v_c (by rfl)
  refine seq_nx (set_fz (v_call0 (a_cons (v_call0 (a_cons (v_un i0 (oAbs_int _)) (a_cons (v_un i1 (oAbs_int _)) a_nil)) q1) (a_cons (v_un i2 (oAbs_int _)) a_nil)) q2) rfl) ?_
  show sSeq _ _ ⟨false, [.fz (dE G), .fz (.int (g3 G)), .un]⟩ = _
  have st : Ev1 (gIfE (gTb (gBin (oCmpI fun i j => decide (j < i)) (gBin oIx (gVar 0) (gC (.int 0))) (gC (.int 0)))) (gVar 1) (gBin (oI fun i j => some (i - j)) (gC (.int 0)) (gVar 1))) ⟨false, [.fz (dE G), .fz (.int (g3 G)), .un]⟩ (.int (sgn G)) := by
    have ht := t_b (v_cmp (p := fun i j => decide (j < i)) (v_ix (ga := gVar 0) (gb := gC (.int 0)) (ρ := ⟨false, [.fz (dE G), .fz (.int (g3 G)), .un]⟩) (v_var rfl) v_c (atI_0 _ _)) (v_c (d := .int 0)))
    by_cases hp : 0 < G.a
    · rw [show sgn G = (g3 G : Int) by unfold sgn; rw [if_pos hp]]
      simp only [hp, decide_true] at ht
      exact v_ifT ht (v_var rfl)
    · rw [show sgn G = 0 - (g3 G : Int) by unfold sgn; rw [if_neg hp]]
      simp only [hp, decide_false] at ht
      exact v_ifF ht (v_sub v_c (v_var rfl))
  refine seq_nx (set_fz st rfl) ?_
  refine ret_fz (d := dE (low G)) ?_
  show gUn oTuple _ ⟨false, [.fz (dE G), .fz (.int (sgn G)), .un]⟩ = _
  simp only [gUn, c1, Option.bind_some, dat, oTuple, Option.map_some, Rv.res]
  rfl
theorem sm_ahd {G : Eqn} (s : SmE 1000 G) (x : Bool) : SmE 2000 (ahd x G) := by
  have two : Sm 2 (2 : Int) := by unfold Sm; decide
  have k1 : Sm 2000 (G.a - G.b + G.c) := (s.a.sub s.b (k := 1001) (by decide)).add (s.c.mono (by decide)) (by decide)
  cases x
  · exact ⟨k1, (s.b.mono (j := 1000) (k := 1002) (by decide)).sub (two.mul s.c (by decide)) (by decide), s.c.mono (by decide)⟩
  · exact ⟨s.a.mono (by decide), (s.b.mono (j := 1000) (k := 1002) (by decide)).sub (two.mul s.a (by decide)) (by decide), k1⟩
theorem e_law_ahead {G : Eqn} (x : Bool) (s : SmE 1000 G) (ha : (ahd x G).a ≠ 0) : φ__law_ahead [.str [cc x], dE G] = some (.val (dE (low (ahd x G))), []) := by
  have q := e_law_coprime ha (sm_ahd s x)
  have two : Sm 2 (2 : Int) := by unfold Sm; decide
  have c1 := two.cMul s.a
  have c2 := two.cMul s.c
  cases x
  · simp only [ahd, dE] at q
    simp [φ__law_ahead, g__law_ahead, phiP, env0, sSeq, sIf, sNx, sRet, sRetN, sSet, sAsg, sPar, sPar3, sItem, sDrop, sFor, sBk, sCt, sNever, gNot, gTb, gAnd, gOr, gCallX, aCons, aNil, aStar, gVar, gC, gAndV, gOrV, gNotV, gBin, gUn, gIfE, gTup, gLst, gSl, gP, gNoP, gM, iAny, iRange, iRange2, iRev, iZip, frz, unb, setR, retR, asB, dat, slD, asg_nm, asg_tp, asgs_nil, asgs_cons, asgR, Rv.res, RF.res, Ev.put, oIs, isNonD, oCmpI, oI, oNeg, oLen, itemsOf, itemsR, revR, zipD, zipR, oTuple, oList, oBool, oIsi, oIsi2, isT, tyD, oEq_int, oEq_cc, oEq_lnil, oEq_drs, mApp, mExt, mPop, dE, oEq_str, oAdd, oMul, c1, c2, q, ahd]
  · simp only [ahd, dE] at q
    simp [φ__law_ahead, g__law_ahead, phiP, env0, sSeq, sIf, sNx, sRet, sRetN, sSet, sAsg, sPar, sPar3, sItem, sDrop, sFor, sBk, sCt, sNever, gNot, gTb, gAnd, gOr, gCallX, aCons, aNil, aStar, gVar, gC, gAndV, gOrV, gNotV, gBin, gUn, gIfE, gTup, gLst, gSl, gP, gNoP, gM, iAny, iRange, iRange2, iRev, iZip, frz, unb, setR, retR, asB, dat, slD, asg_nm, asg_tp, asgs_nil, asgs_cons, asgR, Rv.res, RF.res, Ev.put, oIs, isNonD, oCmpI, oI, oNeg, oLen, itemsOf, itemsR, revR, zipD, zipR, oTuple, oList, oBool, oIsi, oIsi2, isT, tyD, oEq_int, oEq_cc, oEq_lnil, oEq_drs, mApp, mExt, mPop, dE, oEq_str, oAdd, oMul, c1, c2, q, ahd]
theorem e_law_above {u v : Int × Int} (h1 : Sm 1000 u.2) (h2 : Sm 1000 v.1) (h3 : Sm 1000 v.2) (h4 : Sm 1000 u.1) : φ__law_above [dv2 u, dv2 v] = some (.val (.bl (decide (0 < cross u v))), []) := by
  have c1 := h1.cMul h2
  have c2 := h3.cMul h4
  have e : decide (0 < cross u v) = decide (v.2 * u.1 < u.2 * v.1) := by
    apply decide_eq_decide.mpr
    simp only [cross]; omega
  rw [e]
  simp [φ__law_above, g__law_above, phiP, env0, sSeq, sIf, sNx, sRet, sRetN, sSet, sAsg, sPar, sPar3, sItem, sDrop, sFor, sBk, sCt, sNever, gNot, gTb, gAnd, gOr, gCallX, aCons, aNil, aStar, gVar, gC, gAndV, gOrV, gNotV, gBin, gUn, gIfE, gTup, gLst, gSl, gP, gNoP, gM, iAny, iRange, iRange2, iRev, iZip, frz, unb, setR, retR, asB, dat, slD, asg_nm, asg_tp, asgs_nil, asgs_cons, asgR, Rv.res, RF.res, Ev.put, oIs, isNonD, oCmpI, oI, oNeg, oLen, itemsOf, itemsR, revR, zipD, zipR, oTuple, oList, oBool, oIsi, oIsi2, isT, tyD, oEq_int, oEq_cc, oEq_lnil, oEq_drs, mApp, mExt, mPop, dv2, oIx, atI_0, atI_1, oMul, c1, c2]
theorem e_above_root {G : Eqn} {v : Int × Int} {g : Bool} (s : SmE 1000 G) (h1 : Sm 1000 v.1) (h2 : Sm 1000 v.2) (hp : v.1 ≠ 0) :
    φ__law_is_above_root [dv2 v, dE G, .bl g] = some (.val (.bl (if g then decide (0 < G.m v) && decide (0 < G.at v) else decide (0 < G.m v) || decide (G.at v < 0))), []) := by
  obtain ⟨p, q⟩ := v
  obtain ⟨a, b, c⟩ := G
  obtain ⟨sa, sb, sc⟩ := s
  simp only at *
  have two : Sm 2 (2 : Int) := by unfold Sm; decide
  have p1 := sa.cMul h2
  have p2 := (sa.mul h2 (k := 2000) (by decide)).cMul h2
  have p3 := sb.cMul h1
  have p4 := (sb.mul h1 (k := 2000) (by decide)).cMul h2
  have p5 := sc.cMul h1
  have p6 := (sc.mul h1 (k := 2000) (by decide)).cMul h1
  have p7 := two.cMul sa
  have p8 := (two.mul sa (k := 1002) (by decide)).cMul h2
  have e0 : (⟨a, b, c⟩ : Eqn).at (p, q) = a * q * q + b * p * q + c * p * p := rfl
  have e1 : (⟨a, b, c⟩ : Eqn).m (p, q) = 2 * a * q + b * p := rfl
  rw [e0, e1]
  have t0 : φ__law_is_above_root [dv2 (p, q), dE ⟨a, b, c⟩, .bl g] = phiP 3 10 g__law_is_above_root [dv2 (p, q), dE ⟨a, b, c⟩, .bl g] := rfl
  rw [t0]
  have ρ2 : Ev := ⟨false, [.fz (dv2 (p, q)), .fz (dE ⟨a, b, c⟩), .fz (.bl g), .fz (.int p), .fz (.int q), .fz (.int a), .fz (.int b), .fz (.int c), .fz (.int (a * q * q + b * p * q + c * p * p)), .fz (.bl (decide (0 < 2 * a * q + b * p)))]⟩
  have go : ∀ r : Bool, r = (if g then decide (0 < 2 * a * q + b * p) && decide (0 < a * q * q + b * p * q + c * p * p) else decide (0 < 2 * a * q + b * p) || decide (a * q * q + b * p * q + c * p * p < 0)) →
      g__law_is_above_root ⟨false, [.fz (dv2 (p, q)), .fz (dE ⟨a, b, c⟩), .fz (.bl g), .un, .un, .un, .un, .un, .un, .un]⟩ = some (.rt (.val (.bl r)) ⟨false, [.fz (dv2 (p, q)), .fz (dE ⟨a, b, c⟩), .fz (.bl g), .fz (.int p), .fz (.int q), .fz (.int a), .fz (.int b), .fz (.int c), .fz (.int (a * q * q + b * p * q + c * p * p)), .fz (.bl (decide (0 < 2 * a * q + b * p)))]⟩) := by
    intro r hr
    unfold g__law_is_above_root
    refine seq_nx (ρ' := ⟨false, [.fz (dv2 (p, q)), .fz (dE ⟨a, b, c⟩), .fz (.bl g), .fz (.int p), .fz (.int q), .fz (.int a), .fz (.int b), .fz (.int c), .un, .un]⟩) (by simp [phiP, env0, sSeq, sIf, sNx, sRet, sRetN, sSet, sAsg, sPar, sPar3, sItem, sDrop, sFor, sBk, sCt, sNever, gNot, gTb, gAnd, gOr, gCallX, aCons, aNil, aStar, gVar, gC, gAndV, gOrV, gNotV, gBin, gUn, gIfE, gTup, gLst, gSl, gP, gNoP, gM, iAny, iRange, iRange2, iRev, iZip, frz, unb, setR, retR, asB, dat, slD, asg_nm, asg_tp, asgs_nil, asgs_cons, asgR, Rv.res, RF.res, Ev.put, oIs, isNonD, oCmpI, oI, oNeg, oLen, itemsOf, itemsR, revR, zipD, zipR, oTuple, oList, oBool, oIsi, oIsi2, isT, tyD, oEq_int, oEq_cc, oEq_lnil, oEq_drs, mApp, mExt, mPop, dv2, dE]) ?_
    have hz : (p == (0 : Int)) = false := by simpa using hp
    have tz := t_b (v_eqI false (ga := gVar 3) (gb := gC (.int 0)) (ρ := ⟨false, [.fz (dv2 (p, q)), .fz (dE ⟨a, b, c⟩), .fz (.bl g), .fz (.int p), .fz (.int q), .fz (.int a), .fz (.int b), .fz (.int c), .un, .un]⟩) (i := p) (j := 0) (v_var rfl) v_c)
    simp only [hz, Bool.false_eq_true, if_false] at tz
    refine seq_nx (if_f tz rfl) ?_
    refine seq_nx (set_fz (v_add (v_add (v_mul (v_mul (v_var rfl) (v_var rfl) p1) (v_var rfl) p2) (v_mul (v_mul (v_var rfl) (v_var rfl) p3) (v_var rfl) p4)) (v_mul (v_mul (v_var rfl) (v_var rfl) p5) (v_var rfl) p6)) rfl) ?_
    refine seq_nx (set_fz (v_cmp (v_add (v_mul (v_mul v_c (v_var rfl) p7) (v_var rfl) p8) (v_mul (v_var rfl) (v_var rfl) p3)) (v_c (d := .int 0))) rfl) ?_
    show sSeq _ _ ⟨false, [.fz (dv2 (p, q)), .fz (dE ⟨a, b, c⟩), .fz (.bl g), .fz (.int p), .fz (.int q), .fz (.int a), .fz (.int b), .fz (.int c), .fz (.int (a * q * q + b * p * q + c * p * p)), .fz (.bl (decide (0 < 2 * a * q + b * p)))]⟩ = _
    cases g
    · refine seq_nx (if_f (t_b (v_var rfl)) rfl) ?_
      rw [hr]
      exact ret_fz (v_or (v_var rfl) fun _ => v_cmp (v_var rfl) v_c)
    · refine seq_rt (if_t (t_b (v_var rfl)) ?_)
      rw [hr]
      exact ret_fz (v_and (v_var rfl) fun _ => v_cmp (v_var rfl) v_c)
  exact phi_rt (go _ rfl) rfl
end W
end

section
set_option Elab.async false
set_option linter.all false
set_option maxRecDepth 100000
set_option maxHeartbeats 4000000
namespace W
open DL Lim
/-! ## _law_is_square -/
theorem l_square {n : Int} (hn : 1 ≤ n) (sn : Sm 2000 n) : ∀ (N : Nat) (f : Int), 1 ≤ f → f ≤ n → f < (N : Int) → ∃ r : Int, 1 ≤ r ∧ r ≤ n ∧ whileG C__law_is_square_0 L__law_is_square_0 N ⟨false, [.fz (.int n), .fz (.int f)]⟩ = some (.nx ⟨false, [.fz (.int n), .fz (.int r)]⟩)
  | 0, f, h1, h2, h3 => by omega
  | N + 1, f, h1, h2, h3 => by
    have sf : Sm 2000 f := sn.le (by omega)
    have c := sf.cMul sf
    by_cases hc : n < f * f
    · have e1 : C__law_is_square_0 ⟨false, [.fz (.int n), .fz (.int f)]⟩ = some (true, ⟨false, [.fz (.int n), .fz (.int f)]⟩) := by
        simp [C__law_is_square_0, phiP, env0, sSeq, sIf, sNx, sRet, sRetN, sSet, sAsg, sPar, sPar3, sItem, sDrop, sFor, sBk, sCt, sNever, gNot, gTb, gAnd, gOr, gCallX, aCons, aNil, aStar, gVar, gC, gAndV, gOrV, gNotV, gBin, gUn, gIfE, gTup, gLst, gSl, gP, gNoP, gM, iAny, iRange, iRange2, iRev, iZip, frz, unb, setR, retR, asB, dat, slD, asg_nm, asg_tp, asgs_nil, asgs_cons, asgR, Rv.res, RF.res, Ev.put, oIs, isNonD, oCmpI, oI, oNeg, oLen, itemsOf, itemsR, revR, zipD, zipR, oTuple, oList, oBool, oIsi, oIsi2, isT, tyD, oEq_int, oEq_cc, oEq_lnil, oEq_drs, mApp, mExt, mPop, oMul, c, hc]
      have f0 : ¬ f = 0 := by omega
      have lf := sf.log
      have l2 : (2 : Int).natAbs.log2 < 9000 := by decide
      have d1 : n.fdiv f = n / f := Int.fdiv_eq_ediv_of_nonneg _ (by omega)
      have d2 : (f + n / f).fdiv 2 = (f + n / f) / 2 := Int.fdiv_eq_ediv_of_nonneg _ (by decide)
      have k1 : n / f < f := Int.ediv_lt_of_lt_mul (by omega) hc
      have k2 : 1 ≤ n / f := Int.le_ediv_of_mul_le (by omega) (by omega)
      have e2 : L__law_is_square_0 ⟨false, [.fz (.int n), .fz (.int f)]⟩ = some (.nx ⟨false, [.fz (.int n), .fz (.int ((f + n / f) / 2))]⟩) := by
        have hh : Ev1 (gBin (oI fFdiv) (gUn oInt (gBin oAdd (gVar 1) (gBin (oI fFdiv) (gVar 0) (gVar 1)))) (gC (.int 2))) ⟨false, [.fz (.int n), .fz (.int f)]⟩ (.int ((f + n / f) / 2)) := by
          refine v_bin (d1 := .int (f + n / f)) (d2 := .int 2) (v_un (d1 := .int (f + n / f)) (v_add (v_var rfl) (v_bin (d1 := .int n) (d2 := .int f) (v_var rfl) (v_var rfl) (d := .int (n / f)) ?_)) rfl) v_c ?_
          · simp [oI, fFdiv, f0, lf, d1]
          · simp only [oI, fFdiv]
            rw [if_pos ⟨by decide, l2⟩, d2]
            rfl
        exact set_fz hh rfl
      obtain ⟨r, r1, r2, r3⟩ := l_square hn sn N ((f + n / f) / 2) (by omega) (by omega) (by omega)
      refine ⟨r, r1, r2, ?_⟩
      simp only [whileG, e1, Option.bind_some, if_true, e2, r3]
    · refine ⟨f, h1, h2, ?_⟩
      have e1 : C__law_is_square_0 ⟨false, [.fz (.int n), .fz (.int f)]⟩ = some (false, ⟨false, [.fz (.int n), .fz (.int f)]⟩) := by
        simp [C__law_is_square_0, phiP, env0, sSeq, sIf, sNx, sRet, sRetN, sSet, sAsg, sPar, sPar3, sItem, sDrop, sFor, sBk, sCt, sNever, gNot, gTb, gAnd, gOr, gCallX, aCons, aNil, aStar, gVar, gC, gAndV, gOrV, gNotV, gBin, gUn, gIfE, gTup, gLst, gSl, gP, gNoP, gM, iAny, iRange, iRange2, iRev, iZip, frz, unb, setR, retR, asB, dat, slD, asg_nm, asg_tp, asgs_nil, asgs_cons, asgR, Rv.res, RF.res, Ev.put, oIs, isNonD, oCmpI, oI, oNeg, oLen, itemsOf, itemsR, revR, zipD, zipR, oTuple, oList, oBool, oIsi, oIsi2, isT, tyD, oEq_int, oEq_cc, oEq_lnil, oEq_drs, mApp, mExt, mPop, oMul, c, hc]
      simp only [whileG, e1, Option.bind_some, Bool.false_eq_true, if_false]
theorem e_not_square {n : Int} (hn : 1 ≤ n) (sn : Sm 2000 n) (h : ∀ r : Int, r * r ≠ n) : φ__law_is_square [.int n] = some (.val (.bl false), []) := by
  have hb : n < (big : Int) := by
    have := Sm.big (n := n.toNat) (by rw [Int.toNat_of_nonneg (by omega)]; exact sn.mono (by decide))
    omega
  obtain ⟨r, r1, r2, r3⟩ := l_square hn sn big n hn (Int.le_refl _) hb
  have sr : Sm 2000 r := sn.le (by omega)
  have c := sr.cMul sr
  have ne := h r
  refine phi_rt (ρ := ⟨false, [.fz (.int n), .fz (.int r)]⟩) ?_ rfl
  show g__law_is_square ⟨false, [.fz (.int n), .un]⟩ = _
  unfold g__law_is_square
  refine seq_nx (set_fz (v_var rfl) rfl) ?_
  refine seq_nx r3 ?_
  have ev := v_eqI false (ga := gBin oMul (gVar 1) (gVar 1)) (gb := gVar 0) (ρ := ⟨false, [.fz (.int n), .fz (.int r)]⟩) (i := r * r) (j := n) (v_mul (v_var rfl) (v_var rfl) c) (v_var rfl)
  have hz : (r * r == n) = false := by simpa using ne
  simp only [hz, Bool.false_eq_true, if_false] at ev
  exact ret_fz ev
/-! ## _law_low, _law_back -/
theorem e_law_low {p q : Nat} (hp : 0 < p) (sp : Sm 1000 (p : Int)) (sq : Sm 1000 (q : Int)) : φ__law_low [.int p, .int q] = some (.val (dv2 (((p / Nat.gcd p q : Nat) : Int), ((q / Nat.gcd p q : Nat) : Int))), []) := by
  have e := e_law_common p q (sq.mono (by decide))
  have gp : Nat.gcd p q ≠ 0 := Nat.pos_iff_ne_zero.mp (Nat.gcd_pos_of_pos_left q hp)
  have gl : Sm 1000 ((Nat.gcd p q : Nat) : Int) := sp.le (by rw [Int.natAbs_natCast, Int.natAbs_natCast]; exact Nat.gcd_le_left q hp)
  have lg := gl.log
  rw [Int.natAbs_natCast] at lg
  have gp' : ((Nat.gcd p q : Nat) : Int) ≠ 0 := by omega
  have f1 : fFdiv (p : Int) ((Nat.gcd p q : Nat) : Int) = some ((p / Nat.gcd p q : Nat) : Int) := by
    unfold fFdiv
    rw [if_pos ⟨gp', by rw [Int.natAbs_natCast]; exact lg⟩, Int.fdiv_eq_ediv_of_nonneg _ (by omega)]
    simp
  have f2 : fFdiv (q : Int) ((Nat.gcd p q : Nat) : Int) = some ((q / Nat.gcd p q : Nat) : Int) := by
    unfold fFdiv
    rw [if_pos ⟨gp', by rw [Int.natAbs_natCast]; exact lg⟩, Int.fdiv_eq_ediv_of_nonneg _ (by omega)]
    simp
  refine phi_rt (ρ := ⟨false, [.fz (.int p), .fz (.int q), .fz (.int (Nat.gcd p q : Nat))]⟩) ?_ rfl
  show g__law_low ⟨false, [.fz (.int p), .fz (.int q), .un]⟩ = _
  unfold g__law_low
  refine seq_nx (set_fz (v_call0 (a_cons (v_var rfl) (a_cons (v_var rfl) a_nil)) e) rfl) ?_
  refine ret_fz (v_tup (a_cons (v_bin (d1 := .int p) (d2 := .int (Nat.gcd p q : Nat)) (v_un (v_var rfl) rfl) (v_var rfl) ?_) (a_cons (v_bin (d1 := .int q) (d2 := .int (Nat.gcd p q : Nat)) (v_un (v_var rfl) rfl) (v_var rfl) ?_) a_nil)) (by simp))
  · simp only [oI, f1, Option.map_some]
  · simp only [oI, f2, Option.map_some]
theorem l_back {X : D} : ∀ (w : Wd) (v : Int × Int) (s : Sl), ∃ s', loopG (.nm 3) L__law_back_0 (chR w) ⟨false, [.fz X, .fz (.int v.1), .fz (.int v.2), s]⟩ = some (.nx ⟨false, [.fz X, .fz (.int (actw w.reverse v).1), .fz (.int (actw w.reverse v).2), s']⟩)
  | [], v, s => ⟨s, rfl⟩
  | x :: w, v, s => by
    obtain ⟨s', ih⟩ := l_back (X := X) w (act x v) (.fz (.str [cc x]))
    refine ⟨s', ?_⟩
    show loopG _ _ (Rv.val (.str [cc x]) :: chR w) _ = _
    have e : asgR (.nm 3) (Rv.val (.str [cc x])) ⟨false, [.fz X, .fz (.int v.1), .fz (.int v.2), s]⟩ = some ⟨false, [.fz X, .fz (.int v.1), .fz (.int v.2), .fz (.str [cc x])]⟩ := rfl
    have b : L__law_back_0 ⟨false, [.fz X, .fz (.int v.1), .fz (.int v.2), .fz (.str [cc x])]⟩ = some (.nx ⟨false, [.fz X, .fz (.int (act x v).1), .fz (.int (act x v).2), .fz (.str [cc x])]⟩) := by
      cases x
      · simp [L__law_back_0, phiP, env0, sSeq, sIf, sNx, sRet, sRetN, sSet, sAsg, sPar, sPar3, sItem, sDrop, sFor, sBk, sCt, sNever, gNot, gTb, gAnd, gOr, gCallX, aCons, aNil, aStar, gVar, gC, gAndV, gOrV, gNotV, gBin, gUn, gIfE, gTup, gLst, gSl, gP, gNoP, gM, iAny, iRange, iRange2, iRev, iZip, frz, unb, setR, retR, asB, dat, slD, asg_nm, asg_tp, asgs_nil, asgs_cons, asgR, Rv.res, RF.res, Ev.put, oIs, isNonD, oCmpI, oI, oNeg, oLen, itemsOf, itemsR, revR, zipD, zipR, oTuple, oList, oBool, oIsi, oIsi2, isT, tyD, oEq_int, oEq_cc, oEq_lnil, oEq_drs, mApp, mExt, mPop, oEq_strA, oAdd, act]
      · simp [L__law_back_0, phiP, env0, sSeq, sIf, sNx, sRet, sRetN, sSet, sAsg, sPar, sPar3, sItem, sDrop, sFor, sBk, sCt, sNever, gNot, gTb, gAnd, gOr, gCallX, aCons, aNil, aStar, gVar, gC, gAndV, gOrV, gNotV, gBin, gUn, gIfE, gTup, gLst, gSl, gP, gNoP, gM, iAny, iRange, iRange2, iRev, iZip, frz, unb, setR, retR, asB, dat, slD, asg_nm, asg_tp, asgs_nil, asgs_cons, asgR, Rv.res, RF.res, Ev.put, oIs, isNonD, oCmpI, oI, oNeg, oLen, itemsOf, itemsR, revR, zipD, zipR, oTuple, oList, oBool, oIsi, oIsi2, isT, tyD, oEq_int, oEq_cc, oEq_lnil, oEq_drs, mApp, mExt, mPop, oEq_strA, oAdd, act]
    simp only [loopG, e, Option.bind_some, b]
    rw [ih, List.reverse_cons, actw_app]
    rfl
theorem e_law_back {w : Wd} (h : w.length ≤ 16777216) : φ__law_back [tx w] = some (.val (dv2 (back w)), []) := by
  obtain ⟨s', ih⟩ := l_back (X := tx w) w.reverse (1, 1) .un
  rw [List.reverse_reverse, actw_back] at ih
  have e1 : oRevS (.str (w.map cc)) = some (.val (.str (w.reverse.map cc))) := by
    simp only [oRevS, List.length_map, h, if_true, List.map_reverse]
  simp only [tx] at ih
  simp [φ__law_back, g__law_back, tx, phiP, env0, sSeq, sIf, sNx, sRet, sRetN, sSet, sAsg, sPar, sPar3, sItem, sDrop, sFor, sBk, sCt, sNever, gNot, gTb, gAnd, gOr, gCallX, aCons, aNil, aStar, gVar, gC, gAndV, gOrV, gNotV, gBin, gUn, gIfE, gTup, gLst, gSl, gP, gNoP, gM, iAny, iRange, iRange2, iRev, iZip, frz, unb, setR, retR, asB, dat, slD, asg_nm, asg_tp, asgs_nil, asgs_cons, asgR, Rv.res, RF.res, Ev.put, oIs, isNonD, oCmpI, oI, oNeg, oLen, itemsOf, itemsR, revR, zipD, zipR, oTuple, oList, oBool, oIsi, oIsi2, isT, tyD, oEq_int, oEq_cc, oEq_lnil, oEq_drs, mApp, mExt, mPop, e1, ← List.map_reverse, chars_tx, ih, dv2]
end W
end

section
set_option Elab.async false
set_option linter.all false
set_option maxRecDepth 100000
set_option maxHeartbeats 4000000
namespace Lim
theorem back_inj : ∀ v w : Wd, back v = back w → v = w
  | [], [], _ => rfl
  | [], x :: w, h => by
    have := back_pos w
    have h1 := congrArg Prod.fst h
    have h2 := congrArg Prod.snd h
    cases x <;> (simp only [back, act] at h1 h2; omega)
  | x :: v, [], h => by
    have := back_pos v
    have h1 := congrArg Prod.fst h
    have h2 := congrArg Prod.snd h
    cases x <;> (simp only [back, act] at h1 h2; omega)
  | x :: v, y :: w, h => by
    have p1 := back_pos v
    have p2 := back_pos w
    have h1 := congrArg Prod.fst h
    have h2 := congrArg Prod.snd h
    cases x <;> cases y <;> simp only [back, act] at h1 h2
    · rw [back_inj v w (by ext <;> omega)]
    · omega
    · omega
    · rw [back_inj v w (by ext <;> omega)]
theorem back_le : ∀ w : Wd, (back w).1 ≤ 2 ^ w.length ∧ (back w).2 ≤ 2 ^ w.length
  | [] => by decide
  | x :: w => by
    have h := back_le w
    have n := back_pos w
    have e : (2 : Int) ^ (x :: w).length = 2 * 2 ^ w.length := by rw [List.length_cons, Int.pow_succ, Int.mul_comm]
    rw [e]
    generalize (2 : Int) ^ w.length = P at *
    cases x <;> (simp only [back, act]; omega)
theorem back_cop : ∀ w : Wd, ∃ x y : Int, x * (back w).1 + y * (back w).2 = 1
  | [] => ⟨1, 0, by decide⟩
  | x :: w => by
    obtain ⟨u, v, e⟩ := back_cop w
    cases x
    · exact ⟨u, v - u, by simp only [back, act]; rw [← e]; grind⟩
    · exact ⟨u - v, v, by simp only [back, act]; rw [← e]; grind⟩
end Lim
namespace W
open DL Lim
theorem sm_back {w : Wd} {k : Nat} (h : w.length < k) : Sm k (back w).1 ∧ Sm k (back w).2 := by
  have l := back_le w
  have n := back_pos w
  have e : ((2 ^ w.length : Nat) : Int) = (2 : Int) ^ w.length := by simp
  have p : 2 ^ w.length < 2 ^ k := Nat.pow_lt_pow_right (by decide) h
  unfold Sm
  rw [← e] at l
  omega
def sEast : List Nat := [101, 97, 115, 116]
def sNorth : List Nat := [110, 111, 114, 116, 104]
def dS : Sla → D
  | .east => .str sEast
  | .north => .str sNorth
  | .word v => dW v
def NameOk : Sla → Prop
  | .word v => Pok (runs v)
  | _ => True
theorem ok_str {s : List Nat} (h : s.all (· < 1114112) = true) : PySem.PyData.strOk (mkS s) = true := by
  show s.toArray.all (· < 0x110000) = true
  rw [List.all_toArray]
  exact h
theorem shp_str {s : List Nat} (h : s.all (· < 1114112) = true) : shp (.str s) = true := shp_of (by simp [pl, ok_str h]) (by simp [dep])
theorem shp_2s : shp (.tup [.str sEast, .str sNorth]) = true := by
  have h1 := ok_str (s := sEast) (by decide)
  have h2 := ok_str (s := sNorth) (by decide)
  exact shp_of (by simp [pl, plA, h1, h2]) (by simp [dep, depA])
theorem shp_dv2 (v : Int × Int) : shp (dv2 v) = true := shp_of (by simp [dv2, pl, plA]) (by simp [dv2, dep, depA])
theorem in_ways (v : Int × Int) : oIn false (dv2 v) (.tup [.tup [.int 1, .int 0], .tup [.int 0, .int 1]]) = some (.val (.bl (decide (v = (1, 0)) || decide (v = (0, 1))))) := by
  have h : shp (.tup [.tup [.int 1, .int 0], .tup [.int 0, .int 1]]) = true := shp_of (by simp [pl, plA]) (by simp [dep, depA])
  simp only [oIn, shp_dv2, h, Bool.and_self, if_true]
  obtain ⟨p, q⟩ := v
  simp only [List.any_cons, List.any_nil, dv2, deq, deqA, Bool.and_true, Bool.or_false, Bool.false_eq_true, if_false]
  have k : ∀ i j : Int, (i == j) = decide (j = i) := fun i j => by
    by_cases h : j = i
    · subst h; simp
    · have h' : ¬ i = j := fun z => h z.symm
      simp [h, h']
  simp only [k, Prod.mk.injEq, Bool.decide_and]
theorem in_names_w (v : Wd) : oIn false (dW v) (.tup [.str sEast, .str sNorth]) = some (.val (.bl false)) := by
  have h : shp (dW v) = true := shp_drs _
  simp only [oIn, h, shp_2s, Bool.and_self, if_true]
  simp [dW, deq]
theorem in_names_e : oIn false (.str sEast) (.tup [.str sEast, .str sNorth]) = some (.val (.bl true)) := by
  have h : shp (.str sEast) = true := shp_str (by decide)
  simp only [oIn, h, shp_2s, Bool.and_self, if_true]
  simp [deq]
theorem in_names_n : oIn false (.str sNorth) (.tup [.str sEast, .str sNorth]) = some (.val (.bl true)) := by
  have h : shp (.str sNorth) = true := shp_str (by decide)
  simp only [oIn, h, shp_2s, Bool.and_self, if_true]
  simp [deq]
theorem eq_dv2 (v w : Int × Int) : oEq false (dv2 v) (dv2 w) = some (.val (.bl (decide (v = w)))) := by
  unfold oEq
  rw [shp_dv2, shp_dv2]
  obtain ⟨p, q⟩ := v
  obtain ⟨r, s⟩ := w
  simp only [Bool.and_self, if_true, dv2, deq, deqA, Bool.and_true, Bool.false_eq_true, if_false, Prod.mk.injEq, Bool.decide_and]
  by_cases h1 : p = r <;> by_cases h2 : q = s <;> simp [h1, h2]
theorem e_name_of {v : Int × Int} (h1 : 0 ≤ v.1) (h2 : 0 ≤ v.2) (hc : Cop v) (s1 : Sm 1000 v.1) (s2 : Sm 1000 v.2)
    (hb : (v.1 ≤ 1000000000000 ∧ v.2 ≤ 1000000000000) ∨ ∃ w, back w = v ∧ w.length ≤ 1000000000000) :
    ∃ s : Sla, φ_name_of [dv2 v] = some (.val (dS s), []) ∧ vec s = v ∧ NameOk s := by
  have e0 := e_is_slant h1 h2 hc (s2.mono (by decide))
  have key : ∀ d, φ_name_in [dv2 v] = some (.val d, []) → φ_name_of [dv2 v] = some (.val d, []) := fun d hd => by
    simp only [dv2] at e0 hd
    simp [φ_name_of, g_name_of, phiP, env0, sSeq, sIf, sNx, sRet, sRetN, sSet, sAsg, sPar, sPar3, sItem, sDrop, sFor, sBk, sCt, sNever, gNot, gTb, gAnd, gOr, gCallX, aCons, aNil, aStar, gVar, gC, gAndV, gOrV, gNotV, gBin, gUn, gIfE, gTup, gLst, gSl, gP, gNoP, gM, iAny, iRange, iRange2, iRev, iZip, frz, unb, setR, retR, asB, dat, slD, asg_nm, asg_tp, asgs_nil, asgs_cons, asgR, Rv.res, RF.res, Ev.put, oIs, isNonD, oCmpI, oI, oNeg, oLen, itemsOf, itemsR, revR, zipD, zipR, oTuple, oList, oBool, oIsi, oIsi2, isT, tyD, oEq_int, oEq_cc, oEq_lnil, oEq_drs, mApp, mExt, mPop, dv2, e0, hd]
  have hin := in_ways v
  by_cases ve : v = (1, 0)
  · subst ve
    exact ⟨.east, key _ (by rfl), rfl, trivial⟩
  · by_cases vn : v = (0, 1)
    · subst vn
      exact ⟨.north, key _ (by rfl), rfl, trivial⟩
    · obtain ⟨p, q⟩ := v
      simp only at *
      have pos : 1 ≤ p ∧ 1 ≤ q := by
        obtain ⟨x, y, e⟩ := hc
        simp only at e
        constructor
        · rcases Int.lt_or_le 0 p with z | z
          · omega
          · exfalso
            have p0 : p = 0 := by omega
            subst p0
            have d : q ∣ 1 := ⟨y, by rw [← e]; grind⟩
            have := Int.le_of_dvd (by decide) d
            rcases Int.lt_or_le 0 q with z2 | z2
            · exact vn (by ext <;> simp; omega)
            · have : q = 0 := by omega
              subst this; omega
        · rcases Int.lt_or_le 0 q with z | z
          · omega
          · exfalso
            have p0 : q = 0 := by omega
            subst p0
            have d : p ∣ 1 := ⟨x, by rw [← e]; grind⟩
            have := Int.le_of_dvd (by decide) d
            rcases Int.lt_or_le 0 p with z2 | z2
            · exact ve (by ext <;> simp; omega)
            · have : p = 0 := by omega
              subst this; omega
      obtain ⟨w, e1, e2, e3, e4⟩ := e_path_in pos.1 pos.2 hc (s1.mono (by decide)) (s2.mono (by decide))
      refine ⟨.word w, key _ ?_, e2, ?_⟩
      · simp only [ve, vn, decide_false, Bool.or_self] at hin
        simp only [dv2] at hin e1
        simp [φ_name_in, g_name_in, phiP, env0, sSeq, sIf, sNx, sRet, sRetN, sSet, sAsg, sPar, sPar3, sItem, sDrop, sFor, sBk, sCt, sNever, gNot, gTb, gAnd, gOr, gCallX, aCons, aNil, aStar, gVar, gC, gAndV, gOrV, gNotV, gBin, gUn, gIfE, gTup, gLst, gSl, gP, gNoP, gM, iAny, iRange, iRange2, iRev, iZip, frz, unb, setR, retR, asB, dat, slD, asg_nm, asg_tp, asgs_nil, asgs_cons, asgR, Rv.res, RF.res, Ev.put, oIs, isNonD, oCmpI, oI, oNeg, oLen, itemsOf, itemsR, revR, zipD, zipR, oTuple, oList, oBool, oIsi, oIsi2, isT, tyD, oEq_int, oEq_cc, oEq_lnil, oEq_drs, mApp, mExt, mPop, dv2, k_EAST_SLANT, k_NORTH_SLANT, hin, e1, dS]
      · refine ⟨fun r hr => ⟨(can_runs w).pos r hr, ?_⟩, by omega, Can.adj (can_runs w)⟩
        rcases hb with hb | ⟨u, hu, hl⟩
        · have := e4 r hr
          omega
        · have : w = u := back_inj w u (by rw [e2, hu])
          subst this
          have := run_le hr
          rw [ex_runs] at this
          omega
/-! ## names read -/
theorem e_need_name {s : Sla} (h : NameOk s) : φ_need_name [dS s, .str [110, 97, 109, 101]] = some (.val (dS s), []) := by
  cases s with
  | east =>
    have i := in_names_e
    have i1 : φ_is_name [.str sEast] = some (.val (.bl true), []) := by
      simp only [sEast, sNorth] at i
      simp [φ_is_name, g_is_name, phiP, env0, sSeq, sIf, sNx, sRet, sRetN, sSet, sAsg, sPar, sPar3, sItem, sDrop, sFor, sBk, sCt, sNever, gNot, gTb, gAnd, gOr, gCallX, aCons, aNil, aStar, gVar, gC, gAndV, gOrV, gNotV, gBin, gUn, gIfE, gTup, gLst, gSl, gP, gNoP, gM, iAny, iRange, iRange2, iRev, iZip, frz, unb, setR, retR, asB, dat, slD, asg_nm, asg_tp, asgs_nil, asgs_cons, asgR, Rv.res, RF.res, Ev.put, oIs, isNonD, oCmpI, oI, oNeg, oLen, itemsOf, itemsR, revR, zipD, zipR, oTuple, oList, oBool, oIsi, oIsi2, isT, tyD, oEq_int, oEq_cc, oEq_lnil, oEq_drs, mApp, mExt, mPop, sEast, k_EAST, k_NORTH, i]
    have i2 : φ_name_at [.str sEast] = some (.val (.str sEast), []) := rfl
    simp [φ_need_name, g_need_name, phiP, env0, sSeq, sIf, sNx, sRet, sRetN, sSet, sAsg, sPar, sPar3, sItem, sDrop, sFor, sBk, sCt, sNever, gNot, gTb, gAnd, gOr, gCallX, aCons, aNil, aStar, gVar, gC, gAndV, gOrV, gNotV, gBin, gUn, gIfE, gTup, gLst, gSl, gP, gNoP, gM, iAny, iRange, iRange2, iRev, iZip, frz, unb, setR, retR, asB, dat, slD, asg_nm, asg_tp, asgs_nil, asgs_cons, asgR, Rv.res, RF.res, Ev.put, oIs, isNonD, oCmpI, oI, oNeg, oLen, itemsOf, itemsR, revR, zipD, zipR, oTuple, oList, oBool, oIsi, oIsi2, isT, tyD, oEq_int, oEq_cc, oEq_lnil, oEq_drs, mApp, mExt, mPop, dS, i1, i2]
  | north =>
    have i := in_names_n
    have i1 : φ_is_name [.str sNorth] = some (.val (.bl true), []) := by
      simp only [sEast, sNorth] at i
      simp [φ_is_name, g_is_name, phiP, env0, sSeq, sIf, sNx, sRet, sRetN, sSet, sAsg, sPar, sPar3, sItem, sDrop, sFor, sBk, sCt, sNever, gNot, gTb, gAnd, gOr, gCallX, aCons, aNil, aStar, gVar, gC, gAndV, gOrV, gNotV, gBin, gUn, gIfE, gTup, gLst, gSl, gP, gNoP, gM, iAny, iRange, iRange2, iRev, iZip, frz, unb, setR, retR, asB, dat, slD, asg_nm, asg_tp, asgs_nil, asgs_cons, asgR, Rv.res, RF.res, Ev.put, oIs, isNonD, oCmpI, oI, oNeg, oLen, itemsOf, itemsR, revR, zipD, zipR, oTuple, oList, oBool, oIsi, oIsi2, isT, tyD, oEq_int, oEq_cc, oEq_lnil, oEq_drs, mApp, mExt, mPop, sNorth, k_EAST, k_NORTH, i]
    have i2 : φ_name_at [.str sNorth] = some (.val (.str sNorth), []) := rfl
    simp [φ_need_name, g_need_name, phiP, env0, sSeq, sIf, sNx, sRet, sRetN, sSet, sAsg, sPar, sPar3, sItem, sDrop, sFor, sBk, sCt, sNever, gNot, gTb, gAnd, gOr, gCallX, aCons, aNil, aStar, gVar, gC, gAndV, gOrV, gNotV, gBin, gUn, gIfE, gTup, gLst, gSl, gP, gNoP, gM, iAny, iRange, iRange2, iRev, iZip, frz, unb, setR, retR, asB, dat, slD, asg_nm, asg_tp, asgs_nil, asgs_cons, asgR, Rv.res, RF.res, Ev.put, oIs, isNonD, oCmpI, oI, oNeg, oLen, itemsOf, itemsR, revR, zipD, zipR, oTuple, oList, oBool, oIsi, oIsi2, isT, tyD, oEq_int, oEq_cc, oEq_lnil, oEq_drs, mApp, mExt, mPop, dS, i1, i2]
  | word v =>
    have e1 := e_is_path h
    have e2 := e_path_at (rs := runs v) (by have := h.len; omega)
    have i1 : φ_is_name [dW v] = some (.val (.bl true), []) := by
      simp [φ_is_name, g_is_name, phiP, env0, sSeq, sIf, sNx, sRet, sRetN, sSet, sAsg, sPar, sPar3, sItem, sDrop, sFor, sBk, sCt, sNever, gNot, gTb, gAnd, gOr, gCallX, aCons, aNil, aStar, gVar, gC, gAndV, gOrV, gNotV, gBin, gUn, gIfE, gTup, gLst, gSl, gP, gNoP, gM, iAny, iRange, iRange2, iRev, iZip, frz, unb, setR, retR, asB, dat, slD, asg_nm, asg_tp, asgs_nil, asgs_cons, asgR, Rv.res, RF.res, Ev.put, oIs, isNonD, oCmpI, oI, oNeg, oLen, itemsOf, itemsR, revR, zipD, zipR, oTuple, oList, oBool, oIsi, oIsi2, isT, tyD, oEq_int, oEq_cc, oEq_lnil, oEq_drs, mApp, mExt, mPop, dW, e1]
    have i2 : φ_name_at [dW v] = some (.val (dW v), []) := by
      simp [φ_name_at, g_name_at, phiP, env0, sSeq, sIf, sNx, sRet, sRetN, sSet, sAsg, sPar, sPar3, sItem, sDrop, sFor, sBk, sCt, sNever, gNot, gTb, gAnd, gOr, gCallX, aCons, aNil, aStar, gVar, gC, gAndV, gOrV, gNotV, gBin, gUn, gIfE, gTup, gLst, gSl, gP, gNoP, gM, iAny, iRange, iRange2, iRev, iZip, frz, unb, setR, retR, asB, dat, slD, asg_nm, asg_tp, asgs_nil, asgs_cons, asgR, Rv.res, RF.res, Ev.put, oIs, isNonD, oCmpI, oI, oNeg, oLen, itemsOf, itemsR, revR, zipD, zipR, oTuple, oList, oBool, oIsi, oIsi2, isT, tyD, oEq_int, oEq_cc, oEq_lnil, oEq_drs, mApp, mExt, mPop, dW, e2]
    simp [φ_need_name, g_need_name, phiP, env0, sSeq, sIf, sNx, sRet, sRetN, sSet, sAsg, sPar, sPar3, sItem, sDrop, sFor, sBk, sCt, sNever, gNot, gTb, gAnd, gOr, gCallX, aCons, aNil, aStar, gVar, gC, gAndV, gOrV, gNotV, gBin, gUn, gIfE, gTup, gLst, gSl, gP, gNoP, gM, iAny, iRange, iRange2, iRev, iZip, frz, unb, setR, retR, asB, dat, slD, asg_nm, asg_tp, asgs_nil, asgs_cons, asgR, Rv.res, RF.res, Ev.put, oIs, isNonD, oCmpI, oI, oNeg, oLen, itemsOf, itemsR, revR, zipD, zipR, oTuple, oList, oBool, oIsi, oIsi2, isT, tyD, oEq_int, oEq_cc, oEq_lnil, oEq_drs, mApp, mExt, mPop, dS, i1, i2]
theorem e_slant_by {s : Sla} (h : ∀ v, s = .word v → v.length < 16777216) : φ_slant_by [dS s] = some (.val (dv2 (vec s)), []) := by
  have es : ∀ a b : List Nat, a.all (· < 1114112) = true → b.all (· < 1114112) = true → oEq false (.str a) (.str b) = some (.val (.bl (a == b))) := fun a b ha hb => by
    unfold oEq
    rw [shp_str ha, shp_str hb]
    rfl
  cases s with
  | east =>
    have i := in_names_e
    have j := es sEast sEast (by decide) (by decide)
    simp only [sEast, sNorth] at i j
    simp [φ_slant_by, g_slant_by, phiP, env0, sSeq, sIf, sNx, sRet, sRetN, sSet, sAsg, sPar, sPar3, sItem, sDrop, sFor, sBk, sCt, sNever, gNot, gTb, gAnd, gOr, gCallX, aCons, aNil, aStar, gVar, gC, gAndV, gOrV, gNotV, gBin, gUn, gIfE, gTup, gLst, gSl, gP, gNoP, gM, iAny, iRange, iRange2, iRev, iZip, frz, unb, setR, retR, asB, dat, slD, asg_nm, asg_tp, asgs_nil, asgs_cons, asgR, Rv.res, RF.res, Ev.put, oIs, isNonD, oCmpI, oI, oNeg, oLen, itemsOf, itemsR, revR, zipD, zipR, oTuple, oList, oBool, oIsi, oIsi2, isT, tyD, oEq_int, oEq_cc, oEq_lnil, oEq_drs, mApp, mExt, mPop, dS, sEast, k_EAST, k_NORTH, k_EAST_SLANT, k_NORTH_SLANT, i, j, vec, dv2]
  | north =>
    have i := in_names_n
    have j := es sNorth sEast (by decide) (by decide)
    simp only [sEast, sNorth] at i j
    simp [φ_slant_by, g_slant_by, phiP, env0, sSeq, sIf, sNx, sRet, sRetN, sSet, sAsg, sPar, sPar3, sItem, sDrop, sFor, sBk, sCt, sNever, gNot, gTb, gAnd, gOr, gCallX, aCons, aNil, aStar, gVar, gC, gAndV, gOrV, gNotV, gBin, gUn, gIfE, gTup, gLst, gSl, gP, gNoP, gM, iAny, iRange, iRange2, iRev, iZip, frz, unb, setR, retR, asB, dat, slD, asg_nm, asg_tp, asgs_nil, asgs_cons, asgR, Rv.res, RF.res, Ev.put, oIs, isNonD, oCmpI, oI, oNeg, oLen, itemsOf, itemsR, revR, zipD, zipR, oTuple, oList, oBool, oIsi, oIsi2, isT, tyD, oEq_int, oEq_cc, oEq_lnil, oEq_drs, mApp, mExt, mPop, dS, sNorth, k_EAST, k_NORTH, k_EAST_SLANT, k_NORTH_SLANT, i, j, vec, dv2]
  | word v =>
    have e1 := e_slant_in (h v rfl)
    have i1 := in_names_w v
    simp only [sEast, sNorth] at i1
    simp [φ_slant_by, g_slant_by, phiP, env0, sSeq, sIf, sNx, sRet, sRetN, sSet, sAsg, sPar, sPar3, sItem, sDrop, sFor, sBk, sCt, sNever, gNot, gTb, gAnd, gOr, gCallX, aCons, aNil, aStar, gVar, gC, gAndV, gOrV, gNotV, gBin, gUn, gIfE, gTup, gLst, gSl, gP, gNoP, gM, iAny, iRange, iRange2, iRev, iZip, frz, unb, setR, retR, asB, dat, slD, asg_nm, asg_tp, asgs_nil, asgs_cons, asgR, Rv.res, RF.res, Ev.put, oIs, isNonD, oCmpI, oI, oNeg, oLen, itemsOf, itemsR, revR, zipD, zipR, oTuple, oList, oBool, oIsi, oIsi2, isT, tyD, oEq_int, oEq_cc, oEq_lnil, oEq_drs, mApp, mExt, mPop, dS, vec, k_EAST, k_NORTH, i1, e1]
end W
end

section
set_option Elab.async false
set_option linter.all false
set_option maxRecDepth 100000
set_option maxHeartbeats 4000000
namespace W
open DL Lim
theorem v_binT {ρ : Ev} {ga gb : GE} {d1 d2 : D} {l : List D} {op : D → D → Option Rv} (h1 : Ev1 ga ρ d1) (h2 : Ev1 gb ρ d2) (h : op d1 d2 = some (.newT l)) : Ev1 (gBin op ga gb) ρ (.tup l) := by
  unfold Ev1 at *
  simp only [gBin, h1, h2, Option.bind_some, dat, h, Option.map_some, Rv.res]
def EvP (g : GP) (ρ : Ev) (o : Option Int) : Prop := g ρ = some (o, ρ)
theorem p_no {ρ : Ev} : EvP gNoP ρ none := rfl
theorem p_i {ρ : Ev} {g : GE} {i : Int} (h : Ev1 g ρ (.int i)) : EvP (gP g) ρ (some i) := by
  unfold Ev1 EvP at *
  simp only [gP, h, Option.bind_some]
theorem v_slT {ρ : Ev} {ga : GE} {gl gu : GP} {l : List D} {lo hi : Option Int} (h : Ev1 ga ρ (.tup l)) (h1 : EvP gl ρ lo) (h2 : EvP gu ρ hi) : Ev1 (gSl ga gl gu) ρ (.tup (cutD l lo hi)) := by
  unfold Ev1 EvP at *
  simp only [gSl, h, h1, h2, Option.bind_some, dat, oSl, Option.map_some, Rv.res]
theorem i_range2 {ρ : Ev} {ga gb : GE} {i j : Int} (h1 : Ev1 ga ρ (.int i)) (h2 : Ev1 gb ρ (.int j)) (c0 : -1000000 ≤ i) (c1 : i ≤ j) (c2 : j ≤ 1000000) : iRange2 ga gb ρ = some (rangeR i (j - i).toNat, ρ) := by
  unfold Ev1 at *
  simp only [iRange2, h1, h2, Option.bind_some]
  rw [if_pos (by omega)]
/-! ## least_block -/
theorem oMul_tup {P : Rs} {k : Nat} (h1 : 1 ≤ k) (h2 : k ≤ 1000) (h3 : P.length ≤ 1000) : oMul (.tup (P.map dr)) (.int k) = some (.newT ((rp P k).map dr)) := by
  have e : (List.replicate k (P.map dr)).flatten = (rp P k).map dr := by
    simp only [rp, List.map_flatten, List.map_replicate]
  have c : 0 ≤ (k : Int) ∧ (k : Int) ≤ 1000 ∧ (P.map dr).length ≤ 1000 ∧ (P.map dr = [] → True) ∧ 1 ≤ (k : Int) := ⟨by omega, by omega, by simpa using h3, fun _ => trivial, by omega⟩
  simp only [oMul]
  rw [if_pos c, Int.toNat_natCast, e]
theorem b_block {P : Rs} {m : Nat} (m0 : 0 < m) (hm : m ≤ P.length) (hl : P.length ≤ 1000) :
    (Good P m → L_least_block_0 ⟨false, [.fz (.tup (P.map dr)), .fz (.int m)]⟩ = some (.rt (.val (.tup ((P.take m).map dr))) ⟨false, [.fz (.tup (P.map dr)), .fz (.int m)]⟩)) ∧
    (¬ Good P m → L_least_block_0 ⟨false, [.fz (.tup (P.map dr)), .fz (.int m)]⟩ = some (.nx ⟨false, [.fz (.tup (P.map dr)), .fz (.int m)]⟩)) := by
  have l1 : ¬ m = 0 := by omega
  have lg : (m : Int).natAbs.log2 < 9000 := by
    have : Sm 11 (m : Int) := by unfold Sm; rw [Int.natAbs_natCast]; exact Nat.lt_of_le_of_lt (Nat.le_trans hm hl) (by decide)
    exact this.log
  rw [Int.natAbs_natCast] at lg
  have hd : ((P.length : Int)).fdiv (m : Int) = ((P.length / m : Nat) : Int) := by
    rw [Int.fdiv_eq_ediv_of_nonneg _ (by omega)]; simp
  have hmod : ((P.length : Int)) % (m : Int) = ((P.length % m : Nat) : Int) := by simp
  have kk : 1 ≤ P.length / m := (Nat.le_div_iff_mul_le m0).mpr (by omega)
  have kk2 : P.length / m ≤ 1000 := Nat.le_trans (Nat.div_le_self _ _) hl
  have hmul := oMul_tup (P := P.take m) kk kk2 (by rw [List.length_take]; omega)
  have hcut : cutD (P.map dr) none (some (m : Int)) = (P.take m).map dr := by rw [cut_take, List.map_take]
  have hf : fFdiv (P.length : Int) (m : Int) = some ((P.length / m : Nat) : Int) := by
    unfold fFdiv
    rw [if_pos ⟨by omega, by rw [Int.natAbs_natCast]; exact lg⟩, hd]
  have hM : fMod (P.length : Int) (m : Int) = some ((P.length % m : Nat) : Int) := by
    unfold fMod
    rw [if_pos (by omega), hmod]
  generalize hE : (⟨false, [.fz (.tup (P.map dr)), .fz (.int m)]⟩ : Ev) = E
  have v0 : Ev1 (gVar 0) E (.tup (P.map dr)) := by subst hE; exact v_var rfl
  have v1 : EvI (gVar 1) E m := by subst hE; exact v_var rfl
  have vl : EvI (gUn oLen (gVar 0)) E P.length := v_un v0 (by simp [oLen])
  have vt : Ev1 (gSl (gVar 0) gNoP (gP (gVar 1))) E (.tup ((P.take m).map dr)) := by
    rw [← hcut]
    exact v_slT v0 p_no (p_i v1)
  have vb : Ev1 (gBin oMul (gSl (gVar 0) gNoP (gP (gVar 1))) (gBin (oI fFdiv) (gUn oLen (gVar 0)) (gVar 1))) E (.tup ((rp (P.take m) (P.length / m)).map dr)) := by
    have vq : EvI (gBin (oI fFdiv) (gUn oLen (gVar 0)) (gVar 1)) E (P.length / m : Nat) := v_bin vl v1 (by simp only [oI, hf, Option.map_some])
    exact v_binT vt vq hmul
  have t1 : EvT (gTb (gBin (oEq false) (gBin (oI fMod) (gUn oLen (gVar 0)) (gVar 1)) (gC (.int 0)))) E (decide (m ∣ P.length)) := by
    have := t_b (v_eqI false (v_bin (op := oI fMod) vl v1 (d := .int (P.length % m : Nat)) (by simp only [oI, hM, Option.map_some])) (v_c (ρ := E) (d := .int 0)))
    have e : (((P.length % m : Nat) : Int) == 0) = decide (m ∣ P.length) := by
      by_cases z : m ∣ P.length
      · rw [Nat.mod_eq_zero_of_dvd z, decide_eq_true z]
        rfl
      · have h0 : P.length % m ≠ 0 := fun q => z (Nat.dvd_of_mod_eq_zero q)
        rw [decide_eq_false z]
        exact beq_eq_false_iff_ne.mpr (fun q => h0 (Int.ofNat.inj q))
    simp only [Bool.false_eq_true, if_false, e] at this
    exact this
  have t2 : EvT (gTb (gBin (oEq false) (gVar 0) (gBin oMul (gSl (gVar 0) gNoP (gP (gVar 1))) (gBin (oI fFdiv) (gUn oLen (gVar 0)) (gVar 1))))) E (decide (P = rp (P.take m) (P.length / m))) := t_b (v_bin v0 vb (by rw [oEq_drs]; rfl))
  have tt := t_and t1 (fun _ => t2)
  constructor
  · intro hg
    have : (decide (m ∣ P.length) && decide (P = rp (P.take m) (P.length / m))) = true := by
      rw [decide_eq_true hg.1, decide_eq_true hg.2]; rfl
    rw [this] at tt
    exact if_t tt (ret_fz vt)
  · intro hg
    have : (decide (m ∣ P.length) && decide (P = rp (P.take m) (P.length / m))) = false := by
      by_cases z : m ∣ P.length
      · by_cases z2 : P = rp (P.take m) (P.length / m)
        · exact absurd ⟨z, z2⟩ hg
        · rw [decide_eq_false z2, Bool.and_false]
      · rw [decide_eq_false z]; rfl
    rw [this] at tt
    exact if_f tt rfl
theorem l_block {P : Rs} (hl : P.length ≤ 1000) : ∀ (n s : Nat) (t : Sl), 0 < s → s + n = P.length + 1 → 0 < n → (∀ k, 0 < k → k < s → ¬ Good P k) →
    ∃ (m : Nat) (E : Ev), 0 < m ∧ m ≤ P.length ∧ Good P m ∧ (∀ k, 0 < k → k < m → ¬ Good P k) ∧ loopG (.nm 1) L_least_block_0 ((List.range' s n).map fun (k : Nat) => Rv.val (.int k)) ⟨false, [.fz (.tup (P.map dr)), t]⟩ = some (.rt (.val (.tup ((P.take m).map dr))) E)
  | 0, s, t, _, _, h, _ => by omega
  | n + 1, s, t, s0, hs, _, hk => by
    have e : asgR (.nm 1) (Rv.val (.int s)) ⟨false, [.fz (.tup (P.map dr)), t]⟩ = some ⟨false, [.fz (.tup (P.map dr)), .fz (.int s)]⟩ := rfl
    obtain ⟨b1, b2⟩ := b_block (P := P) (m := s) s0 (by omega) hl
    rw [List.range'_succ, List.map_cons]
    by_cases g : Good P s
    · refine ⟨s, (⟨false, [.fz (.tup (P.map dr)), .fz (.int s)]⟩ : Ev), s0, by omega, g, hk, ?_⟩
      simp only [loopG, e, Option.bind_some, b1 g]
    · have n0 : 0 < n := by
        rcases Nat.eq_zero_or_pos n with z | z
        · exfalso
          have : s = P.length := by omega
          subst this
          apply g
          refine ⟨Nat.dvd_refl _, ?_⟩
          rw [List.take_length, Nat.div_self s0]
          simp [rp]
        · exact z
      obtain ⟨m, E, h1, h2, h3, h4, h5⟩ := l_block hl n (s + 1) (.fz (.int s)) (by omega) (by omega) n0 (fun k k0 k1 => by
        by_cases z : k = s
        · subst z; exact g
        · exact hk k k0 (by omega))
      refine ⟨m, E, h1, h2, h3, h4, ?_⟩
      simp only [loopG, e, Option.bind_some, b2 g, h5]
theorem e_least_block {p : Wd} (hp : p ≠ []) (hd : p.head? ≠ p.getLast?) (hl : p.length ≤ 1000) : ∃ u : Wd, φ_least_block [dW p] = some (.val (dW u), []) ∧ u ≠ [] ∧ Prim u ∧ (∃ k, p = pw u (k + 1)) ∧ u.head? ≠ u.getLast? := by
  have rl := runs_len_le p
  have rne : 0 < (runs p).length := by
    rcases Nat.eq_zero_or_pos (runs p).length with z | z
    · exfalso; apply hp; rw [← ex_runs p, List.length_eq_zero_iff.mp z]; rfl
    · exact z
  obtain ⟨m, E, h1, h2, h3, h4, h5⟩ := l_block (P := runs p) (by omega) (runs p).length 1 .un (by decide) (by omega) rne (fun k k0 k1 => by omega)
  obtain ⟨u, u1, u2, u3, u4, u5⟩ := block_ok hp hd h1 h3 h4
  refine ⟨u, ?_, u2, u3, u4, u5⟩
  have er : rangeR 1 (runs p).length = (List.range' 1 (runs p).length).map fun (k : Nat) => Rv.val (.int k) := by
    unfold rangeR
    rw [List.range'_eq_map_range, List.map_map]
    apply List.map_congr_left
    intro k _
    simp
  refine phi_rt (ρ := E) ?_ rfl
  show g_least_block ⟨false, [.fz (dW p), .un]⟩ = _
  unfold g_least_block
  have vl : EvI (gUn oLen (gVar 0)) ⟨false, [.fz (dW p), .un]⟩ (runs p).length := v_un (v_var rfl) (by simp only [oLen, dW, List.length_map])
  have hi := i_range2 (v_c (ρ := ⟨false, [.fz (dW p), .un]⟩) (d := .int 1)) (v_add vl v_c (j := 1)) (by omega) (by omega) (by omega)
  have e0 : ((runs p).length + 1 - 1 : Int).toNat = (runs p).length := by omega
  rw [e0] at hi
  refine seq_rt ?_
  show (iRange2 _ _ _).bind _ = _
  rw [hi, er]
  simp only [Option.bind_some, dW] at h5 ⊢
  rw [h5, u1]
end W
end

section
set_option Elab.async false
set_option linter.all false
set_option maxRecDepth 100000
set_option maxHeartbeats 4000000
namespace W
open DL Lim
/-! ## drawn_in -/
def sD (H P : D) (l b : Rs) (s4 s5 s6 s7 : Sl) : Ev := ⟨false, [.fz H, .fz P, .ow (l.map dr), .ow (b.map dr), s4, s5, s6, s7]⟩
theorem c_drawn {H P : D} {l b l0 b0 : Rs} {x y : Bool} {m k : Nat} {s4 s5 s6 s7 : Sl} (el : l = l0 ++ [(x, m)]) (eb : b = b0 ++ [(y, k)]) : C_drawn_in_0 (sD H P l b s4 s5 s6 s7) = some (x == y, sD H P l b s4 s5 s6 s7) := by
  have a1 := (last_facts el).1
  have a2 := (last_facts el).2.1
  have a3 := (last_facts eb).2.1
  simp [C_drawn_in_0, sD, phiP, env0, sSeq, sIf, sNx, sRet, sRetN, sSet, sAsg, sPar, sPar3, sItem, sDrop, sFor, sBk, sCt, sNever, gNot, gTb, gAnd, gOr, gCallX, aCons, aNil, aStar, gVar, gC, gAndV, gOrV, gNotV, gBin, gUn, gIfE, gTup, gLst, gSl, gP, gNoP, gM, iAny, iRange, iRange2, iRev, iZip, frz, unb, setR, retR, asB, dat, slD, asg_nm, asg_tp, asgs_nil, asgs_cons, asgR, Rv.res, RF.res, Ev.put, oIs, isNonD, oCmpI, oI, oNeg, oLen, itemsOf, itemsR, revR, zipD, zipR, oTuple, oList, oBool, oIsi, oIsi2, isT, tyD, oEq_int, oEq_cc, oEq_lnil, oEq_drs, mApp, mExt, mPop, a1, a2, a3, oEq_cc, oIx, atI_0]
theorem c_drawn0 {H P : D} {b : Rs} {s4 s5 s6 s7 : Sl} : C_drawn_in_0 (sD H P [] b s4 s5 s6 s7) = some (false, sD H P [] b s4 s5 s6 s7) := by
  simp [C_drawn_in_0, sD, phiP, env0, sSeq, sIf, sNx, sRet, sRetN, sSet, sAsg, sPar, sPar3, sItem, sDrop, sFor, sBk, sCt, sNever, gNot, gTb, gAnd, gOr, gCallX, aCons, aNil, aStar, gVar, gC, gAndV, gOrV, gNotV, gBin, gUn, gIfE, gTup, gLst, gSl, gP, gNoP, gM, iAny, iRange, iRange2, iRev, iZip, frz, unb, setR, retR, asB, dat, slD, asg_nm, asg_tp, asgs_nil, asgs_cons, asgR, Rv.res, RF.res, Ev.put, oIs, isNonD, oCmpI, oI, oNeg, oLen, itemsOf, itemsR, revR, zipD, zipR, oTuple, oList, oBool, oIsi, oIsi2, isT, tyD, oEq_int, oEq_cc, oEq_lnil, oEq_drs, mApp, mExt, mPop, oEq_l0]
theorem mpop {l l0 : Rs} {r : Bool × Nat} (e : l = l0 ++ [r]) : mPop (l.map dr) [] = some (dr r, l0.map dr) := by
  subst e
  simp [mPop]
theorem b_drawn {H P : D} {l b l0 b0 nb : Rs} {x : Bool} {m k : Nat} {s4 s5 s6 s7 : Sl} (el : l = l0 ++ [(x, m)]) (eb : b = b0 ++ [(x, k)])
    (hn : runs (ex ((x, min m k) :: (b0 ++ [(x, k - min m k)]))) = nb) (hl : b.length ≤ 1000) (hl0 : l.length ≤ 1000) :
    ∃ S2 : Sl, L_drawn_in_0 (sD H P l b s4 s5 s6 s7) = some (if m = k then .nx (sD H P l0 nb (.fz (.str [cc x])) (.fz (.int m)) (.fz (.int k)) (.fz (.int (min m k : Nat)))) else .bk ⟨false, [.fz H, .fz P, S2, .ow (nb.map dr), .fz (.str [cc x]), .fz (.int m), .fz (.int k), .fz (.int (min m k : Nat))]⟩) ∧
      (S2 = .ow ((if k < m then l0 ++ [(x, m - k)] else l0).map dr) ∨ S2 = .fz (.lst ((if k < m then l0 ++ [(x, m - k)] else l0).map dr))) := by
  have p1 := mpop el
  have p2 := mpop eb
  have hb0 : b0.length ≤ 1000 := by rw [eb] at hl; simp at hl; omega
  have hl1 : l0.length + 1 ≤ 1000 := by rw [el] at hl0; simpa using hl0
  have hr := e_runs_of (rs := (x, min m k) :: (b0 ++ [(x, k - min m k)])) (by simp; omega)
  rw [hn] at hr
  have nbl : nb.length ≤ 1002 + 16000000 := by
    have : ∀ (rs f : Rs), (rs.foldl add f).length ≤ f.length + rs.length := by
      intro rs
      induction rs with
      | nil => intro f; simp
      | cons r rs ih =>
        intro f
        have h1 := add_len f r
        have h2 := ih (add f r)
        simp only [List.foldl_cons, List.length_cons]
        omega
    have h1 := this ((x, min m k) :: (b0 ++ [(x, k - min m k)])) []
    rw [adds_nil, hn] at h1
    simp at h1
    omega
  have hmin : (if (k : Int) < (m : Int) then (k : Int) else (m : Int)) = ((min m k : Nat) : Int) := by
    split <;> omega
  have hsub : (k : Int) - ((min m k : Nat) : Int) = ((k - min m k : Nat) : Int) := by omega
  have e1 : ∀ out, (∃ S2, (sSeq (sSet 6 (gBin oIx (gM mPop (gVar 3) aNil) (gC (.int 1)))) out) ⟨false, [.fz H, .fz P, .ow (l0.map dr), .ow (b.map dr), .fz (.str [cc x]), .fz (.int m), s6, s7]⟩ = S2) := fun out => ⟨_, rfl⟩
  have key : ∀ S2 : Sl, (sIf (gTb (gBin (oEq true) (gVar 5) (gVar 6)))
      (sSeq (sSet 2 (gIfE (gTb (gBin (oCmpI fun i j => decide (j < i)) (gVar 5) (gVar 7))) (gLst (aStar (gVar 2) (aCons (gTup (aCons (gVar 4) (aCons (gBin (oI fun i j => some (i - j)) (gVar 5) (gVar 7)) aNil))) aNil))) (gVar 2)))
      sBk)
      sNx) (sD H P l0 nb (.fz (.str [cc x])) (.fz (.int m)) (.fz (.int k)) (.fz (.int (min m k : Nat)))) = some (if m = k then .nx (sD H P l0 nb (.fz (.str [cc x])) (.fz (.int m)) (.fz (.int k)) (.fz (.int (min m k : Nat)))) else .bk ⟨false, [.fz H, .fz P, S2, .ow (nb.map dr), .fz (.str [cc x]), .fz (.int m), .fz (.int k), .fz (.int (min m k : Nat))]⟩) →
      L_drawn_in_0 (sD H P l b s4 s5 s6 s7) = some (if m = k then .nx (sD H P l0 nb (.fz (.str [cc x])) (.fz (.int m)) (.fz (.int k)) (.fz (.int (min m k : Nat)))) else .bk ⟨false, [.fz H, .fz P, S2, .ow (nb.map dr), .fz (.str [cc x]), .fz (.int m), .fz (.int k), .fz (.int (min m k : Nat))]⟩) := by
    intro S2 h
    unfold L_drawn_in_0
    refine seq_nx (ρ' := ⟨false, [.fz H, .fz P, .ow (l0.map dr), .ow (b.map dr), .fz (.str [cc x]), .fz (.int m), s6, s7]⟩) (by simp [sAsg, gM, gVar, aNil, sD, p1, frz, dr, asg_tp, asgs_cons, asg_nm, asgs_nil, Ev.put]) ?_
    refine seq_nx (ρ' := ⟨false, [.fz H, .fz P, .ow (l0.map dr), .ow (b0.map dr), .fz (.str [cc x]), .fz (.int m), .fz (.int k), s7]⟩) (by simp [sSet, gBin, gM, gVar, aNil, p2, gC, dat, oIx, dr, atI_1, Rv.res, setR, Ev.put]) ?_
    refine seq_nx (ρ' := ⟨false, [.fz H, .fz P, .ow (l0.map dr), .ow (b0.map dr), .fz (.str [cc x]), .fz (.int m), .fz (.int k), .fz (.int (min m k : Nat))]⟩) (set_fz (v_bin (d1 := .int m) (d2 := .int k) (v_var rfl) (v_var rfl) (by simp only [oMin2, hmin])) rfl) ?_
    refine seq_nx (ρ' := sD H P l0 nb (.fz (.str [cc x])) (.fz (.int m)) (.fz (.int k)) (.fz (.int (min m k : Nat)))) ?_ h
    have a1 : gLst (aCons (gTup (aCons (gVar 4) (aCons (gVar 7) aNil))) (aStar (gVar 3) (aCons (gTup (aCons (gVar 4) (aCons (gBin (oI fun i j => some (i - j)) (gVar 6) (gVar 7)) aNil))) aNil))) ⟨false, [.fz H, .fz P, .ow (l0.map dr), .ow (b0.map dr), .fz (.str [cc x]), .fz (.int m), .fz (.int k), .fz (.int (min m k : Nat))]⟩ = some (.nw (((x, min m k) :: (b0 ++ [(x, k - min m k)])).map dr), ⟨false, [.fz H, .fz P, .ow (l0.map dr), .ow (b0.map dr), .fz (.str [cc x]), .fz (.int m), .fz (.int k), .fz (.int (min m k : Nat))]⟩) := by
      simp [gLst, aCons, aNil, aStar, gTup, gVar, frz, dat, slD, itemsOf, gBin, oI, Rv.res, dr]
      refine ⟨by omega, by omega⟩
    have a2 : gCallX φ_runs_of [] (aCons (gLst (aCons (gTup (aCons (gVar 4) (aCons (gVar 7) aNil))) (aStar (gVar 3) (aCons (gTup (aCons (gVar 4) (aCons (gBin (oI fun i j => some (i - j)) (gVar 6) (gVar 7)) aNil))) aNil)))) aNil) ⟨false, [.fz H, .fz P, .ow (l0.map dr), .ow (b0.map dr), .fz (.str [cc x]), .fz (.int m), .fz (.int k), .fz (.int (min m k : Nat))]⟩ = some (.fz (.tup (nb.map dr)), ⟨false, [.fz H, .fz P, .ow (l0.map dr), .ow (b0.map dr), .fz (.str [cc x]), .fz (.int m), .fz (.int k), .fz (.int (min m k : Nat))]⟩) := by
      simp only [gCallX, aCons, a1, Option.bind_some, frz, aNil, Option.map_some, List.nil_append, List.append_nil, hr, RF.res]
    have a3 : (nb.map dr).length ≤ 16777216 := by rw [List.length_map]; omega
    refine set_nw (ρ' := ⟨false, [.fz H, .fz P, .ow (l0.map dr), .ow (b0.map dr), .fz (.str [cc x]), .fz (.int m), .fz (.int k), .fz (.int (min m k : Nat))]⟩) (d := nb.map dr) ?_ rfl
    simp only [gLst, aStar, a2, Option.bind_some, dat, itemsOf, aNil, Option.map_some, List.append_nil, a3, if_true]
  by_cases hmk : m = k
  · subst hmk
    refine ⟨.ow ((if m < m then l0 ++ [(x, m - m)] else l0).map dr), key _ ?_, .inl rfl⟩
    have ht := t_b (v_eqI true (ga := gVar 5) (gb := gVar 6) (ρ := sD H P l0 nb (.fz (.str [cc x])) (.fz (.int m)) (.fz (.int m)) (.fz (.int (min m m : Nat)))) (i := m) (j := m) (v_var rfl) (v_var rfl))
    simp only [if_true, beq_self_eq_true, Bool.not_true] at ht
    rw [if_pos rfl]
    exact if_f ht rfl
  · have ht := t_b (v_eqI true (ga := gVar 5) (gb := gVar 6) (ρ := sD H P l0 nb (.fz (.str [cc x])) (.fz (.int m)) (.fz (.int k)) (.fz (.int (min m k : Nat)))) (i := m) (j := k) (v_var rfl) (v_var rfl))
    have hb : ((m : Int) == (k : Int)) = false := beq_eq_false_iff_ne.mpr (fun q => hmk (Int.ofNat.inj q))
    simp only [if_true, hb, Bool.not_false] at ht
    have hc := t_b (v_cmp (p := fun i j => decide (j < i)) (ga := gVar 5) (gb := gVar 7) (ρ := sD H P l0 nb (.fz (.str [cc x])) (.fz (.int m)) (.fz (.int k)) (.fz (.int (min m k : Nat)))) (i := m) (j := (min m k : Nat)) (v_var rfl) (v_var rfl))
    by_cases hkm : k < m
    · refine ⟨.ow ((if k < m then l0 ++ [(x, m - k)] else l0).map dr), key _ ?_, .inl rfl⟩
      have hd : decide (((min m k : Nat) : Int) < (m : Int)) = true := by simp; omega
      simp only [hd] at hc
      rw [if_neg hmk, if_pos hkm]
      refine if_t ht (seq_nx (set_nw (ρ' := sD H P l0 nb (.fz (.str [cc x])) (.fz (.int m)) (.fz (.int k)) (.fz (.int (min m k : Nat)))) (d := (l0 ++ [(x, m - k)]).map dr) ?_ rfl) rfl)
      have a1 : gLst (aStar (gVar 2) (aCons (gTup (aCons (gVar 4) (aCons (gBin (oI fun i j => some (i - j)) (gVar 5) (gVar 7)) aNil))) aNil)) (sD H P l0 nb (.fz (.str [cc x])) (.fz (.int m)) (.fz (.int k)) (.fz (.int (min m k : Nat)))) = some (.nw ((l0 ++ [(x, m - k)]).map dr), sD H P l0 nb (.fz (.str [cc x])) (.fz (.int m)) (.fz (.int k)) (.fz (.int (min m k : Nat)))) := by
        simp [sD, gLst, aCons, aNil, aStar, gTup, gVar, frz, dat, slD, itemsOf, gBin, oI, Rv.res, dr]
        refine ⟨by omega, by omega⟩
      unfold EvT at hc
      simp only [gIfE, hc, Option.bind_some, if_true, a1]
    · refine ⟨.fz (.lst ((if k < m then l0 ++ [(x, m - k)] else l0).map dr)), key _ ?_, .inr rfl⟩
      have hd : decide (((min m k : Nat) : Int) < (m : Int)) = false := by simp; omega
      simp only [hd] at hc
      rw [if_neg hmk, if_neg hkm]
      refine if_t ht (seq_nx (ρ' := ⟨false, [.fz H, .fz P, .fz (.lst (l0.map dr)), .ow (nb.map dr), .fz (.str [cc x]), .fz (.int m), .fz (.int k), .fz (.int (min m k : Nat))]⟩) ?_ rfl)
      unfold EvT at hc
      simp only [sSet, gIfE, hc, Option.bind_some, Bool.false_eq_true, if_false]
      rfl
end W
end

section
set_option Elab.async false
set_option linter.all false
set_option maxRecDepth 100000
set_option maxHeartbeats 4000000
namespace W
open DL Lim
structure DrawnOk (l b l' b' : Rs) : Prop where
  canl : Can l'
  canb : Can b'
  om : om (ex l') (ex b') = om (ex l) (ex b)
  len : (ex b').length = (ex b).length
  le : (ex l').length ≤ (ex l).length
  last : (ex l').getLast? ≠ (ex b').getLast?
theorem ex_snoc (a : Rs) (x : Bool) (n : Nat) : ex (a ++ [(x, n)]) = ex a ++ List.replicate n x := by simp [ex_app, ex]
theorem l_drawn {H P : D} : ∀ (N : Nat) (l b : Rs) (s4 s5 s6 s7 : Sl), l.length < N → Can l → Can b → b ≠ [] → (ex b).head? ≠ (ex b).getLast? → l.length ≤ 1000 → b.length ≤ 1000 →
    ∃ (S2 : Sl) (l' b' : Rs) (t4 t5 t6 t7 : Sl), whileG C_drawn_in_0 L_drawn_in_0 N (sD H P l b s4 s5 s6 s7) = some (.nx ⟨false, [.fz H, .fz P, S2, .ow (b'.map dr), t4, t5, t6, t7]⟩) ∧ (S2 = .ow (l'.map dr) ∨ S2 = .fz (.lst (l'.map dr))) ∧ DrawnOk l b l' b'
  | 0, l, b, _, _, _, _, h, _, _, _, _, _, _ => by omega
  | N + 1, l, b, s4, s5, s6, s7, h, cl, cb, bne, hd, hl, hbl => by
    have eb : ∃ b0 y k, b = b0 ++ [(y, k)] := by
      rcases snoc_cases b with e | ⟨a, r, e⟩
      · exact absurd e bne
      · exact ⟨a, r.1, r.2, e⟩
    obtain ⟨b0, y, k, eb⟩ := eb
    have lastb : (ex b).getLast? = some y := by
      rw [ex_last cb, eb]; simp
    rcases snoc_cases l with e | ⟨l0, ⟨x, m⟩, e⟩
    · subst e
      refine ⟨.ow (([] : Rs).map dr), [], b, s4, s5, s6, s7, ?_, .inl rfl, True.intro, cb, rfl, rfl, Nat.le_refl _, ?_⟩
      · simp only [whileG, c_drawn0, Option.bind_some, Bool.false_eq_true, if_false]
        rfl
      · rw [lastb]; simp [ex]
    · have lastl : (ex l).getLast? = some x := by
        rw [ex_last cl, e]; simp
      have hc := c_drawn (H := H) (P := P) (s4 := s4) (s5 := s5) (s6 := s6) (s7 := s7) e eb
      by_cases xy : x = y
      · subst xy
        have hx : (x == x) = true := by simp
        rw [hx] at hc
        -- the block's head is another letter
        have cb' := cb
        rw [eb] at cb'
        obtain ⟨cb0, k1, adjb⟩ := Can.app.mp cb'
        have cl' := cl
        rw [e] at cl'
        obtain ⟨cl0, m1, adjl⟩ := Can.app.mp cl'
        simp only at k1 m1 adjb adjl
        have headb : (ex b).head? = b.head?.map (·.1) := ex_head cb
        have b0ne : b0 ≠ [] := fun z => by
          rw [headb, lastb, eb, z] at hd
          simp at hd
        obtain ⟨z, b1, ez⟩ : ∃ z b1, b0 = z :: b1 := by
          cases b0 with
          | nil => exact absurd rfl b0ne
          | cons z b1 => exact ⟨z, b1, rfl⟩
        have zx : x ≠ z.1 := fun q => by
          rw [headb, lastb, eb, ez] at hd
          simp [q] at hd
        -- the last run of b0 is another letter too
        have lastb0 : (ex b0).getLast? ≠ some x := by
          rw [ex_last cb0]
          rcases snoc_cases b0 with q | ⟨c, r, q⟩
          · exact absurd q b0ne
          · rw [q]
            have := adjb c r q
            simpa using this
        have canb1 : ∀ d, 1 ≤ d → Can ((x, d) :: b0) := fun d hd1 => by
          rw [ez] at cb0 ⊢
          exact ⟨hd1, zx, cb0⟩
        have lastl0 : (ex l0).getLast? ≠ some x := by
          rw [ex_last cl0]
          rcases snoc_cases l0 with q | ⟨c, r, q⟩
          · rw [q]; simp
          · rw [q]
            have := adjl c r q
            simpa using this
        rcases Nat.lt_or_ge m k with mk | mk
        · -- m < k
          have hmin : min m k = m := by omega
          have cn : Can ((x, m) :: (b0 ++ [(x, k - m)])) := by
            have c1 := canb1 m m1
            have : (x, m) :: (b0 ++ [(x, k - m)]) = ((x, m) :: b0) ++ [(x, k - m)] := rfl
            rw [this]
            refine Can.app.mpr ⟨c1, by simp; omega, fun c s q => ?_⟩
            have q2 : ((x, m) :: b0).getLast? = some s := by rw [q]; simp
            rw [ez] at q2
            rw [List.getLast?_cons_cons, ← ez] at q2
            intro w
            apply lastb0
            rw [ex_last cb0, q2]
            simp [w]
          have hn := runs_ex cn
          rw [← hmin] at hn
          obtain ⟨S2, hbd, hS⟩ := b_drawn (H := H) (P := P) (s4 := s4) (s5 := s5) (s6 := s6) (s7 := s7) e eb hn hbl hl
          rw [if_neg (by omega : ¬ m = k)] at hbd
          rw [if_neg (by omega : ¬ k < m)] at hS
          rw [hmin] at hbd
          refine ⟨S2, l0, (x, m) :: (b0 ++ [(x, k - m)]), .fz (.str [cc x]), .fz (.int m), .fz (.int k), .fz (.int m), ?_, hS, cl0, cn, ?_, ?_, ?_, ?_⟩
          · simp only [whileG, hc, Option.bind_some, if_true, hbd]
            try rfl
          · have r := (rot_many (List.replicate m x) (ex l0) (ex b0 ++ List.replicate (k - m) x)).2
            have a1 : ex l = ex l0 ++ List.replicate m x := by rw [e, ex_snoc]
            have a2 : ex b = (ex b0 ++ List.replicate (k - m) x) ++ List.replicate m x := by
              rw [eb, ex_snoc, List.append_assoc, List.replicate_append_replicate]
              congr 2; omega
            rw [a1, a2, r]
            show om (ex l0) (List.replicate m x ++ ex (b0 ++ [(x, k - m)])) = _
            rw [ex_snoc]
          · rw [eb]; simp [ex, ex_app]; omega
          · rw [e]; simp [ex_app]
          · have : (ex ((x, m) :: (b0 ++ [(x, k - m)]))).getLast? = some x := by
              rw [ex_last cn]
              have q : (x, m) :: (b0 ++ [(x, k - m)]) = ((x, m) :: b0) ++ [(x, k - m)] := rfl
              rw [q, List.getLast?_append]; rfl
            rw [this]
            exact lastl0
        · -- k ≤ m
          have hmin : min m k = k := by omega
          have cn := canb1 k k1
          have hn : runs (ex ((x, min m k) :: (b0 ++ [(x, k - min m k)]))) = (x, k) :: b0 := by
            rw [hmin, Nat.sub_self]
            have : ex ((x, k) :: (b0 ++ [(x, 0)])) = ex ((x, k) :: b0) := by simp [ex, ex_app]
            rw [this]
            exact runs_ex cn
          obtain ⟨S2, hbd, hS⟩ := b_drawn (H := H) (P := P) (s4 := s4) (s5 := s5) (s6 := s6) (s7 := s7) e eb hn hbl hl
          have lastn : (ex ((x, k) :: b0)).getLast? = (ex b0).getLast? := by
            rw [ex_last cn, ex_last cb0, ez]; rfl
          have headn : (ex ((x, k) :: b0)).head? = some x := by rw [ex_head cn]; rfl
          have lenn : (ex ((x, k) :: b0)).length = (ex b).length := by rw [eb]; simp [ex, ex_app]; omega
          rcases Nat.lt_or_ge k m with km | km
          · rw [if_neg (by omega : ¬ m = k)] at hbd
            rw [if_pos km] at hS
            have cl1 : Can (l0 ++ [(x, m - k)]) := Can.app.mpr ⟨cl0, by simp; omega, adjl⟩
            refine ⟨S2, l0 ++ [(x, m - k)], (x, k) :: b0, .fz (.str [cc x]), .fz (.int m), .fz (.int k), .fz (.int (min m k : Nat)), ?_, hS, cl1, cn, ?_, lenn, ?_, ?_⟩
            · simp only [whileG, hc, Option.bind_some, if_true, hbd]
              try rfl
            · have r := (rot_many (List.replicate k x) (ex l0 ++ List.replicate (m - k) x) (ex b0)).2
              have a1 : ex l = (ex l0 ++ List.replicate (m - k) x) ++ List.replicate k x := by
                rw [e, ex_snoc, List.append_assoc, List.replicate_append_replicate]
                congr 2; omega
              have a2 : ex b = ex b0 ++ List.replicate k x := by rw [eb, ex_snoc]
              rw [a1, a2, r, ex_snoc]
              rfl
            · rw [e, ex_snoc, ex_snoc]; simp
            · have : (ex (l0 ++ [(x, m - k)])).getLast? = some x := by rw [ex_last cl1]; simp
              rw [this, lastn]
              exact fun q => lastb0 q.symm
          · have mk' : m = k := by omega
            rw [if_pos mk'] at hbd
            have hl0 : l0.length < N := by rw [e] at h; simp at h; omega
            have hd' : (ex ((x, k) :: b0)).head? ≠ (ex ((x, k) :: b0)).getLast? := by
              rw [headn, lastn]
              exact fun q => lastb0 q.symm
            obtain ⟨S2', l', b', t4, t5, t6, t7, w1, w2, w3⟩ := l_drawn (H := H) (P := P) N l0 ((x, k) :: b0) (.fz (.str [cc x])) (.fz (.int m)) (.fz (.int k)) (.fz (.int (min m k : Nat))) hl0 cl0 cn (by simp) hd' (by rw [e] at hl; simp at hl; omega) (by rw [eb] at hbl; simp at hbl ⊢; omega)
            refine ⟨S2', l', b', t4, t5, t6, t7, ?_, w2, w3.canl, w3.canb, ?_, ?_, ?_, w3.last⟩
            · simp only [whileG, hc, Option.bind_some, if_true, hbd, w1]
            · rw [w3.om]
              have r := (rot_many (List.replicate k x) (ex l0) (ex b0)).2
              have a1 : ex l = ex l0 ++ List.replicate k x := by rw [e, ex_snoc, mk']
              have a2 : ex b = ex b0 ++ List.replicate k x := by rw [eb, ex_snoc]
              rw [a1, a2, r]
              rfl
            · rw [w3.len, lenn]
            · refine Nat.le_trans w3.le ?_
              rw [e, ex_snoc]; simp
      · have hx : (x == y) = false := by simpa using xy
        rw [hx] at hc
        refine ⟨.ow (l.map dr), l, b, s4, s5, s6, s7, ?_, .inl rfl, cl, cb, rfl, rfl, Nat.le_refl _, ?_⟩
        · simp only [whileG, hc, Option.bind_some, Bool.false_eq_true, if_false]
          rfl
        · rw [lastl, lastb]
          simpa using xy
theorem e_drawn_in {h u : Wd} (une : u ≠ []) (hd : u.head? ≠ u.getLast?) (hl : h.length ≤ 1000) (hu : u.length ≤ 1000) :
    ∃ h' u' : Wd, φ_drawn_in [dW h, dW u] = some (.val (.tup [dW h', dW u']), []) ∧ om h' u' = om h u ∧ u'.length = u.length ∧ h'.length ≤ h.length ∧ h'.getLast? ≠ u'.getLast? := by
  have r1 := runs_len_le h
  have r2 := runs_len_le u
  have rne : runs u ≠ [] := fun z => une (by rw [← ex_runs u, z]; rfl)
  have hb : (runs h).length < big := Nat.lt_of_le_of_lt (Nat.le_trans r1 hl) (by decide +kernel)
  obtain ⟨S2, l', b', t4, t5, t6, t7, w1, w2, w3⟩ := l_drawn (H := dW h) (P := dW u) big (runs h) (runs u) .un .un .un .un hb (can_runs h) (can_runs u) rne (by rw [ex_runs]; exact hd) (by omega) (by omega)
  have o := w3.om
  have o2 := w3.len
  have o3 := w3.le
  rw [ex_runs, ex_runs] at o
  rw [ex_runs] at o2 o3
  refine ⟨ex l', ex b', ?_, o, o2, o3, w3.last⟩
  have ew : dW (ex l') = .tup (l'.map dr) := by rw [dW, runs_ex w3.canl]
  have ev : dW (ex b') = .tup (b'.map dr) := by rw [dW, runs_ex w3.canb]
  rw [ew, ev]
  refine phi_rt (ρ := ⟨false, [.fz (dW h), .fz (dW u), S2, .ow (b'.map dr), t4, t5, t6, t7]⟩) ?_ rfl
  show g_drawn_in ⟨false, [.fz (dW h), .fz (dW u), .un, .un, .un, .un, .un, .un]⟩ = _
  unfold g_drawn_in
  refine seq_nx (ρ' := sD (dW h) (dW u) (runs h) (runs u) .un .un .un .un) ?_ (seq_nx w1 ?_)
  · have l1 : (runs h).length ≤ 16777216 := by omega
    have l2 : (runs u).length ≤ 16777216 := by omega
    simp [sPar, gLst, aStar, gVar, aNil, dat, dW, itemsOf, unb, setR, Ev.put, sD, l1, l2]
  · rcases w2 with q | q
    · subst q
      simp [sRet, gTup, aCons, aNil, gUn, gVar, dat, slD, oTuple, Rv.res, frz, retR]
    · subst q
      simp [sRet, gTup, aCons, aNil, gUn, gVar, dat, slD, oTuple, Rv.res, frz, retR]
end W
end

section
set_option Elab.async false
set_option linter.all false
set_option maxRecDepth 100000
set_option maxHeartbeats 4000000
namespace W
open DL Lim
theorem prim_one (x : Bool) : Prim [x] := fun g g0 gd _ => Nat.dvd_one.mp gd
theorem dW_ex {rs : Rs} (c : Can rs) : dW (ex rs) = .tup (rs.map dr) := by rw [dW, runs_ex c]
theorem rep_pw1 (x : Bool) : ∀ n, List.replicate n x = pw [x] n
  | 0 => rfl
  | n + 1 => by rw [List.replicate_succ, rep_pw1 x n]; rfl
/-- what shortened_in hands back -/
structure ShOk (h p h' p' : Wd) : Prop where
  short : Short h' p'
  om : om h' p' = om h p
  pl : p'.length ≤ p.length
  hl : h'.length ≤ h.length + p.length
theorem tail_short {h p : Wd} (pne : p ≠ []) (hd : p.head? ≠ p.getLast?) (hl : h.length ≤ 1000) (pl : p.length ≤ 1000) :
    ∃ u h' p' : Wd, φ_least_block [dW p] = some (.val (dW u), []) ∧ φ_drawn_in [dW h, dW u] = some (.val (.tup [dW h', dW p']), []) ∧ Short h' p' ∧ om h' p' = om h p ∧ p'.length ≤ p.length ∧ h'.length ≤ h.length := by
  obtain ⟨u, e1, une, pu, ⟨k, ek⟩, hu⟩ := e_least_block pne hd pl
  have ul : u.length ≤ p.length := by
    rw [ek, pw_len, Nat.succ_mul]; omega
  obtain ⟨h', p', e2, o, l1, l2, la⟩ := e_drawn_in une hu hl (by omega)
  have p'ne : p' ≠ [] := fun z => une (List.length_eq_zero_iff.mp (by rw [← l1, z]; rfl))
  refine ⟨u, h', p', e1, e2, ⟨p'ne, prim_transfer une o.symm l1.symm pu, la⟩, ?_, by omega, l2⟩
  rw [o, ek, om_pw _ _ une]
theorem sh_single {h : Wd} {x : Bool} {n : Nat} {p : Wd} (hp : runs p = [(x, n)]) : ∃ h' : Wd, φ_shortened_in [dW h, dW p] = some (.val (.tup [dW h', dW [x]]), []) ∧ ShOk h p h' [x] ∧ (runs h').length ≤ (runs h).length := by
  have n1 : 1 ≤ n := by have := (can_runs p).pos (x, n) (by rw [hp]; simp); exact this
  have ep : p = List.replicate n x := by rw [← ex_runs p, hp]; simp [ex]
  have ew : dW p = .tup [dr (x, n)] := by rw [dW, hp]; rfl
  have e1 : dW [x] = .tup [.tup [.str [cc x], .int 1]] := rfl
  have o1 : ∀ k, om k p = om k [x] := fun k => by
    obtain ⟨j, rfl⟩ : ∃ j, n = j + 1 := ⟨n - 1, by omega⟩
    rw [ep, rep_pw1, om_pw _ _ (by simp)]
  have pl : ([x] : Wd).length ≤ p.length := by rw [ep]; simpa using n1
  have t1 : ∀ ρ : Ev, Ev1 (gVar 1) ρ (.tup [dr (x, n)]) → EvT (gTb (gBin (oEq false) (gUn oLen (gVar 1)) (gC (.int 1)))) ρ true := fun ρ hv => t_b (v_eqI false (i := 1) (j := 1) (v_un hv rfl) v_c)
  have red : ∀ (d : D) (ρ : Ev), sRet (gTup (aCons (gIfE (gAnd (gTb (gBin (oEq true) (gVar 0) (gTup aNil))) (gTb (gBin (oEq false) (gBin oIx (gBin oIx (gVar 0) (gUn oNeg (gC (.int 1)))) (gC (.int 0))) (gVar 2)))) (gSl (gVar 0) gNoP (gP (gUn oNeg (gC (.int 1))))) (gVar 0)) (aCons (gTup (aCons (gTup (aCons (gVar 2) (aCons (gC (.int 1)) aNil))) aNil)) aNil))) ⟨false, [.fz (dW h), .fz (.tup [dr (x, n)]), .fz (.str [cc x]), .un, .un, .un, .un]⟩ = some (.rt (.val d) ρ) → φ_shortened_in [dW h, dW p] = some (.val d, []) := by
    intro d ρ hr
    rw [ew]
    refine phi_rt (ρ := ρ) ?_ rfl
    show g_shortened_in ⟨false, [.fz (dW h), .fz (.tup [dr (x, n)]), .un, .un, .un, .un, .un]⟩ = _
    unfold g_shortened_in
    refine seq_rt (if_t (t1 _ (v_var rfl)) (seq_nx (set_fz (v_ix (v_ix (v_var rfl) v_c (atI_0 _ _)) v_c (atI_0 _ _)) rfl) hr))
  have neg1 : ∀ ρ : Ev, EvI (gUn oNeg (gC (.int 1))) ρ (-1) := fun ρ => v_un v_c rfl
  have tl : Ev1 (gTup (aCons (gTup (aCons (gVar 2) (aCons (gC (.int 1)) aNil))) aNil)) ⟨false, [.fz (dW h), .fz (.tup [dr (x, n)]), .fz (.str [cc x]), .un, .un, .un, .un]⟩ (dW [x]) := by
    rw [e1]
    exact v_tup (a_cons (v_tup (a_cons (v_var rfl) (a_cons v_c a_nil)) (by simp)) a_nil) (by simp)
  have tn : ∀ rs : Rs, Ev1 (gVar 0) ⟨false, [.fz (dW h), .fz (.tup [dr (x, n)]), .fz (.str [cc x]), .un, .un, .un, .un]⟩ (.tup (rs.map dr)) → EvT (gTb (gBin (oEq true) (gVar 0) (gTup aNil))) ⟨false, [.fz (dW h), .fz (.tup [dr (x, n)]), .fz (.str [cc x]), .un, .un, .un, .un]⟩ (!rs.isEmpty) := fun rs hv => by
    have := v_bin (op := oEq true) hv (v_tup (a_nil) (by simp)) (d := .bl (!rs.isEmpty)) (by
      have := oEq_drs true rs []
      simp only [List.map_nil] at this
      rw [this]
      cases rs <;> simp)
    exact t_b this
  rcases snoc_cases (runs h) with q | ⟨a, ⟨y, m⟩, q⟩
  · -- no head
    have hn : h = [] := by rw [← ex_runs h, q]; rfl
    refine ⟨h, red _ _ (ret_fz (v_tup (a_cons (v_ifF ?_ (v_var rfl)) (a_cons tl a_nil)) (by simp))), ⟨⟨by simp, prim_one x, by rw [hn]; simp⟩, (o1 h).symm, pl, by omega⟩, Nat.le_refl _⟩
    have t := t_and (tn [] (by rw [dW, q]; exact v_var rfl)) (b := true) (h := gTb (gBin (oEq false) (gBin oIx (gBin oIx (gVar 0) (gUn oNeg (gC (.int 1)))) (gC (.int 0))) (gVar 2))) (fun z => by simp at z)
    exact t
  · have ca := can_runs h
    rw [q] at ca
    obtain ⟨ca1, m1, adj⟩ := Can.app.mp ca
    have v0 : Ev1 (gVar 0) ⟨false, [.fz (dW h), .fz (.tup [dr (x, n)]), .fz (.str [cc x]), .un, .un, .un, .un]⟩ (.tup ((a ++ [(y, m)]).map dr)) := by rw [dW, q]; exact v_var rfl
    have vl : Ev1 (gBin oIx (gVar 0) (gUn oNeg (gC (.int 1)))) ⟨false, [.fz (dW h), .fz (.tup [dr (x, n)]), .fz (.str [cc x]), .un, .un, .un, .un]⟩ (dr (y, m)) := v_ix v0 (neg1 _) (by rw [List.map_append]; exact atI_m1 _ _)
    have vy : Ev1 (gBin (oEq false) (gBin oIx (gBin oIx (gVar 0) (gUn oNeg (gC (.int 1)))) (gC (.int 0))) (gVar 2)) ⟨false, [.fz (dW h), .fz (.tup [dr (x, n)]), .fz (.str [cc x]), .un, .un, .un, .un]⟩ (.bl (y == x)) := v_bin (v_ix vl v_c (atI_0 _ _)) (v_var rfl) (oEq_cc _ _ _)
    have t := t_and (tn _ v0) (fun _ => t_b vy)
    have ne : (!(a ++ [(y, m)]).isEmpty) = true := by simp
    rw [ne, Bool.true_and] at t
    have eh : h = ex a ++ List.replicate m y := by rw [← ex_runs h, q, ex_snoc]
    by_cases yx : y = x
    · subst yx
      have hx : (y == y) = true := by simp
      rw [hx] at t
      have vs : Ev1 (gSl (gVar 0) gNoP (gP (gUn oNeg (gC (.int 1))))) ⟨false, [.fz (dW h), .fz (.tup [dr (y, n)]), .fz (.str [cc y]), .un, .un, .un, .un]⟩ (dW (ex a)) := by
        have := v_slT v0 p_no (p_i (neg1 _))
        rw [cut_init, List.map_append] at this
        simp only [List.map_cons, List.map_nil, List.dropLast_concat] at this
        rw [dW_ex ca1]
        exact this
      refine ⟨ex a, red _ _ (ret_fz (v_tup (a_cons (v_ifT t vs) (a_cons tl a_nil)) (by simp))), ⟨⟨by simp, prim_one y, ?_⟩, ?_, pl, by rw [eh]; simp; omega⟩, by rw [runs_ex ca1, q]; simp⟩
      · rw [ex_last ca1]
        rcases snoc_cases a with z | ⟨c, s, z⟩
        · rw [z]; simp
        · rw [z]
          have := adj c s z
          simpa using this
      · have r := (rot_many (List.replicate m y) (ex a) []).2
        obtain ⟨j, rfl⟩ : ∃ j, m = j + 1 := ⟨m - 1, by simp only at m1; omega⟩
        rw [List.nil_append, List.append_nil, rep_pw1, om_pw _ _ (by simp), om_pw _ _ (by simp), ← rep_pw1, ← eh, ← o1] at r
        exact r.symm
    · have hx : (y == x) = false := by simpa using yx
      rw [hx] at t
      refine ⟨h, red _ _ (ret_fz (v_tup (a_cons (v_ifF t (v_var rfl)) (a_cons tl a_nil)) (by simp))), ⟨⟨by simp, prim_one x, ?_⟩, (o1 h).symm, pl, by omega⟩, Nat.le_refl _⟩
      have := ex_last (can_runs h)
      rw [ex_runs, q] at this
      rw [this]
      simpa using yx
end W
end

section
set_option Elab.async false
set_option linter.all false
set_option maxRecDepth 100000
set_option maxHeartbeats 4000000
namespace W
open DL Lim
def sH (h p : D) (s2 s3 s4 s5 s6 : Sl) : Ev := ⟨false, [.fz h, .fz p, s2, s3, s4, s5, s6]⟩
/-- the period has two runs or more: r0 .. rl -/
theorem sh_many {h p : Wd} {r0 rl : Bool × Nat} {mid : Rs} (hp : runs p = r0 :: (mid ++ [rl])) (hl : h.length ≤ 500) (pl : p.length ≤ 500) : ∃ h' p' : Wd, φ_shortened_in [dW h, dW p] = some (.val (.tup [dW h', dW p']), []) ∧ ShOk h p h' p' := by
  have cp := can_runs p
  have ew : dW p = .tup ((r0 :: (mid ++ [rl])).map dr) := by rw [dW, hp]
  have pne : p ≠ [] := fun z => by rw [z] at hp; simp [runs] at hp
  have hh : p.head? = some r0.1 := by
    have := ex_head cp
    rw [ex_runs, hp] at this
    exact this
  have hlast : p.getLast? = some rl.1 := by
    have := ex_last cp
    rw [ex_runs, hp] at this
    rw [this, ← List.cons_append, List.getLast?_append]; rfl
  have lp := runs_len_le p
  have lh := runs_len_le h
  have len1 : (((r0 :: (mid ++ [rl])).map dr).length : Int) = (mid.length : Int) + 2 := by simp; omega
  have t0 : EvT (gTb (gBin (oEq false) (gUn oLen (gVar 1)) (gC (.int 1)))) (sH (dW h) (dW p) .un .un .un .un .un) false := by
    have := t_b (v_eqI false (ga := gUn oLen (gVar 1)) (gb := gC (.int 1)) (ρ := sH (dW h) (dW p) .un .un .un .un .un) (i := (mid.length : Int) + 2) (j := 1) (v_un (d1 := dW p) (v_var rfl) (by rw [ew]; simp only [oLen, len1])) v_c)
    have e : ((mid.length : Int) + 2 == 1) = false := by
      apply beq_eq_false_iff_ne.mpr; omega
    simp only [Bool.false_eq_true, if_false, e] at this
    exact this
  have v1 : ∀ s2 s3 s4 s5 s6, Ev1 (gVar 1) (sH (dW h) (dW p) s2 s3 s4 s5 s6) (.tup ((r0 :: (mid ++ [rl])).map dr)) := fun s2 s3 s4 s5 s6 => by rw [← ew]; exact v_var rfl
  have neg1 : ∀ ρ : Ev, EvI (gUn oNeg (gC (.int 1))) ρ (-1) := fun ρ => v_un v_c rfl
  have vf : Ev1 (gBin oIx (gVar 1) (gC (.int 0))) (sH (dW h) (dW p) .un .un .un .un .un) (dr r0) := v_ix (v1 _ _ _ _ _) v_c (atI_0 _ _)
  have vl : Ev1 (gBin oIx (gVar 1) (gUn oNeg (gC (.int 1)))) (sH (dW h) (dW p) .un .un .un .un .un) (dr rl) := v_ix (v1 _ _ _ _ _) (neg1 _) (by
    rw [List.map_cons, List.map_append, ← List.cons_append]; exact atI_m1 _ _)
  have p1 : sPar 3 4 (gBin oIx (gVar 1) (gC (.int 0))) (gBin oIx (gVar 1) (gUn oNeg (gC (.int 1)))) (sH (dW h) (dW p) .un .un .un .un .un) = some (.nx (sH (dW h) (dW p) .un (.fz (dr r0)) (.fz (dr rl)) .un .un)) := by
    unfold Ev1 at vf vl
    simp only [sPar, vf, vl, Option.bind_some, unb, setR]
    rfl
  have t2 : EvT (gTb (gBin (oEq false) (gBin oIx (gVar 3) (gC (.int 0))) (gBin oIx (gVar 4) (gC (.int 0))))) (sH (dW h) (dW p) .un (.fz (dr r0)) (.fz (dr rl)) .un .un) (r0.1 == rl.1) := t_b (v_bin (v_ix (ρ := sH (dW h) (dW p) .un (.fz (dr r0)) (.fz (dr rl)) .un .un) (v_var rfl) v_c (atI_0 _ _)) (v_ix (v_var rfl) v_c (atI_0 _ _)) (oEq_cc _ _ _))
  by_cases eqv : r0.1 = rl.1
  · -- the first and the last run are of one letter
    have hx : (r0.1 == rl.1) = true := by simpa using eqv
    rw [hx] at t2
    obtain ⟨x, i⟩ := r0
    obtain ⟨y, j⟩ := rl
    simp only at eqv hh hlast
    subst eqv
    have cp' := cp
    rw [hp, ← List.cons_append] at cp'
    obtain ⟨c1, j1, adj⟩ := Can.app.mp cp'
    have i1 : 1 ≤ i := c1.pos (x, i) (by simp)
    obtain ⟨z, m1, em⟩ : ∃ z m1, mid = z :: m1 := by
      cases mid with
      | nil => exact absurd rfl (adj [] (x, i) rfl)
      | cons z m1 => exact ⟨z, m1, rfl⟩
    have cm : Can mid := c1.tail
    have zx : z.1 ≠ x := by
      rw [em] at c1
      exact fun q => c1.2.1 q.symm
    have cm2 : Can (mid ++ [(x, j + i)]) := Can.app.mpr ⟨cm, by simp; omega, fun c s q => adj ((x, i) :: c) s (by rw [q]; rfl)⟩
    let p2 : Wd := ex (mid ++ [(x, j + i)])
    have ep : p = List.replicate i x ++ (ex mid ++ List.replicate j x) := by
      rw [← ex_runs p, hp]
      show List.replicate i x ++ ex (mid ++ [(x, j)]) = _
      rw [ex_snoc]
    have ep2 : ex (mid ++ [(x, j + i)]) = (ex mid ++ List.replicate j x) ++ List.replicate i x := by
      rw [ex_snoc, List.append_assoc, List.replicate_append_replicate]
    have r := (rot_many (List.replicate i x) h (ex mid ++ List.replicate j x)).2
    rw [← ep2, ← ep] at r
    have p2ne : ex (mid ++ [(x, j + i)]) ≠ [] := fun q => by
      have := congrArg List.length q
      rw [ep2] at this
      simp at this; omega
    have hd2 : (ex (mid ++ [(x, j + i)])).head? ≠ (ex (mid ++ [(x, j + i)])).getLast? := by
      rw [ex_head cm2, ex_last cm2, em]
      rw [List.getLast?_append]
      simpa using zx
    have pl2 : (ex (mid ++ [(x, j + i)])).length = p.length := by rw [ep2, ep]; simp; omega
    have il : i ≤ p.length := by rw [ep]; simp
    obtain ⟨u, h', p', e1, e2, S, o, l1, l2⟩ := tail_short (h := h ++ List.replicate i x) p2ne hd2 (by simp; omega) (by omega)
    refine ⟨h', p', ?_, ⟨S, by rw [o, r], by omega, by simp at l2; omega⟩⟩
    have hro := e_runs_of (rs := runs h ++ [(x, i)]) (by simp; omega)
    rw [ex_snoc, ex_runs] at hro
    have q1 : sPar 5 6 (gSl (gVar 1) (gP (gC (.int 1))) (gP (gUn oNeg (gC (.int 1))))) (gTup (aCons (gBin oIx (gVar 4) (gC (.int 0))) (aCons (gBin oAdd (gBin oIx (gVar 4) (gC (.int 1))) (gBin oIx (gVar 3) (gC (.int 1)))) aNil))) (sH (dW h) (dW p) .un (.fz (dr (x, i))) (.fz (dr (x, j))) .un .un) = some (.nx (sH (dW h) (dW p) .un (.fz (dr (x, i))) (.fz (dr (x, j))) (.fz (.tup (mid.map dr))) (.fz (dr (x, j + i))))) := by
      have a1 : Ev1 (gSl (gVar 1) (gP (gC (.int 1))) (gP (gUn oNeg (gC (.int 1))))) (sH (dW h) (dW p) .un (.fz (dr (x, i))) (.fz (dr (x, j))) .un .un) (.tup (mid.map dr)) := by
        have := v_slT (v1 .un (.fz (dr (x, i))) (.fz (dr (x, j))) .un .un) (p_i v_c (i := 1)) (p_i (neg1 _))
        rw [cut_mid] at this
        simpa using this
      have a2 : Ev1 (gTup (aCons (gBin oIx (gVar 4) (gC (.int 0))) (aCons (gBin oAdd (gBin oIx (gVar 4) (gC (.int 1))) (gBin oIx (gVar 3) (gC (.int 1)))) aNil))) (sH (dW h) (dW p) .un (.fz (dr (x, i))) (.fz (dr (x, j))) .un .un) (.tup [.str [cc x], .int ((j : Int) + (i : Int))]) :=
        v_tup (a_cons (v_ix (ρ := sH (dW h) (dW p) .un (.fz (dr (x, i))) (.fz (dr (x, j))) .un .un) (l := [.str [cc x], .int j]) (v_var rfl) v_c (atI_0 _ _)) (a_cons (v_add (v_ix (l := [.str [cc x], .int j]) (v_var rfl) v_c (atI_1 _ _ _)) (v_ix (l := [.str [cc x], .int i]) (v_var rfl) v_c (atI_1 _ _ _))) a_nil)) (by simp)
      have a3 : (D.tup [.str [cc x], .int ((j : Int) + (i : Int))]) = dr (x, j + i) := by simp [dr]
      rw [a3] at a2
      unfold Ev1 at a1 a2
      simp only [sPar, a1, a2, Option.bind_some, unb, setR]
      rfl
    have q2 : sPar 0 1 (gCallX φ_runs_of [] (aCons (gLst (aStar (gVar 0) (aCons (gVar 3) aNil))) aNil)) (gTup (aStar (gVar 5) (aCons (gVar 6) aNil))) (sH (dW h) (dW p) .un (.fz (dr (x, i))) (.fz (dr (x, j))) (.fz (.tup (mid.map dr))) (.fz (dr (x, j + i)))) = some (.nx (sH (dW (h ++ List.replicate i x)) (dW (ex (mid ++ [(x, j + i)]))) .un (.fz (dr (x, i))) (.fz (dr (x, j))) (.fz (.tup (mid.map dr))) (.fz (dr (x, j + i))))) := by
      have ml : mid.length + 2 ≤ 500 := by
        have : (runs p).length = mid.length + 2 := by rw [hp]; simp
        omega
      have b1 : gLst (aStar (gVar 0) (aCons (gVar 3) aNil)) (sH (dW h) (dW p) .un (.fz (dr (x, i))) (.fz (dr (x, j))) (.fz (.tup (mid.map dr))) (.fz (dr (x, j + i)))) = some (.nw ((runs h ++ [(x, i)]).map dr), sH (dW h) (dW p) .un (.fz (dr (x, i))) (.fz (dr (x, j))) (.fz (.tup (mid.map dr))) (.fz (dr (x, j + i)))) := by
        have : (runs h).length + 1 ≤ 16777216 := by omega
        simp [gLst, aStar, aCons, aNil, gVar, sH, dW, dat, itemsOf, frz, this]
      have b2 : gTup (aStar (gVar 5) (aCons (gVar 6) aNil)) (sH (dW h) (dW p) .un (.fz (dr (x, i))) (.fz (dr (x, j))) (.fz (.tup (mid.map dr))) (.fz (dr (x, j + i)))) = some (.fz (.tup ((mid ++ [(x, j + i)]).map dr)), sH (dW h) (dW p) .un (.fz (dr (x, i))) (.fz (dr (x, j))) (.fz (.tup (mid.map dr))) (.fz (dr (x, j + i)))) := by
        have : mid.length + 1 ≤ 16777216 := by omega
        simp [gTup, aStar, aCons, aNil, gVar, sH, dat, itemsOf, frz, this]
      rw [dW_ex cm2]
      simp only [sPar, gCallX, aCons, b1, aNil, Option.bind_some, frz, Option.map_some, List.nil_append, List.append_nil, hro, RF.res, unb, b2, setR]
      rfl
    refine phi_rt (ρ := sH (dW (h ++ List.replicate i x)) (dW (ex (mid ++ [(x, j + i)]))) .un (.fz (dr (x, i))) (.fz (dr (x, j))) (.fz (.tup (mid.map dr))) (.fz (dr (x, j + i)))) ?_ rfl
    show g_shortened_in (sH (dW h) (dW p) .un .un .un .un .un) = _
    unfold g_shortened_in
    refine seq_nx (if_f t0 rfl) (seq_nx p1 (seq_nx (if_t t2 (seq_nx q1 q2)) ?_))
    exact ret_fz (v_call0 (a_cons (v_var rfl) (a_cons (v_call0 (a_cons (v_var rfl) a_nil) e1) a_nil)) e2)
  · have hx : (r0.1 == rl.1) = false := by simpa using eqv
    rw [hx] at t2
    have hd2 : p.head? ≠ p.getLast? := by rw [hh, hlast]; simpa using eqv
    obtain ⟨u, h', p', e1, e2, S, o, l1, l2⟩ := tail_short (h := h) pne hd2 (by omega) (by omega)
    refine ⟨h', p', ?_, ⟨S, o, l1, by omega⟩⟩
    refine phi_rt (ρ := sH (dW h) (dW p) .un (.fz (dr r0)) (.fz (dr rl)) .un .un) ?_ rfl
    show g_shortened_in (sH (dW h) (dW p) .un .un .un .un .un) = _
    unfold g_shortened_in
    refine seq_nx (if_f t0 rfl) (seq_nx p1 (seq_nx (if_f t2 rfl) ?_))
    exact ret_fz (v_call0 (a_cons (v_var rfl) (a_cons (v_call0 (a_cons (v_var rfl) a_nil) e1) a_nil)) e2)
theorem e_shortened_in {h p : Wd} (pne : p ≠ []) (hl : h.length ≤ 500) (pl : p.length ≤ 500) : ∃ h' p' : Wd, φ_shortened_in [dW h, dW p] = some (.val (.tup [dW h', dW p']), []) ∧ ShOk h p h' p' := by
  have rne : runs p ≠ [] := fun z => pne (by rw [← ex_runs p, z]; rfl)
  cases q : runs p with
  | nil => exact absurd q rne
  | cons r t =>
    rcases snoc_cases t with e | ⟨mid, rl, e⟩
    · subst e
      obtain ⟨h', e1, e2, _⟩ := sh_single (h := h) q
      exact ⟨h', _, e1, e2⟩
    · subst e
      exact sh_many q hl pl
end W
end

section
set_option Elab.async false
set_option linter.all false
set_option maxRecDepth 100000
set_option maxHeartbeats 4000000
namespace W
open DL Lim
/-! ## rest_behind: one turn -/
def sR (h p v : Wd) (R : Rs) (at_ left : Nat) (x : Bool) (t : D) (todo : Nat) (s9 s10 : Sl) : Ev := ⟨false, [.fz (dW h), .fz (dW p), .fz (dW v), .ow (R.map dr), .fz (.int at_), .fz (.int left), .fz (.str [cc x]), .fz t, .fz (.int todo), s9, s10, .un]⟩
section
variable {h p v : Wd} {R : Rs} {a l : Nat} {x : Bool} {t : D} {todo : Nat} {s9 s10 : Sl}
theorem c_rest : C_rest_behind_0 (sR h p v R a l x t todo s9 s10) = some (decide (0 < todo), sR h p v R a l x t todo s9 s10) := by
  have := t_b (v_cmp (p := fun i j => decide (j < i)) (ga := gVar 8) (gb := gC (.int 0)) (ρ := sR h p v R a l x t todo s9 s10) (i := todo) (j := 0) (v_var rfl) v_c)
  have e : decide ((0 : Int) < (todo : Int)) = decide (0 < todo) := by simp
  rw [e] at this
  exact this
/-- the rest of a turn, the runs long enough -/
theorem b_rest {y : Bool} {n : Nat} (ha : R[a]? = some (y, n)) (hl : l ≤ n) : L_rest_behind_0 (sR h p v R a l x t todo s9 s10) = some (
    if y ≠ x then .rt (.val (.str [cc x])) (sR h p v R a l x t todo (.fz (.str [cc y])) (.fz (.int n)))
    else if (runs p).length = 1 ∧ (runs h).length ≤ a then .nx (sR h p v R a l x t 0 (.fz (.str [cc y])) (.fz (.int n)))
    else if n - l ≤ todo then .nx (sR h p v R (a + 1) 0 x t (todo - (n - l)) (.fz (.str [cc y])) (.fz (.int n)))
    else .nx (sR h p v R a (l + todo) x t 0 (.fz (.str [cc y])) (.fz (.int n)))) := by
  have alt : a < R.length := (List.getElem?_eq_some_iff.mp ha).1
  have hne : ((a : Int) == (R.length : Int)) = false := beq_eq_false_iff_ne.mpr (fun q => by have := Int.ofNat.inj q; omega)
  have hat : L2.atI (R.map dr) (a : Int) = some (dr (y, n)) := by rw [atI_nat, List.getElem?_map, ha]; rfl
  unfold L_rest_behind_0
  have t0 : gTb (gBin (oEq false) (gVar 4) (gUn oLen (gVar 3))) (sR h p v R a l x t todo s9 s10) = some (false, sR h p v R a l x t todo s9 s10) := by
    simp [gTb, gBin, gVar, gUn, sR, dat, slD, oLen, Rv.res, oEq_int, hne, asB]
  refine seq_nx (if_f t0 rfl) ?_
  have a1 : sAsg (.tp [.nm 9, .nm 10]) (gBin oIx (gVar 3) (gVar 4)) (sR h p v R a l x t todo s9 s10) = some (.nx (sR h p v R a l x t todo (.fz (.str [cc y])) (.fz (.int n)))) := by
    simp [sAsg, gBin, gVar, sR, dat, slD, oIx, hat, Rv.res, frz, dr, asg_tp, asgs_cons, asg_nm, asgs_nil, Ev.put]
  refine seq_nx a1 ?_
  have t1 : EvT (gTb (gBin (oEq true) (gVar 9) (gVar 6))) (sR h p v R a l x t todo (.fz (.str [cc y])) (.fz (.int n))) (!(y == x)) := t_b (v_bin (ρ := sR h p v R a l x t todo (.fz (.str [cc y])) (.fz (.int n))) (v_var rfl) (v_var rfl) (oEq_cc true y x))
  by_cases yx : y = x
  · subst yx
    have hx : (!(y == y)) = false := by simp
    rw [hx] at t1
    rw [if_neg (by simp)]
    refine seq_nx (if_f t1 rfl) ?_
    have vp : EvI (gUn oLen (gVar 1)) (sR h p v R a l y t todo (.fz (.str [cc y])) (.fz (.int n))) (runs p).length := v_un (v_var rfl) (by simp only [oLen, dW, List.length_map])
    have vh : EvI (gUn oLen (gVar 0)) (sR h p v R a l y t todo (.fz (.str [cc y])) (.fz (.int n))) (runs h).length := v_un (v_var rfl) (by simp only [oLen, dW, List.length_map])
    have t2 := t_and (t_b (v_eqI false vp (v_c (d := .int 1)))) (fun _ => t_b (v_cmp (p := fun i j => decide (j ≤ i)) (ga := gVar 4) (gb := gUn oLen (gVar 0)) (ρ := sR h p v R a l y t todo (.fz (.str [cc y])) (.fz (.int n))) (i := a) (v_var rfl) vh))
    have e2 : ((if false = true then !(((runs p).length : Int) == 1) else (((runs p).length : Int) == 1)) && decide (((runs h).length : Int) ≤ (a : Int))) = decide ((runs p).length = 1 ∧ (runs h).length ≤ a) := by
      rw [if_neg Bool.false_ne_true]
      have k1 : (((runs p).length : Int) == 1) = decide ((runs p).length = 1) := by
        by_cases z : (runs p).length = 1
        · rw [decide_eq_true z, z]; rfl
        · rw [decide_eq_false z]
          apply beq_eq_false_iff_ne.mpr
          omega
      have k2 : decide (((runs h).length : Int) ≤ (a : Int)) = decide ((runs h).length ≤ a) := by simp
      rw [k1, k2, Bool.decide_and]
    rw [e2] at t2
    by_cases hs : (runs p).length = 1 ∧ (runs h).length ≤ a
    · rw [decide_eq_true hs] at t2
      rw [if_pos hs]
      exact if_t t2 (set_fz v_c rfl)
    · rw [decide_eq_false hs] at t2
      rw [if_neg hs]
      refine if_f t2 ?_
      have vm : EvI (gBin (oI fun i j => some (i - j)) (gVar 10) (gVar 5)) (sR h p v R a l y t todo (.fz (.str [cc y])) (.fz (.int n))) ((n : Int) - (l : Int)) := v_sub (v_var rfl) (v_var rfl)
      have t3 := t_b (v_cmp (p := fun i j => decide (i ≤ j)) vm (v_var (n := 8) (d := .int todo) rfl))
      have e3 : decide ((n : Int) - (l : Int) ≤ (todo : Int)) = decide (n - l ≤ todo) := by
        apply decide_eq_decide.mpr; omega
      rw [e3] at t3
      by_cases hz : n - l ≤ todo
      · rw [decide_eq_true hz] at t3
        rw [if_pos hz]
        refine if_t t3 ?_
        have c1 : (todo : Int) - ((n : Int) - (l : Int)) = ((todo - (n - l) : Nat) : Int) := by omega
        have w1 : EvI (gBin (oI fun i j => some (i - j)) (gVar 8) (gBin (oI fun i j => some (i - j)) (gVar 10) (gVar 5))) (sR h p v R a l y t todo (.fz (.str [cc y])) (.fz (.int n))) ((todo - (n - l) : Nat) : Int) := by
          rw [← c1]; exact v_sub (v_var rfl) vm
        have w2 : EvI (gBin oAdd (gVar 4) (gC (.int 1))) (sR h p v R a l y t todo (.fz (.str [cc y])) (.fz (.int n))) ((a + 1 : Nat) : Int) := v_add (i := a) (j := 1) (v_var rfl) v_c
        have w1' : gBin (oI fun i j => some (i - j)) (gVar 8) (gBin (oI fun i j => some (i - j)) (gVar 10) (gVar 5)) (sR h p v R a l y t todo (.fz (.str [cc y])) (.fz (.int n))) = some (.fz (.int ((todo - (n - l) : Nat) : Int)), sR h p v R a l y t todo (.fz (.str [cc y])) (.fz (.int n))) := w1
        have w2' : gBin oAdd (gVar 4) (gC (.int 1)) (sR h p v R a l y t todo (.fz (.str [cc y])) (.fz (.int n))) = some (.fz (.int ((a + 1 : Nat) : Int)), sR h p v R a l y t todo (.fz (.str [cc y])) (.fz (.int n))) := w2
        simp only [sPar3, w1', w2', Option.bind_some, unb, gC, setR]
        rfl
      · rw [decide_eq_false hz] at t3
        rw [if_neg hz]
        refine if_f t3 ?_
        have w1' : gBin oAdd (gVar 5) (gVar 8) (sR h p v R a l y t todo (.fz (.str [cc y])) (.fz (.int n))) = some (.fz (.int ((l + todo : Nat) : Int)), sR h p v R a l y t todo (.fz (.str [cc y])) (.fz (.int n))) := v_add (i := l) (j := todo) (v_var rfl) (v_var rfl)
        simp only [sPar, w1', Option.bind_some, unb, gC, setR]
        rfl
  · have hx : (!(y == x)) = true := by simpa using yx
    rw [hx] at t1
    rw [if_pos yx]
    exact seq_rt (if_t t1 (ret_fz (v_var rfl)))
/-- at the runs' end the period is put behind -/
theorem b_ext (ha : a = R.length) (hp : 0 < (runs p).length) (hl : R.length + (runs p).length ≤ 16777216) : L_rest_behind_0 (sR h p v R a l x t todo s9 s10) = L_rest_behind_0 (sR h p v (R ++ runs p) a l x t todo s9 s10) := by
  unfold L_rest_behind_0
  have he : ((a : Int) == (R.length : Int)) = true := by rw [ha]; simp
  have hne : ((a : Int) == ((R.length : Int) + ((runs p).length : Int))) = false := beq_eq_false_iff_ne.mpr (by omega)
  have t0 : gTb (gBin (oEq false) (gVar 4) (gUn oLen (gVar 3))) (sR h p v R a l x t todo s9 s10) = some (true, sR h p v R a l x t todo s9 s10) := by
    simp [gTb, gBin, gVar, gUn, sR, dat, slD, oLen, Rv.res, oEq_int, he, asB]
  have t1 : gTb (gBin (oEq false) (gVar 4) (gUn oLen (gVar 3))) (sR h p v (R ++ runs p) a l x t todo s9 s10) = some (false, sR h p v (R ++ runs p) a l x t todo s9 s10) := by
    simp [gTb, gBin, gVar, gUn, sR, dat, slD, oLen, Rv.res, oEq_int, hne, asB]
  have d0 : sDrop (gM mExt (gVar 3) (aCons (gVar 1) aNil)) (sR h p v R a l x t todo s9 s10) = some (.nx (sR h p v (R ++ runs p) a l x t todo s9 s10)) := by
    simp [sDrop, gM, gVar, aCons, aNil, sR, dW, frz, mExt, Ev.put, hl]
  rw [seq_nx (if_t t0 d0) rfl, seq_nx (if_f t1 rfl) rfl]
end
end W
end

section
set_option Elab.async false
set_option linter.all false
set_option maxRecDepth 100000
set_option maxHeartbeats 4000000
namespace W
open DL Lim
/-! ## rest_behind: one run of the path -/
def Mis (α : Om) (x : Bool) (k : Nat) : Prop := ∃ (j : Nat) (y : Bool) (ω : Om), j < k ∧ y ≠ x ∧ α = app (List.replicate j x ++ [y]) ω
theorem Mis.more {x : Bool} {k i : Nat} {ω α : Om} (h : Mis ω x k) (e : α = app (List.replicate i x) ω) : Mis α x (i + k) := by
  obtain ⟨j, y, ω', h1, h2, h3⟩ := h
  refine ⟨i + j, y, ω', by omega, h2, ?_⟩
  rw [e, h3, ← app_app, ← List.append_assoc, List.replicate_append_replicate]
/-- the runs list is the head and whole periods -/
structure Rok (h p : Wd) (R : Rs) : Prop where
  ge : (runs h).length ≤ R.length
  pos : ∀ r ∈ R, 1 ≤ r.2
  tl : ∀ (x : Bool) (n : Nat), runs p = [(x, n)] → ∀ (i : Nat) (r : Bool × Nat), (runs h).length ≤ i → R[i]? = some r → r.1 = x
theorem Rok.ext {h p : Wd} {R : Rs} (k : Rok h p R) : Rok h p (R ++ runs p) where
  ge := by have := k.ge; simp; omega
  pos := fun r hr => by
    rcases List.mem_append.mp hr with q | q
    · exact k.pos r q
    · exact (can_runs p).pos r q
  tl := fun x n e i r hi hr => by
    rcases Nat.lt_or_ge i R.length with q | q
    · rw [List.getElem?_append_left q] at hr
      exact k.tl x n e i r hi hr
    · rw [List.getElem?_append_right q, e] at hr
      have : i - R.length = 0 := by
        rcases Nat.eq_zero_or_pos (i - R.length) with z | z
        · exact z
        · rw [List.getElem?_eq_none (by simp; omega)] at hr; cases hr
      rw [this] at hr
      simp at hr
      rw [← hr]
/-- behind the head of a one-letter tail all is that letter -/
theorem Rok.cst {h p : Wd} {R : Rs} (k : Rok h p R) {x : Bool} {n a l : Nat} (e : runs p = [(x, n)]) (ha : (runs h).length ≤ a) : app (tailw R a l) (per p) = cst x := by
  rw [per_single e]
  refine app_cst' x _ fun y hy => ?_
  have hy2 : y ∈ ex (R.drop a) := List.mem_of_mem_drop hy
  obtain ⟨r, h1, h2⟩ := mem_ex hy2
  obtain ⟨i, hi, e2⟩ := List.mem_iff_getElem.mp h1
  have : R[a + i]? = some r := by
    rw [List.getElem_drop] at e2
    rw [List.length_drop] at hi
    rw [List.getElem?_eq_getElem (by omega), e2]
  rw [← h2]
  exact k.tl x n e (a + i) r (by omega) this
section
variable {h p v : Wd} {x : Bool} {t : D}
/-- what a run's loop hands back -/
inductive Turn (h p v : Wd) (x : Bool) (t : D) (k : Nat) (α : Om) (m : Nat) : Option Out → Prop
  | mis (E : Ev) : Mis α x k → Turn h p v x t k α m (some (.rt (.val (.str [cc x])) E))
  | on (R : Rs) (a l : Nat) (s9 s10 : Sl) : Rok h p R → Place R a l → R.length ≤ m → α = app (List.replicate k x) (app (tailw R a l) (per p)) → Turn h p v x t k α m (some (.nx (sR h p v R a l x t 0 s9 s10)))
theorem place_next {R : Rs} {a : Nat} (pos : ∀ r ∈ R, 1 ≤ r.2) (h : a < R.length) : Place R (a + 1) 0 :=
  ⟨by omega, fun r hr => pos r (List.mem_of_getElem? hr), fun _ => rfl⟩
end
/-- a run of another letter lies ahead: the list is not made longer -/
theorem turn1 {h p v : Wd} {x : Bool} {t : D} {R : Rs} (k : Rok h p R) (hp : 0 < (runs p).length) : ∀ (N todo a l : Nat) (s9 s10 : Sl) (j : Nat) (r : Bool × Nat), todo < N → Place R a l → a ≤ j → R[j]? = some r → r.1 ≠ x →
    Turn h p v x t todo (app (tailw R a l) (per p)) R.length (whileG C_rest_behind_0 L_rest_behind_0 N (sR h p v R a l x t todo s9 s10))
  | 0, todo, a, l, _, _, _, _, h0, _, _, _, _ => by omega
  | N + 1, todo, a, l, s9, s10, j, r, h0, pl, aj, hj, rx => by
    rw [whileG]
    simp only [c_rest, Option.bind_some]
    by_cases z : 0 < todo
    · rw [decide_eq_true z, if_pos rfl]
      have jlt : j < R.length := (List.getElem?_eq_some_iff.mp hj).1
      obtain ⟨⟨y, n⟩, hr⟩ : ∃ q, R[a]? = some q := ⟨R[a], List.getElem?_eq_getElem (by omega)⟩
      have ln : l < n := pl.lt _ hr
      have hb := b_rest (h := h) (p := p) (v := v) (x := x) (t := t) (todo := todo) (s9 := s9) (s10 := s10) hr (Nat.le_of_lt ln)
      by_cases yx : y = x
      · subst yx
        rw [if_neg (by simp)] at hb
        have aj' : a + 1 ≤ j := by
          rcases Nat.lt_or_ge a j with q | q
          · exact q
          · have : a = j := by omega
            subst this
            rw [hr] at hj
            cases hj
            exact absurd rfl rx
        by_cases hs : (runs p).length = 1 ∧ (runs h).length ≤ a
        · exfalso
          obtain ⟨⟨w, m⟩, hw⟩ : ∃ q, runs p = [q] := List.length_eq_one_iff.mp hs.1
          have e1 := k.tl w m hw a _ hs.2 hr
          have e2 := k.tl w m hw j _ (by omega) hj
          exact rx (by rw [e2, ← e1])
        · rw [if_neg hs] at hb
          by_cases hz : n - l ≤ todo
          · rw [if_pos hz] at hb
            rw [hb]
            simp only [Option.bind_some]
            have ih := turn1 (v := v) (t := t) k hp N (todo - (n - l)) (a + 1) 0 (.fz (.str [cc y])) (.fz (.int n)) j r (by omega) (place_next k.pos (by omega)) aj' hj rx
            have et : app (tailw R a l) (per p) = app (List.replicate (n - l) y) (app (tailw R (a + 1) 0) (per p)) := by rw [tail_next hr (by omega), app_app]
            have ek : todo = (n - l) + (todo - (n - l)) := by omega
            generalize whileG C_rest_behind_0 L_rest_behind_0 N (sR h p v R (a + 1) 0 y t (todo - (n - l)) (.fz (.str [cc y])) (.fz (.int n))) = w at ih ⊢
            cases ih with
            | mis E m => exact .mis E (by rw [ek]; exact m.more et)
            | on R' a' l' t9 t10 k' p' l2 e =>
              refine .on R' a' l' t9 t10 k' p' l2 ?_
              rw [et, e, ← app_app, List.replicate_append_replicate, ← ek]
          · rw [if_neg hz] at hb
            rw [hb]
            simp only [Option.bind_some]
            have e0 : whileG C_rest_behind_0 L_rest_behind_0 N (sR h p v R a (l + todo) y t 0 (.fz (.str [cc y])) (.fz (.int n))) = some (.nx (sR h p v R a (l + todo) y t 0 (.fz (.str [cc y])) (.fz (.int n)))) := by
              obtain ⟨M, rfl⟩ : ∃ M, N = M + 1 := ⟨N - 1, by omega⟩
              rw [whileG]
              simp [c_rest]
            rw [e0]
            refine .on R a (l + todo) _ _ k ⟨pl.le, fun q hq => by rw [hr] at hq; cases hq; simp only; omega, fun q => by omega⟩ (Nat.le_refl _) ?_
            rw [tail_part hr (k := todo) (by omega), app_app]
      · rw [if_pos yx] at hb
        rw [hb]
        simp only [Option.bind_some]
        refine .mis _ ⟨0, y, app (List.replicate (n - l - 1) y ++ tailw R (a + 1) 0) (per p), z, yx, ?_⟩
        rw [tail_next hr (by omega), ← app_app]
        congr 1
        obtain ⟨q, hq⟩ : ∃ q, n - l = q + 1 := ⟨n - l - 1, by omega⟩
        rw [hq]
        simp [List.replicate_succ]
    · have z0 : todo = 0 := by omega
      subst z0
      simp only [Nat.lt_irrefl, decide_false, Bool.false_eq_true, if_false]
      exact .on R a l _ _ k pl (Nat.le_refl _) rfl
end W
end

section
set_option Elab.async false
set_option linter.all false
set_option maxRecDepth 100000
set_option maxHeartbeats 4000000
namespace W
open DL Lim
theorem Turn.mono {h p v : Wd} {x : Bool} {t : D} {k m m' : Nat} {α : Om} {o : Option Out} (T : Turn h p v x t k α m o) (hm : m ≤ m') : Turn h p v x t k α m' o := by
  cases T with
  | mis E q => exact .mis E q
  | on R a l s9 s10 h1 h2 h3 h4 => exact .on R a l s9 s10 h1 h2 (Nat.le_trans h3 hm) h4
theorem w_zero {h p v : Wd} {x : Bool} {t : D} {R : Rs} {a l : Nat} {s9 s10 : Sl} {N : Nat} (hN : 0 < N) : whileG C_rest_behind_0 L_rest_behind_0 N (sR h p v R a l x t 0 s9 s10) = some (.nx (sR h p v R a l x t 0 s9 s10)) := by
  obtain ⟨M, rfl⟩ : ∃ M, N = M + 1 := ⟨N - 1, by omega⟩
  rw [whileG]
  simp [c_rest]
/-- in general the period is put behind at most once -/
theorem turn2 {h p v : Wd} {x : Bool} {t : D} {R : Rs} (k : Rok h p R) (hp : 0 < (runs p).length) (hl : R.length + (runs p).length ≤ 16777216) : ∀ (N todo a l : Nat) (s9 s10 : Sl), todo < N → Place R a l →
    Turn h p v x t todo (app (tailw R a l) (per p)) (R.length + (runs p).length) (whileG C_rest_behind_0 L_rest_behind_0 N (sR h p v R a l x t todo s9 s10))
  | 0, todo, a, l, _, _, h0, _ => by omega
  | N + 1, todo, a, l, s9, s10, h0, pl => by
    by_cases z : 0 < todo
    · rcases Nat.lt_or_ge a R.length with alt | age
      · obtain ⟨⟨y, n⟩, hr⟩ : ∃ q, R[a]? = some q := ⟨R[a], List.getElem?_eq_getElem alt⟩
        have ln : l < n := pl.lt _ hr
        by_cases yx : y = x
        · subst yx
          have hb := b_rest (h := h) (p := p) (v := v) (x := y) (t := t) (todo := todo) (s9 := s9) (s10 := s10) hr (Nat.le_of_lt ln)
          rw [if_neg (by simp)] at hb
          rw [whileG]
          simp only [c_rest, Option.bind_some]
          rw [decide_eq_true z, if_pos rfl]
          by_cases hs : (runs p).length = 1 ∧ (runs h).length ≤ a
          · rw [if_pos hs] at hb
            rw [hb]
            simp only [Option.bind_some]
            rw [w_zero (by omega)]
            obtain ⟨⟨w, m⟩, hw⟩ : ∃ q, runs p = [q] := List.length_eq_one_iff.mp hs.1
            have e1 := k.tl w m hw a _ hs.2 hr
            simp only at e1
            subst e1
            refine .on R a l _ _ k pl (by omega) ?_
            rw [k.cst hw hs.2, app_cst]
          · rw [if_neg hs] at hb
            by_cases hz : n - l ≤ todo
            · rw [if_pos hz] at hb
              rw [hb]
              simp only [Option.bind_some]
              have ih := turn2 (v := v) (x := y) (t := t) k hp hl N (todo - (n - l)) (a + 1) 0 (.fz (.str [cc y])) (.fz (.int n)) (by omega) (place_next k.pos alt)
              have et : app (tailw R a l) (per p) = app (List.replicate (n - l) y) (app (tailw R (a + 1) 0) (per p)) := by rw [tail_next hr (by omega), app_app]
              have ek : todo = (n - l) + (todo - (n - l)) := by omega
              generalize whileG C_rest_behind_0 L_rest_behind_0 N (sR h p v R (a + 1) 0 y t (todo - (n - l)) (.fz (.str [cc y])) (.fz (.int n))) = w at ih ⊢
              cases ih with
              | mis E m => exact .mis E (by rw [ek]; exact m.more et)
              | on R' a' l' t9 t10 k' p' l2 e =>
                refine .on R' a' l' t9 t10 k' p' l2 ?_
                rw [et, e, ← app_app, List.replicate_append_replicate, ← ek]
            · rw [if_neg hz] at hb
              rw [hb]
              simp only [Option.bind_some]
              rw [w_zero (by omega)]
              refine .on R a (l + todo) _ _ k ⟨pl.le, fun q hq => by rw [hr] at hq; cases hq; simp only; omega, fun q => by omega⟩ (by omega) ?_
              rw [tail_part hr (k := todo) (by omega), app_app]
        · exact (turn1 (v := v) (t := t) k hp (N + 1) todo a l s9 s10 a (y, n) h0 pl (Nat.le_refl _) hr yx).mono (by omega)
      · -- at the end
        have ae : a = R.length := by have := pl.le; omega
        have l0 := pl.z ae
        subst l0
        have hx := b_ext (h := h) (p := p) (v := v) (x := x) (t := t) (todo := todo) (s9 := s9) (s10 := s10) (l := 0) ae hp hl
        have we : whileG C_rest_behind_0 L_rest_behind_0 (N + 1) (sR h p v R a 0 x t todo s9 s10) = whileG C_rest_behind_0 L_rest_behind_0 (N + 1) (sR h p v (R ++ runs p) a 0 x t todo s9 s10) := by
          rw [whileG, whileG]
          simp only [c_rest, Option.bind_some]
          rw [decide_eq_true z, if_pos rfl, if_pos rfl, hx]
        have pl2 : Place (R ++ runs p) a 0 := ⟨by simp; omega, fun r hr => k.ext.pos r (List.mem_of_getElem? hr), fun _ => rfl⟩
        have et : app (tailw R a 0) (per p) = app (tailw (R ++ runs p) a 0) (per p) := by
          have e1 : tailw R a 0 = [] := by simp [tailw, ae, ex]
          have e2 : tailw (R ++ runs p) a 0 = p := by simp [tailw, ae, ex_runs]
          rw [e1, e2, app_per]
          rfl
        rw [we, et]
        have l2 : (R ++ runs p).length = R.length + (runs p).length := by simp
        obtain ⟨⟨w, m⟩, hw⟩ : ∃ q, (runs p)[0]? = some q := ⟨(runs p)[0], List.getElem?_eq_getElem hp⟩
        have hr0 : (R ++ runs p)[a]? = some (w, m) := by
          rw [List.getElem?_append_right (by omega), ae, Nat.sub_self, hw]
        by_cases wx : w = x
        · cases q : runs p with
          | nil => rw [q] at hp; simp at hp
          | cons r1 t1 =>
            cases t1 with
            | nil =>
              -- one letter
              rw [q] at hw
              simp at hw
              subst hw
              subst wx
              rw [← q]
              have hb := b_rest (h := h) (p := p) (v := v) (x := w) (t := t) (todo := todo) (s9 := s9) (s10 := s10) (l := 0) hr0 (Nat.zero_le _)
              have hs : (runs p).length = 1 ∧ (runs h).length ≤ a := ⟨by rw [q]; rfl, by rw [ae]; exact k.ge⟩
              rw [if_neg (by simp), if_pos hs] at hb
              rw [whileG]
              simp only [c_rest, Option.bind_some]
              rw [decide_eq_true z, if_pos rfl, hb]
              simp only [Option.bind_some]
              rw [w_zero (by omega)]
              refine .on _ a 0 _ _ k.ext pl2 (by omega) ?_
              rw [k.ext.cst q hs.2, app_cst]
            | cons r2 t2 =>
              rw [q] at hw
              simp at hw
              have adj : r1.1 ≠ r2.1 := by
                have := can_runs p
                rw [q] at this
                exact this.2.1
              have hr1 : (R ++ runs p)[a + 1]? = some r2 := by
                rw [List.getElem?_append_right (by omega), ae, q]
                have : R.length + 1 - R.length = 1 := by omega
                rw [this]
                rfl
              rw [← q]
              have := turn1 (v := v) (t := t) (x := x) k.ext hp (N + 1) todo a 0 s9 s10 (a + 1) r2 h0 pl2 (by omega) hr1 (by rw [hw] at adj; simp only at adj; rw [← wx]; exact fun z => adj z.symm)
              exact this.mono (by omega)
        · exact (turn1 (v := v) (t := t) k.ext hp (N + 1) todo a 0 s9 s10 a (w, m) h0 pl2 (Nat.le_refl _) hr0 wx).mono (by omega)
    · have z0 : todo = 0 := by omega
      subst z0
      rw [w_zero (by omega)]
      exact .on R a l _ _ k pl (by omega) rfl
end W
end

section
set_option Elab.async false
set_option linter.all false
set_option maxRecDepth 100000
set_option maxHeartbeats 4000000
namespace W
open DL Lim
def sQ (h p v : Wd) (R : Rs) (a l : Nat) (s6 s7 s8 s9 s10 : Sl) : Ev := ⟨false, [.fz (dW h), .fz (dW p), .fz (dW v), .ow (R.map dr), .fz (.int a), .fz (.int l), s6, s7, s8, s9, s10, .un]⟩
theorem sR_sQ {h p v : Wd} {R : Rs} {a l : Nat} {x : Bool} {t : D} {k : Nat} {s9 s10 : Sl} : sR h p v R a l x t k s9 s10 = sQ h p v R a l (.fz (.str [cc x])) (.fz t) (.fz (.int k)) s9 s10 := rfl
inductive PathRes (h p v : Wd) (w : Wd) (α : Om) (m : Nat) : Option Out → Prop
  | mis (E : Ev) (x : Bool) : (BeyW w α ↔ x = true) → PathRes h p v w α m (some (.rt (.val (.str [cc x])) E))
  | on (R : Rs) (a l : Nat) (s6 s7 s8 s9 s10 : Sl) : Rok h p R → Place R a l → R.length ≤ m → α = app w (app (tailw R a l) (per p)) → PathRes h p v w α m (some (.nx (sQ h p v R a l s6 s7 s8 s9 s10)))
theorem l_rest {h p v : Wd} (hp : 0 < (runs p).length) : ∀ (rs : Rs) (R : Rs) (a l : Nat) (s6 s7 s8 s9 s10 : Sl), Rok h p R → Place R a l → R.length + rs.length * (runs p).length ≤ 16777216 → (∀ r ∈ rs, r.2 < big) →
    PathRes h p v (ex rs) (app (tailw R a l) (per p)) (R.length + rs.length * (runs p).length) (loopG (.tp [.nm 6, .nm 7]) L_rest_behind_1 ((rs.map dr).map Rv.val) (sQ h p v R a l s6 s7 s8 s9 s10))
  | [], R, a, l, s6, s7, s8, s9, s10, k, pl, _, _ => .on R a l s6 s7 s8 s9 s10 k pl (by simp) rfl
  | (x, n) :: rs, R, a, l, s6, s7, s8, s9, s10, k, pl, hl, hb => by
    have e0 : asgR (.tp [.nm 6, .nm 7]) (Rv.val (dr (x, n))) (sQ h p v R a l s6 s7 s8 s9 s10) = some (sQ h p v R a l (.fz (.str [cc x])) (.fz (.int n)) s8 s9 s10) := rfl
    have nb : n < big := hb (x, n) (by simp)
    have hl' : R.length + (runs p).length ≤ 16777216 := by
      simp only [List.length_cons, Nat.succ_mul] at hl; omega
    have T := turn2 (v := v) (x := x) (t := .int n) k hp hl' big n a l s9 s10 nb pl
    have e1 : L_rest_behind_1 (sQ h p v R a l (.fz (.str [cc x])) (.fz (.int n)) s8 s9 s10) = whileG C_rest_behind_0 L_rest_behind_0 big (sR h p v R a l x (.int n) n s9 s10) := by
      unfold L_rest_behind_1
      exact seq_nx (set_fz (v_var rfl) rfl) rfl
    show PathRes h p v _ _ _ (loopG _ _ (Rv.val (dr (x, n)) :: (rs.map dr).map Rv.val) _)
    simp only [loopG, e0, Option.bind_some, e1]
    generalize whileG C_rest_behind_0 L_rest_behind_0 big (sR h p v R a l x (.int n) n s9 s10) = w at T ⊢
    cases T with
    | mis E m =>
      simp only [Option.bind_some]
      obtain ⟨j, y, ω, h1, h2, h3⟩ := m
      refine .mis E x ?_
      rw [h3]
      exact beyW_mis x y h2 (ex rs) j n ω h1
    | on R' a' l' t9 t10 k' pl' hm e =>
      simp only [Option.bind_some]
      have ih := l_rest (v := v) hp rs R' a' l' (.fz (.str [cc x])) (.fz (.int n)) (.fz (.int (0 : Nat))) t9 t10 k' pl' (by simp only [List.length_cons, Nat.succ_mul] at hl; omega) (fun r hr => hb r (by simp [hr]))
      rw [sR_sQ]
      generalize loopG (.tp [.nm 6, .nm 7]) L_rest_behind_1 ((rs.map dr).map Rv.val) (sQ h p v R' a' l' (.fz (.str [cc x])) (.fz (.int n)) (.fz (.int (0 : Nat))) t9 t10) = w at ih ⊢
      cases ih with
      | mis E y q =>
        refine .mis E y ?_
        rw [e]
        show BeyW (List.replicate n x ++ ex rs) _ ↔ _
        rw [beyW_rep, q]
      | on R2 a2 l2 u6 u7 u8 u9 u10 k2 pl2 hm2 e2 =>
        refine .on R2 a2 l2 u6 u7 u8 u9 u10 k2 pl2 (by simp only [List.length_cons, Nat.succ_mul]; omega) ?_
        rw [e, e2, ← app_app]
        rfl
/-- the end: what is left of the word -/
theorem rest_end {h p v : Wd} {R : Rs} {a l : Nat} {s6 s7 s8 s9 s10 : Sl} (k : Rok h p R) (pl : Place R a l) (hl : R.length ≤ 16777215) :
    ∃ rs1 : Rs, ex rs1 = tailw R a l ∧ rs1.length ≤ R.length ∧ ∀ out : GS, (sSeq (sSet 11 (gLst (aStar (gSl (gVar 3) (gP (gVar 4)) gNoP) aNil)))
      (sSeq (sIf (gTb (gBin (oCmpI fun i j => decide (j < i)) (gVar 5) (gC (.int 0))))
      (sSet 11 (gLst (aCons (gTup (aCons (gBin oIx (gBin oIx (gVar 11) (gC (.int 0))) (gC (.int 0))) (aCons (gBin (oI fun i j => some (i - j)) (gBin oIx (gBin oIx (gVar 11) (gC (.int 0))) (gC (.int 1))) (gVar 5)) aNil))) (aStar (gSl (gVar 11) (gP (gC (.int 1))) gNoP) aNil))))
      sNx) out)) (sQ h p v R a l s6 s7 s8 s9 s10) = out ⟨false, [.fz (dW h), .fz (dW p), .fz (dW v), .ow (R.map dr), .fz (.int a), .fz (.int l), s6, s7, s8, s9, s10, .ow (rs1.map dr)]⟩ := by
  have c1 : cutD (R.map dr) (some (a : Int)) none = (R.drop a).map dr := by rw [cut_drop, List.map_drop]
  have b1 : (R.drop a).length ≤ 16777216 := by rw [List.length_drop]; omega
  have q1 : sSet 11 (gLst (aStar (gSl (gVar 3) (gP (gVar 4)) gNoP) aNil)) (sQ h p v R a l s6 s7 s8 s9 s10) = some (.nx ⟨false, [.fz (dW h), .fz (dW p), .fz (dW v), .ow (R.map dr), .fz (.int a), .fz (.int l), s6, s7, s8, s9, s10, .ow ((R.drop a).map dr)]⟩) := by
    have b2 : R.length ≤ 16777216 + a := by omega
    simp only [sSet, gLst, aStar, gSl, gVar, sQ, gP, gNoP, aNil, List.getElem?_cons_zero, List.getElem?_cons_succ, Option.bind_some, dat, slD, oSl, c1, Option.map_some, Rv.res, itemsOf, List.append_nil, List.length_map, b1, if_true, setR]
    rfl
  rcases Nat.eq_zero_or_pos l with z | z
  · subst z
    refine ⟨R.drop a, by simp [tailw], by rw [List.length_drop]; omega, fun out => ?_⟩
    have ht := t_b (v_cmp (p := fun i j => decide (j < i)) (ga := gVar 5) (gb := gC (.int 0)) (ρ := ⟨false, [.fz (dW h), .fz (dW p), .fz (dW v), .ow (R.map dr), .fz (.int a), .fz (.int (0 : Nat)), s6, s7, s8, s9, s10, .ow ((R.drop a).map dr)]⟩) (i := (0 : Nat)) (j := 0) (v_var rfl) v_c)
    exact seq_nx q1 (seq_nx (if_f ht rfl) rfl)
  · have alt : a < R.length := by
      rcases Nat.lt_or_ge a R.length with q | q
      · exact q
      · have := pl.z (by have := pl.le; omega); omega
    obtain ⟨⟨y, n⟩, hr⟩ : ∃ q, R[a]? = some q := ⟨R[a], List.getElem?_eq_getElem alt⟩
    have ln : l < n := pl.lt _ hr
    have ed : R.drop a = (y, n) :: R.drop (a + 1) := by
      rw [List.drop_eq_getElem_cons alt]
      congr 1
      exact (List.getElem?_eq_some_iff.mp hr).2
    refine ⟨(y, n - l) :: R.drop (a + 1), ?_, by simp; omega, fun out => ?_⟩
    · rw [tail_step hr (by omega)]; rfl
    · have ht := t_b (v_cmp (p := fun i j => decide (j < i)) (ga := gVar 5) (gb := gC (.int 0)) (ρ := ⟨false, [.fz (dW h), .fz (dW p), .fz (dW v), .ow (R.map dr), .fz (.int a), .fz (.int l), s6, s7, s8, s9, s10, .ow ((R.drop a).map dr)]⟩) (i := l) (j := 0) (v_var rfl) v_c)
      have hd : decide ((0 : Int) < (l : Int)) = true := by simp; omega
      rw [hd] at ht
      refine seq_nx q1 (seq_nx (if_t ht ?_) rfl)
      rw [ed]
      have c2 : cutD (List.map dr ((y, n) :: R.drop (a + 1))) (some 1) none = (R.drop (a + 1)).map dr := by rw [cut_1]; rfl
      have c3 : (n : Int) - (l : Int) = ((n - l : Nat) : Int) := by omega
      have b3 : (R.drop (a + 1)).length + 1 ≤ 16777216 := by rw [List.length_drop]; omega
      refine set_nw (ρ' := ⟨false, [.fz (dW h), .fz (dW p), .fz (dW v), .ow (R.map dr), .fz (.int a), .fz (.int l), s6, s7, s8, s9, s10, .ow (((y, n) :: R.drop (a + 1)).map dr)]⟩) (d := ((y, n - l) :: R.drop (a + 1)).map dr) ?_ rfl
      simp only [List.map_cons] at c2 ⊢
      simp [gLst, aCons, gTup, gBin, gVar, gC, dat, slD, oIx, atI_0, atI_1, dr, Rv.res, frz, oI, aNil, aStar, gSl, gP, gNoP, oSl, itemsOf, c3]
      rw [cut_1]
      simp
      omega
end W
end

section
set_option Elab.async false
set_option linter.all false
set_option maxRecDepth 100000
set_option maxHeartbeats 4000000
namespace W
open DL Lim
theorem a_cons' {ga : GE} {gs : GA} {ρ ρ1 ρ2 : Ev} {d : D} {ds : List D} (h1 : ga ρ = some (.fz d, ρ1)) (h2 : gs ρ1 = some (ds, ρ2)) : aCons ga gs ρ = some (d :: ds, ρ2) := by
  simp only [aCons, h1, Option.bind_some, frz, h2, Option.map_some]
theorem call' {φ : Phi} {ga : GA} {ρ ρ1 : Ev} {d : D} {ds cs : List D} (h1 : ga ρ = some (ds, ρ1)) (h2 : φ ds = some (.val d, cs)) : gCallX φ [] ga ρ = some (.fz d, ρ1) := by
  simp only [gCallX, h1, Option.bind_some, List.append_nil, h2, Option.map_some, RF.res]
theorem tup' {ga : GA} {ρ ρ1 : Ev} {ds : List D} (h1 : ga ρ = some (ds, ρ1)) (h2 : ds.length ≤ 16777216) : gTup ga ρ = some (.fz (.tup ds), ρ1) := by
  simp only [gTup, h1, Option.bind_some, h2, if_true]
theorem runs_ex_len (rs : Rs) : (runs (ex rs)).length ≤ rs.length := by
  have : ∀ (rs f : Rs), (rs.foldl add f).length ≤ f.length + rs.length := by
    intro rs
    induction rs with
    | nil => intro f; simp
    | cons r rs ih =>
      intro f
      have h1 := add_len f r
      have h2 := ih (add f r)
      simp only [List.foldl_cons, List.length_cons]
      omega
  have h1 := this rs []
  rw [adds_nil] at h1
  simpa using h1
/-- what rest_behind hands back -/
inductive RestRes (h p v : Wd) : D → Prop
  | mis (x : Bool) : (BeyW v (om h p) ↔ x = true) → RestRes h p v (.str [cc x])
  | on (w q : Wd) : om h p = app v (om w q) → ((runs p).length = 1 → Short w q) → ((runs p).length ≠ 1 → q = p) → (runs w).length + (runs q).length ≤ 16777216 → RestRes h p v (.tup [dW w, dW q])
theorem e_rest_behind {h p v : Wd} (pne : p ≠ []) (hh : h.length ≤ 1000) (hpl : p.length ≤ 1000) (hv : (runs v).length ≤ 10000) (hb : ∀ r ∈ runs v, r.2 < big) :
    ∃ d, φ_rest_behind [dW h, dW p, dW v] = some (.val d, []) ∧ RestRes h p v d := by
  have lh := runs_len_le h
  have lp := runs_len_le p
  have hp : 0 < (runs p).length := by
    rcases Nat.eq_zero_or_pos (runs p).length with z | z
    · exfalso; apply pne; rw [← ex_runs p, List.length_eq_zero_iff.mp z]; rfl
    · exact z
  have k0 : Rok h p (runs h) := ⟨Nat.le_refl _, (can_runs h).pos, fun x n e i r hi hr => by rw [List.getElem?_eq_none hi] at hr; cases hr⟩
  have p0 : Place (runs h) 0 0 := ⟨by omega, fun r hr => (can_runs h).pos r (List.mem_of_getElem? hr), fun _ => rfl⟩
  have big1 : (runs v).length * (runs p).length ≤ 10000 * 1000 := Nat.mul_le_mul hv (by omega)
  have res := l_rest (h := h) (p := p) (v := v) hp (runs v) (runs h) 0 0 .un .un .un .un .un k0 p0 (by omega) hb
  have e0 : app (tailw (runs h) 0 0) (per p) = om h p := by simp [tailw, ex_runs, om]
  rw [e0, ex_runs] at res
  have st : sPar3 3 4 5 (gLst (aStar (gVar 0) aNil)) (gC (.int 0)) (gC (.int 0)) ⟨false, [.fz (dW h), .fz (dW p), .fz (dW v), .un, .un, .un, .un, .un, .un, .un, .un, .un]⟩ = some (.nx (sQ h p v (runs h) 0 0 .un .un .un .un .un)) := by
    have b1 : (runs h).length ≤ 16777216 := by omega
    simp [sPar3, gLst, aStar, gVar, aNil, dat, dW, itemsOf, b1, unb, gC, setR, Ev.put, sQ]
  have fi : iAny (gVar 2) (sQ h p v (runs h) 0 0 .un .un .un .un .un) = some (((runs v).map dr).map Rv.val, sQ h p v (runs h) 0 0 .un .un .un .un .un) := by
    simp only [iAny, gVar, sQ, List.getElem?_cons_zero, List.getElem?_cons_succ, Option.bind_some, frz, dW, itemsR, Option.map_some]
  have go : ∀ (out : Option Out) (d : D), loopG (.tp [.nm 6, .nm 7]) L_rest_behind_1 (((runs v).map dr).map Rv.val) (sQ h p v (runs h) 0 0 .un .un .un .un .un) = out → sFor (iAny (gVar 2)) (.tp [.nm 6, .nm 7]) L_rest_behind_1 (sQ h p v (runs h) 0 0 .un .un .un .un .un) = out := fun out d e => by
    simp only [sFor, fi, Option.bind_some, e]
  generalize hw : loopG (.tp [.nm 6, .nm 7]) L_rest_behind_1 (((runs v).map dr).map Rv.val) (sQ h p v (runs h) 0 0 .un .un .un .un .un) = w at res
  have hf := go w .non hw
  cases res with
  | mis E x q =>
    refine ⟨_, ?_, .mis x q⟩
    refine phi_rt (ρ := E) ?_ rfl
    show g_rest_behind ⟨false, [.fz (dW h), .fz (dW p), .fz (dW v), .un, .un, .un, .un, .un, .un, .un, .un, .un]⟩ = _
    unfold g_rest_behind
    exact seq_nx st (seq_rt hf)
  | on R a l s6 s7 s8 s9 s10 k pl hm e =>
    obtain ⟨rs1, r1, r2, r3⟩ := rest_end (h := h) (p := p) (v := v) (s6 := s6) (s7 := s7) (s8 := s8) (s9 := s9) (s10 := s10) k pl (by omega)
    have hro := e_runs_of (rs := rs1) (by omega)
    rw [r1] at hro
    have rl1 := runs_ex_len rs1
    rw [r1] at rl1
    let E1 : Ev := ⟨false, [.fz (dW h), .fz (dW p), .fz (dW v), .ow (R.map dr), .fz (.int a), .fz (.int l), s6, s7, s8, s9, s10, .ow (rs1.map dr)]⟩
    let E2 : Ev := ⟨false, [.fz (dW h), .fz (dW p), .fz (dW v), .ow (R.map dr), .fz (.int a), .fz (.int l), s6, s7, s8, s9, s10, .fz (.lst (rs1.map dr))]⟩
    have vr : gCallX φ_runs_of [] (aCons (gVar 11) aNil) E1 = some (.fz (dW (tailw R a l)), E2) := by
      simp only [gCallX, aCons, gVar, E1, List.getElem?_cons_zero, List.getElem?_cons_succ, Option.bind_some, frz, aNil, Option.map_some, List.append_nil]
      rw [if_neg (by simp)]
      simp only [Option.bind_some, Option.map_some, hro, RF.res]
      rfl
    have tp : EvT (gTb (gBin (oEq false) (gUn oLen (gVar 1)) (gC (.int 1)))) E1 (decide ((runs p).length = 1)) := by
      have := t_b (v_eqI false (ga := gUn oLen (gVar 1)) (gb := gC (.int 1)) (ρ := E1) (i := (runs p).length) (j := 1) (v_un (d1 := dW p) (v_var rfl) (by simp only [oLen, dW, List.length_map])) v_c)
      have k1 : (((runs p).length : Int) == 1) = decide ((runs p).length = 1) := by
        by_cases z : (runs p).length = 1
        · rw [decide_eq_true z, z]; rfl
        · rw [decide_eq_false z]
          apply beq_eq_false_iff_ne.mpr
          omega
      simp only [Bool.false_eq_true, if_false, k1] at this
      exact this
    have fin : ∀ (d : D), gIfE (gTb (gBin (oEq false) (gUn oLen (gVar 1)) (gC (.int 1)))) (gCallX φ_shortened_in [] (aCons (gCallX φ_runs_of [] (aCons (gVar 11) aNil)) (aCons (gVar 1) aNil))) (gTup (aCons (gCallX φ_runs_of [] (aCons (gVar 11) aNil)) (aCons (gVar 1) aNil))) E1 = some (.fz d, E2) → φ_rest_behind [dW h, dW p, dW v] = some (.val d, []) := by
      intro d hd
      refine phi_rt (ρ := E2) ?_ rfl
      show g_rest_behind ⟨false, [.fz (dW h), .fz (dW p), .fz (dW v), .un, .un, .un, .un, .un, .un, .un, .un, .un]⟩ = _
      unfold g_rest_behind
      refine seq_nx st (seq_nx hf ?_)
      rw [r3]
      exact ret_fz hd
    unfold EvT at tp
    have v1 : gVar 1 E2 = some (.fz (dW p), E2) := rfl
    by_cases z : (runs p).length = 1
    · rw [decide_eq_true z] at tp
      obtain ⟨⟨x, n⟩, hx⟩ : ∃ q, runs p = [q] := List.length_eq_one_iff.mp z
      obtain ⟨h', e1, S, hn⟩ := sh_single (h := tailw R a l) hx
      refine ⟨_, fin (.tup [dW h', dW [x]]) ?_, .on h' [x] ?_ (fun _ => S.short) (fun q => absurd z q) ?_⟩
      · simp only [gIfE, tp, Option.bind_some, if_true]
        exact call' (a_cons' vr (a_cons' v1 rfl)) e1
      · rw [S.om, e]; rfl
      · have : (runs [x]).length = 1 := rfl
        omega
    · rw [decide_eq_false z] at tp
      refine ⟨_, fin (.tup [dW (tailw R a l), dW p]) ?_, .on (tailw R a l) p e (fun q => absurd q z) (fun _ => rfl) (by omega)⟩
      simp only [gIfE, tp, Option.bind_some, Bool.false_eq_true, if_false]
      exact tup' (a_cons' vr (a_cons' v1 rfl)) (by simp)
end W
end

section
set_option Elab.async false
set_option linter.all false
set_option maxRecDepth 100000
set_option maxHeartbeats 4000000
namespace Lim
theorem beyW_app : ∀ (v : Wd) (ω : Om), BeyW v (app v ω) ↔ BeyW [] ω
  | [], _ => Iff.rfl
  | x :: v, ω => by
    show ((x = x ∧ BeyW v (app v ω)) ∨ (x ≠ x ∧ x = true)) ↔ _
    rw [beyW_app v ω]
    simp
theorem short_b : Short [] [true] := ⟨by simp, fun g g0 gd _ => Nat.dvd_one.mp gd, by simp⟩
theorem short_ab : Short [false] [true] := ⟨by simp, fun g g0 gd _ => Nat.dvd_one.mp gd, by simp⟩
theorem om_b : om [] [true] = fun _ => true := by
  have : per [true] = fun _ => true := per_single (x := true) (n := 1) rfl
  show per [true] = _
  exact this
theorem om_ab (n : Nat) : om [false] [true] (n + 1) = true := by
  show per [true] n = true
  rw [per_single (x := true) (n := 1) rfl]
  rfl
theorem north_iff {h p : Wd} (S : Short h p) : (∀ n, om h p n = true) ↔ h = [] ∧ p = [true] := by
  constructor
  · intro z
    have : om h p = om [] [true] := by
      rw [om_b]; funext n; exact z n
    exact short_unique S short_b this
  · rintro ⟨rfl, rfl⟩ n
    rw [om_b]
theorem ab_iff {h p : Wd} (S : Short h p) (h0 : om h p 0 = false) : (∀ n, om h p (n + 1) = true) ↔ h = [false] ∧ p = [true] := by
  constructor
  · intro z
    have : om h p = om [false] [true] := by
      funext n
      cases n with
      | zero => rw [h0]; rfl
      | succ n => rw [z n, om_ab]
    exact short_unique S short_ab this
  · rintro ⟨rfl, rfl⟩ n
    exact om_ab n
theorem runs_sing {w : Wd} {x : Bool} : runs w = [(x, 1)] ↔ w = [x] := by
  constructor
  · intro h
    rw [← ex_runs w, h]; simp [ex]
  · rintro rfl; rfl
theorem per_has {p : Wd} {x : Bool} (h : x ∈ p) : ∃ n, n < p.length ∧ per p n = x := by
  obtain ⟨n, hn, e⟩ := List.mem_iff_getElem.mp h
  refine ⟨n, hn, ?_⟩
  rw [per_lt hn, List.getD_eq_getElem?_getD, List.getElem?_eq_getElem hn, e]
  rfl
end Lim
namespace W
open DL Lim
theorem e_is_north (h p : Wd) : φ_is_north [dW h, dW p] = some (.val (.bl (decide (runs h = []) && decide (runs p = [(true, 1)]))), []) := by
  have e1 := oEq_drs false (runs h) []
  have e2 := oEq_drs false (runs p) [(true, 1)]
  simp only [List.map_nil, Bool.false_eq_true, if_false] at e1 e2
  refine phi_rt (ρ := ⟨false, [.fz (dW h), .fz (dW p)]⟩) ?_ rfl
  show g_is_north ⟨false, [.fz (dW h), .fz (dW p)]⟩ = _
  unfold g_is_north
  exact ret_fz (v_and (v_bin (v_var rfl) (v_tup a_nil (by simp)) e1) (fun _ => v_bin (d2 := .tup [dr (true, 1)]) (v_var rfl) (v_tup (a_cons (v_tup (a_cons v_c (a_cons v_c a_nil)) (by simp)) a_nil) (by simp)) e2))
structure VOk (s : Sla) : Prop where
  ok : ∀ v, s = .word v → (runs v).length ≤ 10000 ∧ ∀ r ∈ runs v, r.2 < big
/-- is_beyond_in tells the order -/
theorem e_beyond_in {h p : Wd} (S : Short h p) (hh : h.length ≤ 1000) (hpl : p.length ≤ 1000) (s : Sla) (hs : VOk s) : ∃ b : Bool, φ_is_beyond_in [dS s, dW h, dW p] = some (.val (.bl b), []) ∧ (b = true ↔ Bey s (om h p)) := by
  have es : ∀ a b : List Nat, a.all (· < 1114112) = true → b.all (· < 1114112) = true → oEq false (.str a) (.str b) = some (.val (.bl (a == b))) := fun a b ha hb => by
    unfold oEq
    rw [shp_str ha, shp_str hb]
    rfl
  have en := e_is_north h p
  cases s with
  | east =>
    refine ⟨false, ?_, by simp [Bey]⟩
    have i := in_names_e
    have j := es sEast sNorth (by decide) (by decide)
    refine phi_rt (ρ := ⟨false, [.fz (.str sEast), .fz (dW h), .fz (dW p), .un, .un, .un, .un]⟩) ?_ rfl
    show g_is_beyond_in ⟨false, [.fz (.str sEast), .fz (dW h), .fz (dW p), .un, .un, .un, .un]⟩ = _
    unfold g_is_beyond_in
    refine seq_rt (if_t (t_b (v_bin (v_var rfl) (v_tup (a_cons v_c (a_cons v_c a_nil)) (by simp)) i)) ?_)
    exact ret_fz (v_and (a := false) (b := true) (v_bin (d2 := .str sNorth) (v_var rfl) v_c j) (fun z => by cases z))
  | north =>
    have i := in_names_n
    have j := es sNorth sNorth (by decide) (by decide)
    refine ⟨!(decide (runs h = []) && decide (runs p = [(true, 1)])), ?_, ?_⟩
    · refine phi_rt (ρ := ⟨false, [.fz (.str sNorth), .fz (dW h), .fz (dW p), .un, .un, .un, .un]⟩) ?_ rfl
      show g_is_beyond_in ⟨false, [.fz (.str sNorth), .fz (dW h), .fz (dW p), .un, .un, .un, .un]⟩ = _
      unfold g_is_beyond_in
      refine seq_rt (if_t (t_b (v_bin (v_var rfl) (v_tup (a_cons v_c (a_cons v_c a_nil)) (by simp)) i)) ?_)
      have := v_and (a := true) (v_bin (ρ := ⟨false, [.fz (.str sNorth), .fz (dW h), .fz (dW p), .un, .un, .un, .un]⟩) (ga := gVar 0) (gb := gC k_NORTH) (op := oEq false) (d2 := .str sNorth) (v_var rfl) v_c j) (fun _ => v_not (v_call0 (gs := aCons (gVar 1) (aCons (gVar 2) aNil)) (a_cons (v_var rfl) (a_cons (v_var rfl) a_nil)) en))
      exact ret_fz this
    · show _ ↔ ¬ _
      rw [north_iff S]
      have e1 : runs h = [] ↔ h = [] := ⟨fun z => by rw [← ex_runs h, z]; rfl, fun z => by rw [z]; rfl⟩
      simp only [Bool.not_eq_true', Bool.and_eq_false_iff, decide_eq_false_iff_not, e1, runs_sing]
      by_cases q : h = [] <;> simp [q]
  | word v =>
    have inn := in_names_w v
    obtain ⟨hv1, hv2⟩ := hs.ok v rfl
    obtain ⟨d, e1, R⟩ := e_rest_behind (h := h) (p := p) (v := v) S.ne hh hpl hv1 hv2
    have st1 : ∀ out : GS, (sSeq (sIf (gTb (gBin (oIn false) (gVar 0) (gTup (aCons (gC k_EAST) (aCons (gC k_NORTH) aNil)))))
        (sRet (gAndV (gBin (oEq false) (gVar 0) (gC k_NORTH)) (gNotV (gCallX φ_is_north [] (aCons (gVar 1) (aCons (gVar 2) aNil))))))
        sNx) (sSeq (sSet 3 (gCallX φ_rest_behind [] (aCons (gVar 1) (aCons (gVar 2) (aCons (gVar 0) aNil))))) out)) ⟨false, [.fz (dW v), .fz (dW h), .fz (dW p), .un, .un, .un, .un]⟩ = out ⟨false, [.fz (dW v), .fz (dW h), .fz (dW p), .fz d, .un, .un, .un]⟩ := fun out => by
      refine seq_nx (if_f (t_b (v_bin (v_var rfl) (v_tup (a_cons v_c (a_cons v_c a_nil)) (by simp)) inn)) rfl) ?_
      exact seq_nx (set_fz (v_call0 (a_cons (v_var rfl) (a_cons (v_var rfl) (a_cons (v_var rfl) a_nil))) e1) rfl) rfl
    have fin : ∀ (b : Bool) (E : Ev), g_is_beyond_in ⟨false, [.fz (dW v), .fz (dW h), .fz (dW p), .un, .un, .un, .un]⟩ = some (.rt (.val (.bl b)) E) → φ_is_beyond_in [dS (.word v), dW h, dW p] = some (.val (.bl b), []) := fun b E he => phi_rt (ρ := E) he rfl
    cases R with
    | mis x q =>
      refine ⟨x, fin x ⟨false, [.fz (dW v), .fz (dW h), .fz (dW p), .fz (.str [cc x]), .un, .un, .un]⟩ ?_, q.symm⟩
      unfold g_is_beyond_in
      rw [st1]
      refine seq_rt (if_t (t_b (v_un (d := .bl true) (v_var rfl) rfl)) ?_)
      have := oEq_str false x
      simp only [Bool.false_eq_true, if_false] at this
      exact ret_fz (v_bin (v_var rfl) v_c this)
    | on w q e e2 e3 big1 =>
      have cw := can_runs w
      have cq := can_runs q
      have qne : q ≠ [] := by
        by_cases z : (runs p).length = 1
        · exact (e2 z).ne
        · rw [e3 z]; exact S.ne
      obtain ⟨⟨z, n⟩, t, ht⟩ : ∃ r t, runs w ++ runs q = r :: t := by
        cases hq : runs w ++ runs q with
        | nil =>
          exfalso
          have := List.append_eq_nil_iff.mp hq
          apply qne
          rw [← ex_runs q, this.2]; rfl
        | cons r t => exact ⟨r, t, rfl⟩
      have n1 : 1 ≤ n := by
        have : (z, n) ∈ runs w ++ runs q := by rw [ht]; simp
        rcases List.mem_append.mp this with m | m
        · exact cw.pos _ m
        · exact cq.pos _ m
      have hz : om w q 0 = z := by
        have : om w q = app (ex (runs w ++ runs q)) (per q) := by
          rw [ex_app, ex_runs, ex_runs, app_app, app_per]; rfl
        rw [this, ht]
        obtain ⟨k, rfl⟩ : ∃ k, n = k + 1 := ⟨n - 1, by omega⟩
        rfl
      have l1 := Nat.le_refl 1
      · have vt : Ev1 (gTup (aStar (gVar 4) (aStar (gVar 5) aNil))) ⟨false, [.fz (dW v), .fz (dW h), .fz (dW p), .fz (.tup [dW w, dW q]), .fz (dW w), .fz (dW q), .un]⟩ (.tup (dr (z, n) :: t.map dr)) := by
          have e4 : (runs w).map dr ++ (runs q).map dr = dr (z, n) :: t.map dr := by rw [← List.map_append, ht]; rfl
          have e5 : (dr (z, n) :: t.map dr).length ≤ 16777216 := by rw [← e4]; simpa using big1
          rw [← e4] at e5 ⊢
          unfold Ev1
          simp only [gTup, aStar, gVar, List.getElem?_cons_zero, List.getElem?_cons_succ, Option.bind_some, dat, dW, itemsOf, aNil, Option.map_some, List.append_nil, e5, if_true]
        have oe : oEq true (.tup [dW w, dW q]) (.tup [.tup [dr (false, 1)], .tup [dr (true, 1)]]) = some (.val (.bl (!(decide (runs w = [(false, 1)]) && decide (runs q = [(true, 1)]))))) := by
          have s1 : shp (.tup [dW w, dW q]) = true := shp_of (by have a := (pd_drs (runs w)).1; have b := (pd_drs (runs q)).1; simp [pl, plA, dW, a, b]) (by have a := (pd_drs (runs w)).2; have b := (pd_drs (runs q)).2; simp [dep, depA, dW]; omega)
          have s2 : shp (.tup [.tup [dr (false, 1)], .tup [dr (true, 1)]]) = true := shp_of (by have a := (pd_dr (false, 1)).1; have b := (pd_dr (true, 1)).1; simp [pl, plA, a, b]) (by have a := (pd_dr (false, 1)).2; have b := (pd_dr (true, 1)).2; simp [dep, depA]; omega)
          have d1 := deq_tup_drs (runs w) [(false, 1)]
          have d2 := deq_tup_drs (runs q) [(true, 1)]
          simp only [List.map_cons, List.map_nil] at d1 d2
          unfold oEq
          rw [s1, s2]
          simp only [Bool.and_self, if_true, deq, deqA, dW, Bool.and_true] at d1 d2 ⊢
          rw [d1, d2]
        refine ⟨!z && !(decide (runs w = [(false, 1)]) && decide (runs q = [(true, 1)])), fin _ ⟨false, [.fz (dW v), .fz (dW h), .fz (dW p), .fz (.tup [dW w, dW q]), .fz (dW w), .fz (dW q), .fz (.str [cc z])]⟩ ?_, ?_⟩
        · unfold g_is_beyond_in
          rw [st1]
          refine seq_nx (if_f (t_b (v_un (d := .bl false) (v_var rfl) rfl)) rfl) ?_
          refine seq_nx (ρ' := ⟨false, [.fz (dW v), .fz (dW h), .fz (dW p), .fz (.tup [dW w, dW q]), .fz (dW w), .fz (dW q), .un]⟩) rfl ?_
          refine seq_nx (set_fz (v_ix (v_ix vt v_c (atI_0 _ _)) v_c (atI_0 _ _)) rfl) ?_
          have oa := oEq_strA false z
          simp only [Bool.false_eq_true, if_false] at oa
          exact ret_fz (v_and (v_bin (v_var rfl) v_c oa) (fun _ => v_bin (v_var rfl) (v_tup (a_cons (v_tup (a_cons (v_tup (a_cons v_c (a_cons v_c a_nil)) (by simp)) a_nil) (by simp)) (a_cons (v_tup (a_cons (v_tup (a_cons v_c (a_cons v_c a_nil)) (by simp)) a_nil) (by simp)) a_nil)) (by simp)) oe))
        · show _ ↔ BeyW v (om h p)
          rw [e, beyW_app]
          show _ ↔ (om w q 0 = false ∧ ¬ ∀ n, om w q (n + 1) = true)
          rw [hz]
          cases z
          · simp only [Bool.not_false, Bool.true_and, true_and, Bool.not_eq_true', Bool.and_eq_false_iff, decide_eq_false_iff_not]
            by_cases y : (runs p).length = 1
            · rw [ab_iff (e2 y) hz, runs_sing, runs_sing]
              by_cases y1 : w = [false] <;> simp [y1]
            · have qp := e3 y
              have n1 : ¬ runs q = [(true, 1)] := fun r => y (by rw [← qp, r]; rfl)
              have n2 : ¬ ∀ n, om w q (n + 1) = true := fun hall => by
                -- a period of two runs holds the letter a
                have fa : false ∈ q := by
                  rw [qp]
                  cases hq : runs p with
                  | nil => exact absurd (by rw [← ex_runs p, hq]; rfl) S.ne
                  | cons r1 t1 =>
                    cases t1 with
                    | nil => exact absurd (by rw [hq]; rfl) y
                    | cons r2 t2 =>
                      have c := can_runs p
                      rw [hq] at c
                      have i1 : 1 ≤ r1.2 := c.1
                      have i2 : 1 ≤ r2.2 := Can.pos c r2 (by simp)
                      have mem : ∀ r ∈ runs p, 1 ≤ r.2 → r.1 ∈ p := fun r hr h1 => by
                        rw [← ex_runs p]
                        have : ∀ rs : Rs, r ∈ rs → r.1 ∈ ex rs := by
                          intro rs
                          induction rs with
                          | nil => intro h; cases h
                          | cons s rs ih =>
                            intro h
                            simp only [ex, List.mem_append, List.mem_replicate]
                            rcases List.mem_cons.mp h with e | e
                            · subst e; exact .inl ⟨by omega, rfl⟩
                            · exact .inr (ih e)
                        exact this _ hr
                      have a1 := mem r1 (by rw [hq]; simp) i1
                      have a2 := mem r2 (by rw [hq]; simp) i2
                      have ne : r1.1 ≠ r2.1 := c.2.1
                      cases q1 : r1.1
                      · rw [q1] at a1; exact a1
                      · cases q2 : r2.1
                        · rw [q2] at a2; exact a2
                        · exact absurd (q1.trans q2.symm) ne
                obtain ⟨i, _, hi⟩ := per_has fa
                have l1 : 0 < q.length := List.length_pos_iff.mpr qne
                have o := om_ge w q (i + q.length)
                rw [per_add, hi] at o
                have e9 : i + q.length + w.length = (i + q.length + w.length - 1) + 1 := by omega
                rw [e9, hall] at o
                cases o
              constructor
              · intro _; exact n2
              · intro _; exact .inr n1
          · simp
end W
end

section
set_option Elab.async false
set_option linter.all false
set_option maxRecDepth 100000
set_option maxHeartbeats 4000000
namespace W
open DL Lim
theorem pok {w : Wd} (h : w.length ≤ 10000) : Pok (runs w) := ⟨fun r hr => ⟨(can_runs w).pos r hr, by have := run_le hr; rw [ex_runs] at this; omega⟩, by have := runs_len_le w; omega, Can.adj (can_runs w)⟩
theorem e_need_endless {h p : Wd} (pne : p ≠ []) (hl : h.length ≤ 500) (pl : p.length ≤ 500) : ∃ h' p' : Wd, φ_need_endless [dW h, dW p] = some (.val (.tup [dW h', dW p']), []) ∧ ShOk h p h' p' := by
  obtain ⟨h', p', e, S⟩ := e_shortened_in pne hl pl
  refine ⟨h', p', ?_, S⟩
  have p1 := e_is_path (pok (w := h) (by omega))
  have p2 := e_is_path (pok (w := p) (by omega))
  have a1 := e_path_at (rs := runs h) (by have := runs_len_le h; omega)
  have a2 := e_path_at (rs := runs p) (by have := runs_len_le p; omega)
  have rne : ((runs p).length : Int) ≠ 0 := by
    have : runs p ≠ [] := fun z => pne (by rw [← ex_runs p, z]; rfl)
    have := List.length_pos_iff.mpr this
    omega
  refine phi_rt (ρ := ⟨false, [.fz (dW h), .fz (dW p)]⟩) ?_ rfl
  show g_need_endless ⟨false, [.fz (dW h), .fz (dW p)]⟩ = _
  unfold g_need_endless
  have t1 := t_not (t_b (v_call0 (φ := φ_is_path) (gs := aCons (gVar 0) aNil) (ρ := ⟨false, [.fz (dW h), .fz (dW p)]⟩) (a_cons (v_var rfl) a_nil) p1))
  have t2 := t_not (t_b (v_call0 (φ := φ_is_path) (gs := aCons (gVar 1) aNil) (ρ := ⟨false, [.fz (dW h), .fz (dW p)]⟩) (a_cons (v_var rfl) a_nil) p2))
  have t3 := t_b (v_eqI false (ga := gUn oLen (gVar 1)) (gb := gC (.int 0)) (ρ := ⟨false, [.fz (dW h), .fz (dW p)]⟩) (i := (runs p).length) (j := 0) (v_un (d1 := dW p) (v_var rfl) (by simp only [oLen, dW, List.length_map])) v_c)
  have e0 : (((runs p).length : Int) == 0) = false := beq_eq_false_iff_ne.mpr rne
  simp only [Bool.false_eq_true, if_false, e0] at t3
  have t4 := t_or t2 (fun _ => t3)
  refine seq_nx (if_f t1 rfl) (seq_nx (if_f t4 rfl) ?_)
  exact ret_fz (v_call0 (a_cons (v_call0 (a_cons (v_var rfl) a_nil) a1) (a_cons (v_call0 (a_cons (v_var rfl) a_nil) a2) a_nil)) e)
theorem e_shortened {h p : Wd} (pne : p ≠ []) (hl : h.length ≤ 500) (pl : p.length ≤ 500) : ∃ h' p' : Wd, φ_shortened [dW h, dW p] = some (.val (.tup [dW h', dW p']), []) ∧ φ_need_endless [dW h, dW p] = some (.val (.tup [dW h', dW p']), []) ∧ ShOk h p h' p' := by
  obtain ⟨h', p', e, S⟩ := e_need_endless pne hl pl
  refine ⟨h', p', ?_, e, S⟩
  refine phi_rt (ρ := ⟨false, [.fz (dW h), .fz (dW p)]⟩) ?_ rfl
  show g_shortened ⟨false, [.fz (dW h), .fz (dW p)]⟩ = _
  unfold g_shortened
  exact ret_fz (v_call0 (a_cons (v_var rfl) (a_cons (v_var rfl) a_nil)) e)
/-- is_beyond tells the order -/
theorem e_is_beyond {h p : Wd} (pne : p ≠ []) (hl : h.length ≤ 400) (pl : p.length ≤ 400) (s : Sla) (hs : NameOk s) : ∃ b : Bool, φ_is_beyond [dS s, dW h, dW p] = some (.val (.bl b), []) ∧ (b = true ↔ Bey s (om h p)) := by
  obtain ⟨h', p', e, S⟩ := e_need_endless (h := h) (p := p) pne (by omega) (by omega)
  have l1 := S.pl
  have l2 := S.hl
  have vo : VOk s := ⟨fun v hv => by
    subst hv
    have hs : Pok (runs v) := hs
    exact ⟨hs.len, fun r hr => Nat.lt_of_le_of_lt (hs.one r hr).2 (by decide +kernel)⟩⟩
  obtain ⟨b, e2, hb⟩ := e_beyond_in S.short (by omega) (by omega) s vo
  refine ⟨b, ?_, by rw [hb, S.om]⟩
  have e3 := e_need_name hs
  refine phi_rt (ρ := ⟨false, [.fz (dS s), .fz (dW h), .fz (dW p), .fz (dS s), .fz (.tup [dW h', dW p'])]⟩) ?_ rfl
  show g_is_beyond ⟨false, [.fz (dS s), .fz (dW h), .fz (dW p), .un, .un]⟩ = _
  unfold g_is_beyond
  refine seq_nx (set_fz (v_call (a_cons (v_var rfl) a_nil) e3) rfl) ?_
  refine seq_nx (set_fz (v_call0 (a_cons (v_var rfl) (a_cons (v_var rfl) a_nil)) e) rfl) ?_
  exact ret_fz (v_call0 (a_cons (v_var rfl) (a_cons (v_ix (v_var rfl) v_c (atI_0 _ _)) (a_cons (v_ix (v_var rfl) v_c (atI_1 _ _ _)) a_nil))) e2)
end W
end

section
set_option Elab.async false
set_option linter.all false
set_option maxRecDepth 100000
set_option maxHeartbeats 4000000
namespace W
open DL Lim
theorem star' {ga : GE} {gs : GA} {ρ ρ1 ρ2 : Ev} {d : D} {xs ds : List D} (h1 : ga ρ = some (.fz d, ρ1)) (hx : itemsOf d = some xs) (h2 : gs ρ1 = some (ds, ρ2)) : aStar ga gs ρ = some (xs ++ ds, ρ2) := by
  simp only [aStar, h1, Option.bind_some, dat, hx, h2, Option.map_some]
theorem lst' {gs : GA} {ρ ρ1 : Ev} {ds : List D} (h1 : gs ρ = some (ds, ρ1)) (hl : ds.length ≤ 16777216) : gLst gs ρ = some (.nw ds, ρ1) := by
  simp only [gLst, h1, Option.bind_some, hl, if_true]
def sideOf (h : Wd) (x : Bool) : Sla := if h = [] then (if x then .north else .east) else .word h.dropLast
theorem e_side_name {h : Wd} (x : Bool) (hl : h.length ≤ 1000) : φ_side_name [dW h, .str [cc x]] = some (.val (dS (sideOf h x)), []) := by
  have rl := runs_len_le h
  have eqn := oEq_drs false (runs h) []
  simp only [List.map_nil, Bool.false_eq_true, if_false] at eqn
  have t1 := t_b (v_bin (op := oEq false) (ga := gVar 0) (gb := gTup aNil) (ρ := ⟨false, [.fz (dW h), .fz (.str [cc x])]⟩) (v_var rfl) (v_tup a_nil (by simp)) eqn)
  rcases snoc_cases (runs h) with q | ⟨a, ⟨y, m⟩, q⟩
  · have hn : h = [] := by rw [← ex_runs h, q]; rfl
    rw [decide_eq_true q] at t1
    have o := oEq_str false x
    simp only [Bool.false_eq_true, if_false] at o
    have t2 := t_b (v_bin (op := oEq false) (ga := gVar 1) (gb := gC k_B) (ρ := ⟨false, [.fz (dW h), .fz (.str [cc x])]⟩) (v_var rfl) v_c o)
    refine phi_rt (ρ := ⟨false, [.fz (dW h), .fz (.str [cc x])]⟩) ?_ rfl
    show g_side_name ⟨false, [.fz (dW h), .fz (.str [cc x])]⟩ = _
    unfold g_side_name
    refine seq_rt (if_t t1 ?_)
    have es : sideOf h x = if x then .north else .east := by unfold sideOf; rw [if_pos hn]
    rw [es]
    cases x
    · exact ret_fz (v_ifF t2 v_c)
    · exact ret_fz (v_ifT t2 v_c)
  · have hne : h ≠ [] := fun z => by rw [z] at q; simp [runs] at q
    have dn : decide (runs h = []) = false := decide_eq_false (by rw [q]; simp)
    rw [dn] at t1
    have ca := can_runs h
    rw [q] at ca
    obtain ⟨ca1, m1, adj⟩ := Can.app.mp ca
    simp only at m1
    have eh : h = ex a ++ List.replicate m y := by rw [← ex_runs h, q, ex_snoc]
    have ed : h.dropLast = ex (a ++ [(y, m - 1)]) := by
      obtain ⟨j, rfl⟩ : ∃ j, m = j + 1 := ⟨m - 1, by omega⟩
      rw [ex_snoc, eh, List.replicate_succ', ← List.append_assoc, List.dropLast_concat]
      simp
    have hro := e_runs_of (rs := a ++ [(y, m - 1)]) (by rw [q] at rl; simp at rl ⊢; omega)
    rw [← ed] at hro
    have v0 : Ev1 (gVar 0) ⟨false, [.fz (dW h), .fz (.str [cc x])]⟩ (.tup ((a ++ [(y, m)]).map dr)) := by rw [dW, q]; exact v_var rfl
    have neg1 : ∀ ρ : Ev, EvI (gUn oNeg (gC (.int 1))) ρ (-1) := fun ρ => v_un v_c rfl
    have vl : Ev1 (gBin oIx (gVar 0) (gUn oNeg (gC (.int 1)))) ⟨false, [.fz (dW h), .fz (.str [cc x])]⟩ (dr (y, m)) := v_ix v0 (neg1 _) (by rw [List.map_append]; exact atI_m1 _ _)
    have vs : Ev1 (gSl (gVar 0) gNoP (gP (gUn oNeg (gC (.int 1))))) ⟨false, [.fz (dW h), .fz (.str [cc x])]⟩ (.tup (a.map dr)) := by
      have := v_slT v0 p_no (p_i (neg1 _))
      rw [cut_init, List.map_append] at this
      simp only [List.map_cons, List.map_nil, List.dropLast_concat] at this
      exact this
    have vt : Ev1 (gTup (aCons (gBin oIx (gBin oIx (gVar 0) (gUn oNeg (gC (.int 1)))) (gC (.int 0))) (aCons (gBin (oI fun i j => some (i - j)) (gBin oIx (gBin oIx (gVar 0) (gUn oNeg (gC (.int 1)))) (gC (.int 1))) (gC (.int 1))) aNil))) ⟨false, [.fz (dW h), .fz (.str [cc x])]⟩ (dr (y, m - 1)) := by
      have : dr (y, m - 1) = .tup [.str [cc y], .int ((m : Int) - 1)] := by
        have : ((m - 1 : Nat) : Int) = (m : Int) - 1 := by omega
        simp [dr, this]
      rw [this]
      exact v_tup (a_cons (v_ix (l := [.str [cc y], .int m]) vl v_c (atI_0 _ _)) (a_cons (v_sub (v_ix (l := [.str [cc y], .int m]) vl v_c (atI_1 _ _ _)) v_c) a_nil)) (by simp)
    have vL : gLst (aStar (gSl (gVar 0) gNoP (gP (gUn oNeg (gC (.int 1))))) (aCons (gTup (aCons (gBin oIx (gBin oIx (gVar 0) (gUn oNeg (gC (.int 1)))) (gC (.int 0))) (aCons (gBin (oI fun i j => some (i - j)) (gBin oIx (gBin oIx (gVar 0) (gUn oNeg (gC (.int 1)))) (gC (.int 1))) (gC (.int 1))) aNil))) aNil)) ⟨false, [.fz (dW h), .fz (.str [cc x])]⟩ = some (.nw ((a ++ [(y, m - 1)]).map dr), ⟨false, [.fz (dW h), .fz (.str [cc x])]⟩) := by
      have al : a.length + 1 ≤ 16777216 := by rw [q] at rl; simp at rl; omega
      rw [List.map_append]
      exact lst' (star' vs rfl (a_cons' vt rfl)) (by simpa using al)
    refine phi_rt (ρ := ⟨false, [.fz (dW h), .fz (.str [cc x])]⟩) ?_ rfl
    show g_side_name ⟨false, [.fz (dW h), .fz (.str [cc x])]⟩ = _
    unfold g_side_name
    refine seq_nx (if_f t1 rfl) ?_
    have es : sideOf h x = .word h.dropLast := by unfold sideOf; rw [if_neg hne]
    rw [es]
    refine ret_fz ?_
    simp only [gCallX, aCons, vL, Option.bind_some, frz, aNil, Option.map_some, List.append_nil, hro, RF.res]
    rfl
end W
end

section
set_option Elab.async false
set_option linter.all false
set_option maxRecDepth 100000
set_option maxHeartbeats 4000000
namespace W
open DL Lim
def sSlant : List Nat := [115, 108, 97, 110, 116]
def sRoot : List Nat := [114, 111, 111, 116]
/-- a slant limit -/
theorem e_limit_slant {h p : Wd} (pne : p ≠ []) (hl : h.length ≤ 400) (pl : p.length ≤ 400) {x : Bool} (hx : ∀ y ∈ p, y = x) :
    ∃ h' : Wd, φ_limit_of [dW h, dW p] = some (.val (.tup [.str sSlant, dS (sideOf h' x)]), []) ∧ φ_need_endless [dW h, dW p] = some (.val (.tup [dW h', dW [x]]), []) ∧ Short h' [x] ∧ om h' [x] = om h p ∧ h'.length ≤ h.length + p.length := by
  obtain ⟨h', p', e, S⟩ := e_need_endless (h := h) (p := p) pne (by omega) (by omega)
  have p'x : p' = [x] := single_of S.short (fun y hy => hx y (mem_of_om S.short.ne pne S.om hy))
  subst p'x
  have l2 := S.hl
  have es := e_side_name (h := h') x (by omega)
  refine ⟨h', ?_, e, S.short, S.om, S.hl⟩
  refine phi_rt (ρ := ⟨false, [.fz (dW h), .fz (dW p), .fz (.tup [dW h', dW [x]]), .un, .un, .un, .un]⟩) ?_ rfl
  show g_limit_of ⟨false, [.fz (dW h), .fz (dW p), .un, .un, .un, .un, .un]⟩ = _
  unfold g_limit_of
  refine seq_nx (set_fz (v_call0 (a_cons (v_var rfl) (a_cons (v_var rfl) a_nil)) e) rfl) ?_
  have v1 : Ev1 (gBin oIx (gVar 2) (gC (.int 1))) ⟨false, [.fz (dW h), .fz (dW p), .fz (.tup [dW h', dW [x]]), .un, .un, .un, .un]⟩ (.tup [.tup [.str [cc x], .int 1]]) := v_ix (l := [dW h', dW [x]]) (v_var rfl) v_c (atI_1 _ _ _)
  have v0 : Ev1 (gBin oIx (gVar 2) (gC (.int 0))) ⟨false, [.fz (dW h), .fz (dW p), .fz (.tup [dW h', dW [x]]), .un, .un, .un, .un]⟩ (dW h') := v_ix (l := [dW h', dW [x]]) (v_var rfl) v_c (atI_0 _ _)
  have t1 := t_b (v_eqI false (v_un v1 (op := oLen) (d := .int 1) rfl) (v_c (d := .int 1)))
  refine seq_rt (if_t t1 ?_)
  exact ret_fz (v_tup (a_cons v_c (a_cons (v_call0 (a_cons v0 (a_cons (v_ix (v_ix v1 v_c (atI_0 _ _)) v_c (atI_0 _ _)) a_nil)) es) a_nil)) (by simp))
end W
end

section
set_option Elab.async false
set_option linter.all false
set_option maxRecDepth 100000
set_option maxHeartbeats 4000000
namespace W
open DL Lim
theorem sm_eq2 {h p : Wd} (h1 : h.length < 100) (h2 : p.length < 100) : SmE 600 (eq2 h p) := by
  obtain ⟨sa, sb, sc, sd⟩ := sm_mat h1
  obtain ⟨tA, tB, tC, tD⟩ := sm_mat h2
  have two : Sm 2 (2 : Int) := by unfold Sm; decide
  have tm : Sm 101 ((mat p).d - (mat p).a) := tD.sub tA (by decide)
  refine ⟨?_, ?_, ?_⟩
  · have k1 : Sm 300 ((mat p).c * (mat h).d * (mat h).d) := (tC.mul sd (k := 200) (by decide)).mul sd (by decide)
    have k2 : Sm 301 (((mat p).d - (mat p).a) * (mat h).c * (mat h).d) := (tm.mul sc (k := 201) (by decide)).mul sd (by decide)
    have k3 : Sm 300 ((mat p).b * (mat h).c * (mat h).c) := (tB.mul sc (k := 200) (by decide)).mul sc (by decide)
    exact (((k1.mono (by decide)).sub k2 (k := 302) (by decide)).sub (k3.mono (by decide)) (k := 303) (by decide)).mono (by decide)
  · have k1 : Sm 302 (((mat p).d - (mat p).a) * ((mat h).a * (mat h).d + (mat h).b * (mat h).c)) := tm.mul ((sa.mul sd (k := 200) (by decide)).add (sb.mul sc (by decide)) (k := 201) (by decide)) (by decide)
    have k2 : Sm 302 (2 * (mat p).c * (mat h).b * (mat h).d) := ((two.mul tC (k := 102) (by decide)).mul sb (k := 202) (by decide)).mul sd (by decide)
    have k3 : Sm 302 (2 * (mat p).b * (mat h).a * (mat h).c) := ((two.mul tB (k := 102) (by decide)).mul sa (k := 202) (by decide)).mul sc (by decide)
    exact ((k1.sub k2 (k := 303) (by decide)).add (k3.mono (by decide)) (k := 304) (by decide)).mono (by decide)
  · have k1 : Sm 300 ((mat p).c * (mat h).b * (mat h).b) := (tC.mul sb (k := 200) (by decide)).mul sb (by decide)
    have k2 : Sm 301 (((mat p).d - (mat p).a) * (mat h).a * (mat h).b) := (tm.mul sa (k := 201) (by decide)).mul sb (by decide)
    have k3 : Sm 300 ((mat p).b * (mat h).a * (mat h).a) := (tB.mul sa (k := 200) (by decide)).mul sa (by decide)
    exact (((k1.mono (by decide)).sub k2 (k := 302) (by decide)).sub (k3.mono (by decide)) (k := 303) (by decide)).mono (by decide)
theorem sm_low {k : Nat} {G : Eqn} {s : Int} {L : Eqn} (hs : s ≠ 0) (e : G = Eqn.smul s L) (h : SmE k G) : SmE k L := by
  have key : ∀ x : Int, x.natAbs ≤ (s * x).natAbs := fun x => by
    rw [Int.natAbs_mul]
    exact Nat.le_mul_of_pos_left _ (Int.natAbs_pos.mpr hs)
  subst e
  exact ⟨h.a.le (key _), h.b.le (key _), h.c.le (key _)⟩
theorem SmE.mono {j k : Nat} {G : Eqn} (h : SmE j G) (hk : j ≤ k) : SmE k G := ⟨h.a.mono hk, h.b.mono hk, h.c.mono hk⟩
/-- the criterion as the law reckons it -/
def crit (g : Bool) (G : Eqn) (v : Int × Int) : Bool := if g then decide (0 < G.m v) && decide (0 < G.at v) else decide (0 < G.m v) || decide (G.at v < 0)
theorem crit_iff {g : Bool} {P : Prop} {G : Eqn} {v : Int × Int} (h : g = true ↔ P) : crit g G v = true ↔ Crit P G v := by
  cases g
  · have np : ¬ P := fun z => by have := h.mpr z; cases this
    simp [crit, Crit, np]
  · have p : P := h.mp rfl
    simp [crit, Crit, p]
end W
end

section
set_option Elab.async false
set_option linter.all false
set_option maxRecDepth 100000
set_option maxHeartbeats 4000000
namespace W
open DL Lim
theorem par_fz {i j : Nat} {ga gb : GE} {ρ : Ev} {d1 d2 : D} (h1 : Ev1 ga ρ d1) (h2 : Ev1 gb ρ d2) (hio : ρ.io = false) : sPar i j ga gb ρ = some (.nx ((ρ.put j (.fz d2)).put i (.fz d1))) := by
  unfold Ev1 at *
  have h3 : (ρ.put j (.fz d2)).io = false := hio
  simp only [sPar, h1, h2, unb, Option.bind_some, setR, hio, h3, Bool.false_and, Bool.false_eq_true, if_false, Option.map_some]
/-- it hands back r -/
def Rt (g : GS) (ρ : Ev) (r : RF) : Prop := ∃ ρ', g ρ = some (.rt r ρ')
section
variable {g h : GS} {ρ ρ1 : Ev} {r : RF} {c : GT} {ge : GE} {d : D}
theorem rt_seq (h1 : g ρ = some (.nx ρ1)) (h2 : Rt h ρ1 r) : Rt (sSeq g h) ρ r := by
  obtain ⟨ρ', e⟩ := h2
  exact ⟨ρ', seq_nx h1 e⟩
theorem rt_now (h1 : Rt g ρ r) : Rt (sSeq g h) ρ r := by
  obtain ⟨ρ', e⟩ := h1
  exact ⟨ρ', seq_rt e⟩
theorem rt_ifT (hc : c ρ = some (true, ρ1)) (h1 : Rt g ρ1 r) : Rt (sIf c g h) ρ r := by
  obtain ⟨ρ', e⟩ := h1
  exact ⟨ρ', if_t hc e⟩
theorem rt_ifF (hc : c ρ = some (false, ρ1)) (h1 : Rt h ρ1 r) : Rt (sIf c g h) ρ r := by
  obtain ⟨ρ', e⟩ := h1
  exact ⟨ρ', if_f hc e⟩
theorem rt_ret (h1 : ge ρ = some (.fz d, ρ1)) : Rt (sRet ge) ρ (.val d) := ⟨ρ1, ret_fz h1⟩
theorem phi_Rt {m n : Nat} {ds : List D} (h1 : Rt g (env0 false n ds) r) (hl : ds.length = m) : phiP m n g ds = some (r, []) := by
  obtain ⟨ρ', e⟩ := h1
  exact phi_rt e hl
end
/-- the sign of the greater root -/
def gr (h p : Wd) : Bool := decide (0 < (eq2 h p).a)
def rootD (h p : Wd) : D := .tup [.str sRoot, dE (low (eq2 h p)), .bl (gr h p)]
theorem gr_s {h p : Wd} {s : Int} (S : Setup h p (low (eq2 h p)) s) : 0 < (eq2 h p).a ↔ 0 < s := by
  have e : eq2 h p = Eqn.smul s (low (eq2 h p)) := S.eq
  have ea : (eq2 h p).a = s * (low (eq2 h p)).a := congrArg Eqn.a e
  have pos := S.pos
  have ne := S.ne
  rw [ea]
  constructor
  · intro z
    rcases Int.lt_or_le 0 s with y | y
    · exact y
    · exfalso
      have := Int.mul_nonpos_of_nonpos_of_nonneg y (Int.le_of_lt pos)
      omega
  · intro z; exact Int.mul_pos z pos
theorem root_om {h p h' p' : Wd} (ha : false ∈ p) (hb : true ∈ p) (ha' : false ∈ p') (hb' : true ∈ p') (e : om h p = om h' p') : rootD h p = rootD h' p' := by
  have n1 := (root_facts (h := h) ha hb).1
  have n2 := (root_facts (h := h') ha' hb').1
  have pne : p ≠ [] := fun z => by rw [z] at ha; cases ha
  have pne' : p' ≠ [] := fun z => by rw [z] at ha'; cases ha'
  have el := low_om pne pne' e n1 n2
  have eg : gr h p = gr h' p' := by
    obtain ⟨l, l', l1, l2, el⟩ := eq2_of_om pne pne' e
    have ea : l * (eq2 h p).a = l' * (eq2 h' p').a := congrArg Eqn.a el
    unfold gr
    apply decide_eq_decide.mpr
    constructor
    · intro z
      exact pos_of_mul l2 (by rw [← ea]; exact Int.mul_pos l1 z)
    · intro z
      exact pos_of_mul l1 (by rw [ea]; exact Int.mul_pos l2 z)
  unfold rootD
  rw [el, eg]
theorem e_limit_root {h p : Wd} (ha : false ∈ p) (hb : true ∈ p) (hl : h.length + 2 * p.length ≤ 80) : φ_limit_of [dW h, dW p] = some (.val (rootD h p), []) := by
  have pne : p ≠ [] := fun z => by rw [z] at ha; cases ha
  obtain ⟨h', p', e, S⟩ := e_need_endless (h := h) (p := p) pne (by omega) (by omega)
  have l1 := S.pl
  have l2 := S.hl
  have pne' := S.short.ne
  have ha' := mem_of_om pne pne' S.om.symm ha
  have hb' := mem_of_om pne pne' S.om.symm hb
  rw [root_om ha hb ha' hb' S.om.symm]
  obtain ⟨n1, lw, dpos, _, s, St⟩ := root_facts (h := h') ha' hb'
  have gs := gr_s St
  have sz := sm_low St.ne St.eq (sm_eq2 (h := h') (p := p') (by omega) (by omega))
  have q1 := e_letters_in (w := h') (by omega)
  have q2 := e_letters_in (w := p') (by omega)
  have q3 := e_equation_of (h := h') (p := p') (by omega) (by omega) n1
  have hroot : rootD h' p' = .tup [.str sRoot, dE (low (eq2 h' p')), .bl (gr h' p')] := rfl
  generalize low (eq2 h' p') = G at *
  have rl : ((runs p').length : Int) ≠ 1 := by
    intro z
    obtain ⟨x, hx⟩ := (runs_one_iff pne').mp (by omega)
    have := (hx _ ha').trans (hx _ hb').symm
    cases this
  have e1 : (((runs p').length : Int) == 1) = false := beq_eq_false_iff_ne.mpr rl
  have two : Sm 2 (2 : Int) := by unfold Sm; decide
  have c1 := two.cMul sz.a
  have t5 : (dW p' : D) = .tup ((runs p').map dr) := rfl
  refine phi_Rt ?_ rfl
  show Rt g_limit_of ⟨false, [.fz (dW h), .fz (dW p), .un, .un, .un, .un, .un]⟩ _
  unfold g_limit_of
  refine rt_seq (set_fz (v_call0 (a_cons (v_var rfl) (a_cons (v_var rfl) a_nil)) e) rfl) ?_
  show Rt _ ⟨false, [.fz (dW h), .fz (dW p), .fz (.tup [dW h', dW p']), .un, .un, .un, .un]⟩ _
  have v1 : ∀ x y z w : Sl, Ev1 (gBin oIx (gVar 2) (gC (.int 1))) ⟨false, [.fz (dW h), .fz (dW p), .fz (.tup [dW h', dW p']), x, y, z, w]⟩ (dW p') := fun _ _ _ _ => v_ix (l := [dW h', dW p']) (v_var rfl) v_c (atI_1 _ _ _)
  have v0 : ∀ x y z w : Sl, Ev1 (gBin oIx (gVar 2) (gC (.int 0))) ⟨false, [.fz (dW h), .fz (dW p), .fz (.tup [dW h', dW p']), x, y, z, w]⟩ (dW h') := fun _ _ _ _ => v_ix (l := [dW h', dW p']) (v_var rfl) v_c (atI_0 _ _)
  have t1 := t_b (v_eqI false (i := (runs p').length) (v_un (v1 .un .un .un .un) (op := oLen) (by simp only [oLen, dW, List.length_map])) (v_c (d := .int 1)))
  simp only [Bool.false_eq_true, if_false, e1] at t1
  refine rt_seq (if_f t1 rfl) ?_
  have t2 := t_b (v_cmp (p := fun i j => decide (j < i)) (v_add (v_call0 (a_cons (v0 .un .un .un .un) a_nil) q1) (v_call0 (a_cons (v1 .un .un .un .un) a_nil) q2)) (v_c (d := .int 80)))
  have e2 : decide ((80 : Int) < (h'.length : Int) + (p'.length : Int)) = false := decide_eq_false (by omega)
  simp only [e2] at t2
  refine rt_seq (if_f t2 rfl) ?_
  refine rt_seq (set_fz (v_call0 (a_cons (v0 _ _ _ _) (a_cons (v1 _ _ _ _) a_nil)) q3) rfl) ?_
  show Rt _ ⟨false, [.fz (dW h), .fz (dW p), .fz (.tup [dW h', dW p']), .fz (dE G), .un, .un, .un]⟩ _
  refine rt_seq (par_fz (v_sub v_c (v_ix (l := [.int G.a, .int G.b, .int G.c]) (v_var rfl) v_c (atI_1 _ _ _))) (v_mul v_c (v_ix (l := [.int G.a, .int G.b, .int G.c]) (v_var rfl) v_c (atI_0 _ _)) c1) rfl) ?_
  show Rt _ ⟨false, [.fz (dW h), .fz (dW p), .fz (.tup [dW h', dW p']), .fz (dE G), .fz (.int (0 - G.b)), .fz (.int (2 * G.a)), .un]⟩ _
  have t3 := t_b (v_cmp (p := fun i j => decide (i ≤ j)) (ga := gVar 4) (gb := gC (.int 0)) (ρ := ⟨false, [.fz (dW h), .fz (dW p), .fz (.tup [dW h', dW p']), .fz (dE G), .fz (.int (0 - G.b)), .fz (.int (2 * G.a)), .un]⟩) (v_var rfl) v_c)
  have gpos := St.pos
  by_cases hb0 : 0 ≤ G.b
  · have sp := St.no_mean hb0
    have e3 : decide (0 - G.b ≤ 0) = true := decide_eq_true (by omega)
    simp only [e3] at t3
    refine rt_now (rt_ifT t3 ?_)
    rw [hroot, show gr h' p' = true from decide_eq_true (gs.mpr sp)]
    exact rt_ret (v_tup (a_cons v_c (a_cons (v_var rfl) (a_cons v_c a_nil))) (by simp))
  · have e3 : decide (0 - G.b ≤ 0) = false := decide_eq_false (by omega)
    simp only [e3] at t3
    refine rt_seq (if_f t3 rfl) ?_
    have sT : Sm 601 (0 - G.b) := by rw [Int.zero_sub]; exact sz.b.neg.mono (by decide)
    have sB : Sm 602 (2 * G.a) := two.mul sz.a (by decide)
    have q4 := e_common (0 - G.b) (2 * G.a) (sB.mono (by decide))
    generalize hg : Nat.gcd (0 - G.b).natAbs (2 * G.a).natAbs = g at q4
    have d1 : (g : Int) ∣ (0 - G.b) := Int.ofNat_dvd_left.mpr (hg ▸ Nat.gcd_dvd_left _ _)
    have d2 : (g : Int) ∣ (2 * G.a) := Int.ofNat_dvd_left.mpr (hg ▸ Nat.gcd_dvd_right _ _)
    have g0 : 0 < g := by rw [← hg]; exact Nat.gcd_pos_of_pos_left _ (by omega)
    obtain ⟨q, hq⟩ := d1
    obtain ⟨m, hm⟩ := d2
    have gi : (0 : Int) < (g : Int) := by omega
    have q1' : 1 ≤ q := pos_of_mul gi (by omega)
    have m1' : 1 ≤ m := pos_of_mul gi (by omega)
    have kq : q ≤ (g : Int) * q := by have := Int.mul_le_mul_of_nonneg_right (show (1 : Int) ≤ g by omega) (show 0 ≤ q by omega); omega
    have km : m ≤ (g : Int) * m := by have := Int.mul_le_mul_of_nonneg_right (show (1 : Int) ≤ g by omega) (show 0 ≤ m by omega); omega
    have kg : (g : Int) ≤ (g : Int) * m := by have := Int.mul_le_mul_of_nonneg_left m1' (show 0 ≤ (g : Int) by omega); omega
    have sq : Sm 601 q := sT.le (by omega)
    have sm : Sm 602 m := sB.le (by omega)
    have sg : Sm 602 (g : Int) := sB.le (by omega)
    have lg := sg.log
    rw [Int.natAbs_natCast] at lg
    have f1 : fFdiv (2 * G.a) g = some m := by
      unfold fFdiv
      rw [if_pos ⟨by omega, by rw [Int.natAbs_natCast]; exact lg⟩, hm, Int.mul_fdiv_cancel_left _ (by omega)]
    have f2 : fFdiv (0 - G.b) g = some q := by
      unfold fFdiv
      rw [if_pos ⟨by omega, by rw [Int.natAbs_natCast]; exact lg⟩, hq, Int.mul_fdiv_cancel_left _ (by omega)]
    have cop : Cop (m, q) := by
      obtain ⟨x, y, exy⟩ := bezout (0 - G.b).natAbs (2 * G.a).natAbs
      rw [hg, Int.natAbs_of_nonneg (by omega), Int.natAbs_of_nonneg (by omega), hq, hm] at exy
      refine ⟨y, x, ?_⟩
      have : (g : Int) * (y * m + x * q) = g * 1 := by
        have e3 : (g : Int) * (y * m + x * q) = x * (g * q) + y * (g * m) := by grind
        rw [e3, exy, Int.mul_one]
      exact Int.eq_of_mul_eq_mul_left (by omega) this
    obtain ⟨w, w1, w2, w3, w4⟩ := e_path_in m1' q1' cop (sm.mono (by decide)) (sq.mono (by decide))
    have vo : VOk (.word w) := ⟨fun v hv => by
      cases hv
      refine ⟨by omega, fun r hr => ?_⟩
      have := w4 r hr
      refine Sm.big ?_
      rcases this with z | z
      · exact (sm.mono (j := 602) (k := 3000) (by decide)).le (by omega)
      · exact (sq.mono (j := 601) (k := 3000) (by decide)).le (by omega)⟩
    obtain ⟨b, b1, b2⟩ := e_beyond_in S.short (by omega) (by omega) (.word w) vo
    have b3 : b = true ↔ ¬ 0 < s := by
      rw [b2, show om h' p' = app h' (per p') from rfl, bey_pr app_per ha' hb', show vec (.word w) = (m, q) from w2]
      refine St.mean dpos (show 0 < m by omega) (show 0 ≤ q by omega) ?_
      simp only [Eqn.m]
      rw [hm, show G.b = -((g : Int) * q) by omega]
      grind
    have b4 : gr h' p' = !b := by
      unfold gr
      by_cases z : 0 < s
      · rw [decide_eq_true (gs.mpr z)]
        cases b
        · rfl
        · exact absurd z (b3.mp rfl)
      · rw [decide_eq_false (fun y => z (gs.mp y))]
        rw [b3.mpr z]
        rfl
    refine rt_seq (set_fz (v_call0 (a_cons (v_var rfl) (a_cons (v_var rfl) a_nil)) q4) rfl) ?_
    show Rt _ ⟨false, [.fz (dW h), .fz (dW p), .fz (.tup [dW h', dW p']), .fz (dE G), .fz (.int (0 - G.b)), .fz (.int (2 * G.a)), .fz (.int g)]⟩ _
    rw [hroot, b4]
    refine rt_ret (v_tup (a_cons v_c (a_cons (v_var rfl) (a_cons (v_not (v_call0 (a_cons (v_call0 (a_cons (v_tup (ds := [.int m, .int q]) (a_cons (v_bin (d1 := .int (2 * G.a)) (d2 := .int g) (v_var rfl) (v_var rfl) ?_) (a_cons (v_bin (d1 := .int (0 - G.b)) (d2 := .int g) (v_var rfl) (v_var rfl) ?_) a_nil)) (by simp)) a_nil) w1) (a_cons (v0 _ _ _ _) (a_cons (v1 _ _ _ _) a_nil))) b1)) a_nil))) (by simp))
    · simp only [oI, f1, Option.map_some]
    · simp only [oI, f2, Option.map_some]
end W
end

section
set_option Elab.async false
set_option linter.all false
set_option maxRecDepth 100000
set_option maxHeartbeats 4000000
namespace W
open DL Lim
def valD : Rv → D
  | .val d => d
  | _ => .non
theorem len_dS {s : Sla} (hw : ∀ v, s = .word v → v.length ≤ 150) : ∃ n : Nat, oLen (dS s) = some (.val (.int n)) ∧ n ≤ 300 := by
  cases s with
  | east => exact ⟨4, rfl, by decide⟩
  | north => exact ⟨5, rfl, by decide⟩
  | word v =>
    have := hw v rfl
    have := runs_len_le v
    exact ⟨(runs v).length, by simp only [oLen, dS, dW, List.length_map], by omega⟩
theorem vec_le {s : Sla} (hw : ∀ v, s = .word v → v.length ≤ 150) : (vec s).1 ≤ 2 ^ 150 ∧ (vec s).2 ≤ 2 ^ 150 := by
  cases s with
  | east => decide
  | north => decide
  | word v =>
    have h1 := hw v rfl
    have h2 := back_le v
    have h3 : (2 : Int) ^ v.length ≤ 2 ^ 150 := by
      have e1 : ((2 ^ v.length : Nat) : Int) = (2 : Int) ^ v.length := by simp
      have e2 : ((2 ^ 150 : Nat) : Int) = (2 : Int) ^ 150 := by simp
      rw [← e1, ← e2]
      exact Int.ofNat_le.mpr (Nat.pow_le_pow_right (by decide) h1)
    simp only [vec]
    omega
theorem e_way_of {s : Sla} (h : NameOk s) (hw : ∀ v, s = .word v → v.length ≤ 150) : φ_way_of [dS s] = some (.val (dv2 (vec s)), []) := by
  have e1 := e_need_name h
  have e2 := e_slant_by (s := s) (fun v hv => by have := hw v hv; omega)
  obtain ⟨n, l1, l2⟩ := len_dS hw
  have vl := vec_le hw
  generalize vec s = v at *
  obtain ⟨p, q⟩ := v
  have c1 : gComp (iAny (gVar 2)) (.nm 3) gYes X_way_of_0 [3] ⟨false, [.fz (dS s), .fz (dS s), .fz (dv2 (p, q)), .un]⟩ = some (.nw ([Rv.val (.int p), Rv.val (.int q)].map valD), ⟨false, [.fz (dS s), .fz (dS s), .fz (dv2 (p, q)), .un]⟩) := by
    refine comp_w ⟨false, [.fz (dS s), .fz (dS s), .fz (dv2 (p, q)), .un]⟩ valD (items := [Rv.val (.int p), Rv.val (.int q)]) (by rfl) (by rfl) (by rfl) (by rfl) (by simp) ?_
    intro r hr
    have : ∃ z : Int, r = Rv.val (.int z) := by
      simp at hr
      rcases hr with e | e
      · exact ⟨_, e⟩
      · exact ⟨_, e⟩
    obtain ⟨z, rfl⟩ := this
    exact ⟨⟨false, [.fz (dS s), .fz (dS s), .fz (dv2 (p, q)), .fz (.int z)]⟩, by rfl, by rfl, by rfl, rfl⟩
  have c2 : Ev1 (gUn oMax (gComp (iAny (gVar 2)) (.nm 3) gYes X_way_of_0 [3])) ⟨false, [.fz (dS s), .fz (dS s), .fz (dv2 (p, q)), .un]⟩ (.int (max p q)) := by
    unfold Ev1
    simp only [gUn, c1, Option.bind_some, dat]
    rfl
  refine phi_Rt ?_ rfl
  show Rt g_way_of ⟨false, [.fz (dS s), .un, .un, .un]⟩ _
  unfold g_way_of
  refine rt_seq (set_fz (v_call (a_cons (v_var rfl) a_nil) e1) rfl) ?_
  show Rt _ ⟨false, [.fz (dS s), .fz (dS s), .un, .un]⟩ _
  have t1 := t_b (v_cmp (p := fun i j => decide (j < i)) (ga := gUn oLen (gVar 1)) (gb := gC k_MOST_TOLD) (ρ := ⟨false, [.fz (dS s), .fz (dS s), .un, .un]⟩) (j := 300) (v_un (v_var rfl) l1) v_c)
  have d1 : decide ((300 : Int) < (n : Int)) = false := decide_eq_false (by omega)
  simp only [d1] at t1
  refine rt_seq (if_f t1 rfl) ?_
  refine rt_seq (set_fz (v_call0 (a_cons (v_var rfl) a_nil) e2) rfl) ?_
  show Rt _ ⟨false, [.fz (dS s), .fz (dS s), .fz (dv2 (p, q)), .un]⟩ _
  have t2 := t_b (v_cmp (p := fun i j => decide (j < i)) (gb := gC k_MOST_NUMBER) (j := 1000000000000000000000000000000000000000000000000000000000000) c2 v_c)
  have d2 : decide ((1000000000000000000000000000000000000000000000000000000000000 : Int) < max p q) = false := by
    apply decide_eq_false
    have : (2 : Int) ^ 150 < 1000000000000000000000000000000000000000000000000000000000000 := by decide +kernel
    simp only at vl
    omega
  simp only [d2] at t2
  refine rt_seq (if_f t2 rfl) ?_
  exact rt_ret (v_var rfl)
end W
end

section
set_option Elab.async false
set_option linter.all false
set_option maxRecDepth 100000
set_option maxHeartbeats 4000000
namespace W
open DL Lim
/-! # Draws -/
def penD (cells : List Int) (t r : Int) : List D := [.lst (cells.map .int), .int t, .int r]
def IsPen (T : Int) (cs : List D) : Prop := ∃ (cells : List Int) (t r : Int), cs = penD cells t r ∧ cells.length ≤ 60 ∧ 0 ≤ t ∧ t ≤ T ∧ 0 ≤ r
theorem IsPen.mono {T T' : Int} {cs : List D} (h : IsPen T cs) (hT : T ≤ T') : IsPen T' cs := by
  obtain ⟨c, t, r, h1, h2, h3, h4, h5⟩ := h
  exact ⟨c, t, r, h1, h2, h3, by omega, h5⟩
/-- it hands back r, the list cs -/
def RtI (g : GS) (ρ : Ev) (r : RF) (cs : List D) : Prop := ∃ ρ', g ρ = some (.rt r ρ') ∧ ρ'.io = true ∧ ioC ρ' = cs
section
variable {g h : GS} {ρ ρ1 ρ2 : Ev} {r : RF} {c : GT} {ge ga gb : GE} {d d1 d2 : D} {cs cs' : List D}
theorem ri_seq (h1 : g ρ = some (.nx ρ1)) (h2 : RtI h ρ1 r cs) : RtI (sSeq g h) ρ r cs := by
  obtain ⟨ρ', e, k⟩ := h2
  exact ⟨ρ', seq_nx h1 e, k⟩
theorem ri_now (h1 : RtI g ρ r cs) : RtI (sSeq g h) ρ r cs := by
  obtain ⟨ρ', e, k⟩ := h1
  exact ⟨ρ', seq_rt e, k⟩
theorem ri_ifT (hc : c ρ = some (true, ρ1)) (h1 : RtI g ρ1 r cs) : RtI (sIf c g h) ρ r cs := by
  obtain ⟨ρ', e, k⟩ := h1
  exact ⟨ρ', if_t hc e, k⟩
theorem ri_ifF (hc : c ρ = some (false, ρ1)) (h1 : RtI h ρ1 r cs) : RtI (sIf c g h) ρ r cs := by
  obtain ⟨ρ', e, k⟩ := h1
  exact ⟨ρ', if_f hc e, k⟩
theorem ri_ret (h1 : ge ρ = some (.fz d, ρ1)) (hio : ρ1.io = true := by rfl) (hc : ioC ρ1 = cs := by rfl) : RtI (sRet ge) ρ (.val d) cs := ⟨ρ1, ret_fz h1, hio, hc⟩
theorem phi_RtI {m n : Nat} {ds : List D} (h1 : RtI g (env0 true n ds) r cs) (hl : ds.length = m) : phiI m n g ds = some (r, cs) := by
  obtain ⟨ρ', e, h2, h3⟩ := h1
  simp only [phiI, hl, if_true, e, h2, h3]
theorem v_own {i : Nat} {k : Int} (hs : ρ.sl[i]? = some (.ow cs)) (ha : L2.atI cs k = some d) : Ev1 (gBin oIx (gVar i) (gC (.int k))) ρ d := by
  unfold Ev1
  simp only [gBin, gVar, hs, gC, Option.bind_some, dat, slD, oIx, ha, Option.map_some, Rv.res]
theorem item_own {i j : Nat} {k : Int} (he : Ev1 ge ρ d) (hs : ρ.sl[i]? = some (.ow cs)) (hx : L2.ixN cs.length k = some j) : sItem (gVar i) (gC (.int k)) ge ρ = some (.nx (ρ.put i (.ow (cs.set j d)))) := by
  unfold Ev1 at he
  simp only [sItem, he, Option.bind_some, frz, gVar, hs, gC, hx, Option.map_some]
theorem call_io {φ : Phi} {i : Nat} {gs : GA} {ds : List D} (hs : ρ.sl[i]? = some (.ow cs)) (ha : EvA gs ρ ds) (hf : φ (.lst cs :: ds) = some (.val d, cs')) : gCallI φ (gVar i) gs ρ = some (.fz d, ρ.put i (.ow cs')) := by
  unfold EvA at ha
  simp only [gCallI, aIo, gVar, hs, Option.bind_some, ha, Option.map_some, hf, RF.res]
theorem bin_st {op : D → D → Option Rv} (h1 : ga ρ = some (.fz d1, ρ1)) (h2 : gb ρ1 = some (.fz d2, ρ2)) (h : op d1 d2 = some (.val d)) : gBin op ga gb ρ = some (.fz d, ρ2) := by
  simp only [gBin, h1, h2, Option.bind_some, dat, h, Option.map_some, Rv.res]
theorem tb_st {b : Bool} (h : ga ρ = some (.fz (.bl b), ρ1)) : gTb ga ρ = some (b, ρ1) := by
  simp only [gTb, h, Option.bind_some, asB, Option.map_some]
theorem ife_T {c : GT} (hc : c ρ = some (true, ρ1)) (h : ga ρ1 = some (.fz d, ρ2)) : gIfE c ga gb ρ = some (.fz d, ρ2) := by
  simp only [gIfE, hc, Option.bind_some, if_true, h]
theorem ife_F {c : GT} (hc : c ρ = some (false, ρ1)) (h : gb ρ1 = some (.fz d, ρ2)) : gIfE c ga gb ρ = some (.fz d, ρ2) := by
  simp only [gIfE, hc, Option.bind_some, Bool.false_eq_true, if_false, h]
end
theorem shp_ints (l : List Int) : shp (.lst (l.map .int)) = true := by
  have := plA_of (l := l.map D.int) (n := 0) fun d hd => by
    obtain ⟨i, _, rfl⟩ := List.mem_map.mp hd
    simp [pl, dep]
  exact shp_of (by rw [pl_lst]; exact this.1) (by rw [dep_lst]; omega)
theorem eq_nil (l : List Int) : oEq false (.lst (l.map .int)) (.lst []) = some (.val (.bl l.isEmpty)) := by
  have h1 := shp_ints l
  have h2 : shp (.lst []) = true := rfl
  simp only [oEq, h1, h2, Bool.and_self, if_true, Bool.false_eq_true, if_false]
  cases l <;> simp [deq, deqA]
theorem fMod_pos {i j : Int} (h : 0 < j) : oI fMod (.int i) (.int j) = some (.val (.int (i % j))) := by
  simp only [oI, fMod, h, if_true, Option.map_some]
theorem fFd {i j : Int} (h : 0 < j) (h2 : j < 2 ^ 64) : oI fFdiv (.int i) (.int j) = some (.val (.int (i / j))) := by
  have l : j.natAbs.log2 < 9000 := by
    have : Sm 64 j := by unfold Sm; omega
    exact this.log
  simp only [oI, fFdiv]
  rw [if_pos ⟨by omega, l⟩, Int.fdiv_eq_ediv_of_nonneg _ (by omega)]
  rfl
theorem fPw {i : Int} {n : Nat} (h : i.natAbs < 2 ^ 64) (hn : n ≤ 1000) : oI fPow (.int i) (.int (n : Int)) = some (.val (.int (i ^ n))) := by
  simp only [oI, fPow]
  rw [if_pos ⟨by omega, by omega, h⟩]
  rfl
theorem oInt_int (i : Int) : oInt (.int i) = some (.val (.int i)) := rfl
/-- a draw -/
theorem e_draw {T : Int} {cs : List D} (P : IsPen T cs) (hT : T ≤ 100000) {m : Int} (m1 : 1 ≤ m) (m2 : m ≤ 10000000000000) :
    ∃ (x : Int) (cs' : List D), φ__law_draw [.lst cs, .int m] = some (.val (.int x), cs') ∧ 0 ≤ x ∧ x < m ∧ IsPen (T + 1) cs' := by
  obtain ⟨cells, t, r, rfl, hl, t0, tT, r0⟩ := P
  have key : ∀ x cs', RtI g__law_draw ⟨true, [.ow (penD cells t r), .fz (.int m), .un, .un, .un, .un]⟩ (.val (.int x)) cs' → φ__law_draw [.lst (penD cells t r), .int m] = some (.val (.int x), cs') := fun x cs' h => phi_RtI h rfl
  have i2 : ∀ a b c : Int, ∀ l : List Int, L2.ixN (penD l a b).length 2 = some 2 := fun _ _ _ _ => rfl
  have t1 := t_b (v_cmp (p := fun i j => decide (j < i)) (v_own (i := 0) (k := 2) (ρ := ⟨true, [.ow (penD cells t r), .fz (.int m), .un, .un, .un, .un]⟩) rfl (show L2.atI (penD cells t r) 2 = some (.int r) from rfl)) (v_c (d := .int 0)))
  by_cases hr : 0 < r
  · have d1 : decide (0 < r) = true := decide_eq_true hr
    simp only [d1] at t1
    refine ⟨r % m, penD cells t (r / m), key _ _ ?_, Int.emod_nonneg _ (by omega), Int.emod_lt_of_pos _ (by omega), cells, t, r / m, rfl, hl, t0, by omega, Int.ediv_nonneg r0 (by omega)⟩
    unfold g__law_draw
    refine ri_now (ri_ifT t1 ?_)
    refine ri_seq (set_fz (v_un (v_own (i := 0) (k := 2) (ρ := ⟨true, [.ow (penD cells t r), .fz (.int m), .un, .un, .un, .un]⟩) rfl (show L2.atI (penD cells t r) 2 = some (.int r) from rfl)) (oInt_int r)) rfl) ?_
    show RtI _ ⟨true, [.ow (penD cells t r), .fz (.int m), .fz (.int r), .un, .un, .un]⟩ _ _
    refine ri_seq (item_own (cs := penD cells t r) (j := 2) (v_bin (d1 := .int r) (d2 := .int m) (v_var rfl) (v_var rfl) (fFd (by omega) (by omega))) rfl rfl) ?_
    show RtI _ ⟨true, [.ow (penD cells t (r / m)), .fz (.int m), .fz (.int r), .un, .un, .un]⟩ _ _
    exact ri_ret (v_bin (d1 := .int r) (d2 := .int m) (v_un (v_var rfl) (oInt_int r)) (v_var rfl) (fMod_pos (by omega)))
  · have d1 : decide (0 < r) = false := decide_eq_false hr
    simp only [d1] at t1
    have c4 := cMul_small (n := 40961) (by decide) t
    have c2 := cMul_small (n := 2) (by decide) t
    -- the cell
    have hc : ∃ c : Int, Ev1 (gIfE (gTb (gBin (oEq false) (gBin oIx (gVar 0) (gC (.int 0))) (gLst aNil))) (gBin oAdd (gBin oMul (gC (.int 40961)) (gVar 3)) (gC (.int 7723))) (gBin oIx (gBin oIx (gVar 0) (gC (.int 0))) (gBin (oI fMod) (gUn oInt (gVar 3)) (gUn oLen (gBin oIx (gVar 0) (gC (.int 0))))))) ⟨true, [.ow (penD cells (t + 1) r), .fz (.int m), .un, .fz (.int t), .un, .un]⟩ (.int c) := by
      have v0 : Ev1 (gBin oIx (gVar 0) (gC (.int 0))) ⟨true, [.ow (penD cells (t + 1) r), .fz (.int m), .un, .fz (.int t), .un, .un]⟩ (.lst (cells.map .int)) := v_own (i := 0) (k := 0) rfl rfl
      have te : gTb (gBin (oEq false) (gBin oIx (gVar 0) (gC (.int 0))) (gLst aNil)) ⟨true, [.ow (penD cells (t + 1) r), .fz (.int m), .un, .fz (.int t), .un, .un]⟩ = some (cells.isEmpty, ⟨true, [.ow (penD cells (t + 1) r), .fz (.int m), .un, .fz (.int t), .un, .un]⟩) := by
        have v0' := v0
        unfold Ev1 at v0'
        refine tb_st ?_
        simp only [gBin] at v0' ⊢
        rw [v0']
        simp only [gLst, aNil, Option.bind_some, List.length_nil, Nat.zero_le, if_true, dat, eq_nil, Option.map_some, Rv.res]
      by_cases hn : cells = []
      · subst hn
        refine ⟨40961 * t + 7723, v_ifT te ?_⟩
        exact v_add (v_mul v_c (v_var rfl) c4) v_c
      · have he : cells.isEmpty = false := by cases cells <;> simp_all
        rw [he] at te
        have lp : 0 < (cells.length : Int) := by have := List.length_pos_iff.mpr hn; omega
        have k0 : 0 ≤ t % (cells.length : Int) := Int.emod_nonneg _ (by omega)
        have k1 : t % (cells.length : Int) < (cells.length : Int) := Int.emod_lt_of_pos _ lp
        obtain ⟨k, hk⟩ : ∃ k : Nat, t % (cells.length : Int) = (k : Int) := ⟨(t % (cells.length : Int)).toNat, by omega⟩
        have kl : k < cells.length := by omega
        refine ⟨cells[k], v_ifF te ?_⟩
        have vm : Ev1 (gBin (oI fMod) (gUn oInt (gVar 3)) (gUn oLen (gBin oIx (gVar 0) (gC (.int 0))))) ⟨true, [.ow (penD cells (t + 1) r), .fz (.int m), .un, .fz (.int t), .un, .un]⟩ (.int (t % (cells.length : Int))) := v_bin (d1 := .int t) (d2 := .int (cells.length : Int)) (v_un (v_var rfl) (oInt_int t)) (v_un v0 (by simp only [oLen, List.length_map])) (fMod_pos lp)
        refine v_bin v0 vm ?_
        rw [hk]
        simp only [oIx, atI_nat, List.getElem?_map, List.getElem?_eq_getElem kl, Option.map_some]
    obtain ⟨c, hc⟩ := hc
    have pw18 : ∀ ρ : Ev, Ev1 (gBin (oI fPow) (gC (.int 10)) (gC (.int 18))) ρ (.int 1000000000000000000) := fun ρ => v_bin (d1 := .int 10) (d2 := .int 18) v_c v_c (by rfl)
    have pre : ∀ x cs', RtI (sSeq (sIf (gAnd (gTb (gBin (oCmpI fun i j => decide (i < j)) (gVar 3) (gUn oLen (gBin oIx (gVar 0) (gC (.int 0)))))) (gTb (gBin (oCmpI fun i j => decide (j ≤ i)) (gUn oAbs (gVar 4)) (gBin (oI fPow) (gC (.int 10)) (gC (.int 18))))))
  (sSeq (sSet 2 (gBin oAdd (gBin oMul (gC (.int 2)) (gBin (oI fun i j => some (i - j)) (gUn oAbs (gVar 4)) (gBin (oI fPow) (gC (.int 10)) (gC (.int 18))))) (gUn oInt (gBin (oCmpI fun i j => decide (i < j)) (gVar 4) (gC (.int 0))))))
  (sSeq (sItem (gVar 0) (gC (.int 2)) (gBin (oI fFdiv) (gVar 2) (gVar 1)))
  (sRet (gBin (oI fMod) (gUn oInt (gVar 2)) (gVar 1)))))
  sNx)
  (sSeq (sSet 5 (gBin (oI fMod) (gUn oInt (gBin (oI fPow) (gBin oAdd (gBin oAdd (gBin (oI fMod) (gUn oInt (gVar 4)) (gC (.int 2147483549))) (gBin oMul (gC (.int 40961)) (gVar 3))) (gC (.int 7723))) (gC (.int 5)))) (gC (.int 2147483587))))
  (sSeq (sSet 5 (gBin (oI fMod) (gUn oInt (gBin (oI fPow) (gBin oAdd (gBin oAdd (gBin oMul (gVar 5) (gBin oAdd (gBin oMul (gC (.int 2)) (gVar 3)) (gC (.int 6089)))) (gBin oMul (gBin oMul (gC (.int 40961)) (gVar 3)) (gVar 3))) (gC (.int 7723))) (gC (.int 3)))) (gC (.int 2147483629))))
  (sRet (gBin (oI fMod) (gUn oInt (gBin (oI fFdiv) (gVar 5) (gC (.int 64)))) (gVar 1)))))) ⟨true, [.ow (penD cells (t + 1) r), .fz (.int m), .un, .fz (.int t), .fz (.int c), .un]⟩ (.val (.int x)) cs' → φ__law_draw [.lst (penD cells t r), .int m] = some (.val (.int x), cs') := fun x cs' h => by
      refine key x cs' ?_
      unfold g__law_draw
      refine ri_seq (if_f t1 rfl) ?_
      refine ri_seq (set_fz (v_own (i := 0) (k := 1) (d := .int t) rfl rfl) rfl) ?_
      refine ri_seq (item_own (cs := penD cells t r) (j := 1) (v_add (i := t) (j := 1) (v_var rfl) v_c) rfl rfl) ?_
      refine ri_seq (set_fz hc rfl) ?_
      exact h
    have tl := t_b (v_cmp (p := fun i j => decide (i < j)) (ga := gVar 3) (ρ := ⟨true, [.ow (penD cells (t + 1) r), .fz (.int m), .un, .fz (.int t), .fz (.int c), .un]⟩) (v_var rfl) (v_un (v_own (i := 0) (k := 0) rfl (show L2.atI (penD cells (t + 1) r) 0 = some (.lst (cells.map .int)) from rfl)) (op := oLen) (d := .int cells.length) (by simp only [oLen, List.length_map])))
    have ta := t_b (v_cmp (p := fun i j => decide (j ≤ i)) (ga := gUn oAbs (gVar 4)) (ρ := ⟨true, [.ow (penD cells (t + 1) r), .fz (.int m), .un, .fz (.int t), .fz (.int c), .un]⟩) (v_un (v_var rfl) (oAbs_int c)) (pw18 _))
    have tt := t_and tl (fun _ => ta)
    by_cases hb : (decide (t < (cells.length : Int)) && decide ((1000000000000000000 : Int) ≤ (c.natAbs : Int))) = true
    · rw [hb] at tt
      have big1 : (1000000000000000000 : Int) ≤ (c.natAbs : Int) := by
        rw [Bool.and_eq_true] at hb
        exact of_decide_eq_true hb.2
      have hs : ∃ s : Int, 0 ≤ s ∧ Ev1 (gBin oAdd (gBin oMul (gC (.int 2)) (gBin (oI fun i j => some (i - j)) (gUn oAbs (gVar 4)) (gBin (oI fPow) (gC (.int 10)) (gC (.int 18))))) (gUn oInt (gBin (oCmpI fun i j => decide (i < j)) (gVar 4) (gC (.int 0))))) ⟨true, [.ow (penD cells (t + 1) r), .fz (.int m), .un, .fz (.int t), .fz (.int c), .un]⟩ (.int s) := by
        have ob : ∀ b : Bool, oInt (.bl b) = some (.val (.int (if b then 1 else 0))) := fun b => by cases b <;> rfl
        refine ⟨2 * ((c.natAbs : Int) - 1000000000000000000) + (if decide (c < 0) = true then 1 else 0), ?_, ?_⟩
        · split <;> omega
        · exact v_add (v_mul v_c (v_sub (v_un (v_var rfl) (oAbs_int c)) (pw18 _)) (cMul_small (n := 2) (by decide) _)) (v_un (v_cmp (v_var rfl) v_c) (ob _))
      obtain ⟨s, s0, hs⟩ := hs
      refine ⟨s % m, penD cells (t + 1) (s / m), pre _ _ ?_, Int.emod_nonneg _ (by omega), Int.emod_lt_of_pos _ (by omega), cells, t + 1, s / m, rfl, hl, by omega, by omega, Int.ediv_nonneg s0 (by omega)⟩
      refine ri_now (ri_ifT tt ?_)
      refine ri_seq (set_fz hs rfl) ?_
      refine ri_seq (item_own (cs := penD cells (t + 1) r) (j := 2) (v_bin (d1 := .int s) (d2 := .int m) (v_var rfl) (v_var rfl) (fFd (by omega) (by omega))) rfl rfl) ?_
      exact ri_ret (v_bin (d1 := .int s) (d2 := .int m) (v_un (v_var rfl) (oInt_int s)) (v_var rfl) (fMod_pos (by omega)))
    · have hb' : (decide (t < (cells.length : Int)) && decide ((1000000000000000000 : Int) ≤ (c.natAbs : Int))) = false := by simpa using hb
      rw [hb'] at tt
      have h1 : ∃ v : Int, 0 ≤ v ∧ v < 2147483587 ∧ Ev1 (gBin (oI fMod) (gUn oInt (gBin (oI fPow) (gBin oAdd (gBin oAdd (gBin (oI fMod) (gUn oInt (gVar 4)) (gC (.int 2147483549))) (gBin oMul (gC (.int 40961)) (gVar 3))) (gC (.int 7723))) (gC (.int 5)))) (gC (.int 2147483587))) ⟨true, [.ow (penD cells (t + 1) r), .fz (.int m), .un, .fz (.int t), .fz (.int c), .un]⟩ (.int v) := by
        have a0 : 0 ≤ c % 2147483549 := Int.emod_nonneg _ (by omega)
        have a1 : c % 2147483549 < 2147483549 := Int.emod_lt_of_pos _ (by omega)
        refine ⟨(c % 2147483549 + 40961 * t + 7723) ^ 5 % 2147483587, Int.emod_nonneg _ (by omega), Int.emod_lt_of_pos _ (by omega), ?_⟩
        refine v_bin (d1 := .int ((c % 2147483549 + 40961 * t + 7723) ^ 5)) (d2 := .int 2147483587) (v_un (v_bin (d1 := .int (c % 2147483549 + 40961 * t + 7723)) (d2 := .int ((5 : Nat) : Int)) (v_add (v_add (v_bin (d1 := .int c) (d2 := .int 2147483549) (v_un (v_var rfl) (oInt_int c)) v_c (fMod_pos (by omega))) (v_mul v_c (v_var rfl) c4)) v_c) v_c (fPw (by omega) (by omega))) (oInt_int _)) v_c (fMod_pos (by omega))
      obtain ⟨v, v0, v1, h1⟩ := h1
      have h2 : ∃ u : Int, Ev1 (gBin (oI fMod) (gUn oInt (gBin (oI fPow) (gBin oAdd (gBin oAdd (gBin oMul (gVar 5) (gBin oAdd (gBin oMul (gC (.int 2)) (gVar 3)) (gC (.int 6089)))) (gBin oMul (gBin oMul (gC (.int 40961)) (gVar 3)) (gVar 3))) (gC (.int 7723))) (gC (.int 3)))) (gC (.int 2147483629))) ⟨true, [.ow (penD cells (t + 1) r), .fz (.int m), .un, .fz (.int t), .fz (.int c), .fz (.int v)]⟩ (.int u) := by
        have sv : Sm 32 v := by unfold Sm; omega
        have st : Sm 17 t := by unfold Sm; omega
        have s2 : Sm 19 (2 * t + 6089) := by unfold Sm; omega
        have s4 : Sm 33 (40961 * t) := by unfold Sm; omega
        have p1 := sv.mul s2 (k := 51) (by decide)
        have p2 := s4.mul st (k := 50) (by decide)
        have s3 : (v * (2 * t + 6089) + 40961 * t * t + 7723).natAbs < 2 ^ 64 := by
          unfold Sm at p1 p2
          omega
        refine ⟨(v * (2 * t + 6089) + 40961 * t * t + 7723) ^ 3 % 2147483629, ?_⟩
        exact v_bin (d1 := .int ((v * (2 * t + 6089) + 40961 * t * t + 7723) ^ 3)) (d2 := .int 2147483629) (v_un (v_bin (d1 := .int (v * (2 * t + 6089) + 40961 * t * t + 7723)) (d2 := .int ((3 : Nat) : Int)) (v_add (v_add (v_mul (v_var rfl) (v_add (v_mul v_c (v_var rfl) c2) v_c) (sv.cMul s2)) (v_mul (v_mul v_c (v_var rfl) c4) (v_var rfl) (s4.cMul st))) v_c) v_c (fPw s3 (by omega))) (oInt_int _)) v_c (fMod_pos (by omega))
      obtain ⟨u, h2⟩ := h2
      refine ⟨(u / 64) % m, penD cells (t + 1) r, pre _ _ ?_, Int.emod_nonneg _ (by omega), Int.emod_lt_of_pos _ (by omega), cells, t + 1, r, rfl, hl, by omega, by omega, r0⟩
      refine ri_seq (if_f tt rfl) ?_
      refine ri_seq (set_fz h1 rfl) ?_
      refine ri_seq (set_fz h2 rfl) ?_
      exact ri_ret (v_bin (d1 := .int (u / 64)) (d2 := .int m) (v_un (v_bin (d1 := .int u) (d2 := .int 64) (v_var rfl) v_c (fFd (by omega) (by omega))) (oInt_int _)) (v_var rfl) (fMod_pos (by omega)))
end W
end

section
set_option Elab.async false
set_option linter.all false
set_option maxRecDepth 100000
set_option maxHeartbeats 4000000
namespace W
open DL Lim
/-! # Drawn letters -/
theorem two_of {x : Int} (h0 : 0 ≤ x) (h1 : x < 2) : x = 0 ∨ x = 1 := by omega
/-- one of two letters -/
theorem e_pick {T : Int} {cs : List D} (P : IsPen T cs) (hT : T ≤ 100000) {X : D} (hl : oLen X = some (.val (.int 2))) (h0 : oIx X (.int 0) = some (.val (.str [97]))) (h1 : oIx X (.int 1) = some (.val (.str [98]))) :
    ∃ (b : Bool) (cs' : List D), φ__law_pick [.lst cs, X] = some (.val (.str [cc b]), cs') ∧ IsPen (T + 1) cs' := by
  obtain ⟨x, cs', e, x0, x1, P'⟩ := e_draw P hT (m := 2) (by omega) (by omega)
  have ix : ∃ b : Bool, oIx X (.int x) = some (.val (.str [cc b])) := by
    rcases two_of x0 x1 with z | z
    · rw [z, h0]; exact ⟨false, rfl⟩
    · rw [z, h1]; exact ⟨true, rfl⟩
  obtain ⟨b, ix⟩ := ix
  refine ⟨b, cs', ?_, P'⟩
  refine phi_RtI ?_ rfl
  show RtI g__law_pick ⟨true, [.ow cs, .fz X]⟩ _ _
  unfold g__law_pick
  exact ri_ret (bin_st (d1 := X) (v_var rfl) (call_io (i := 0) (cs := cs) rfl (a_cons (v_un (v_var rfl) hl) a_nil) e) ix)
theorem e_pick_s {T : Int} {cs : List D} (P : IsPen T cs) (hT : T ≤ 100000) : ∃ (b : Bool) (cs' : List D), φ__law_pick [.lst cs, .str [97, 98]] = some (.val (.str [cc b]), cs') ∧ IsPen (T + 1) cs' := e_pick P hT rfl rfl rfl
theorem e_pick_l {T : Int} {cs : List D} (P : IsPen T cs) (hT : T ≤ 100000) : ∃ (b : Bool) (cs' : List D), φ__law_pick [.lst cs, .lst [.str [97], .str [98]]] = some (.val (.str [cc b]), cs') ∧ IsPen (T + 1) cs' := e_pick P hT rfl rfl rfl
theorem c_text {M : D} : ∀ (items : List Rv) (T : Int) (cs acc : List D), (∀ r ∈ items, ∃ i : Int, r = .val (.int i)) → IsPen T cs → T + items.length ≤ 100000 → acc.length + items.length ≤ 1000 →
    ∃ (w : Wd) (cs' : List D), compG (.nm 2) gYes X__law_text_0 [2] items ⟨true, [.ow cs, .fz M, .un]⟩ acc = some (acc ++ w.map (fun b => D.str [cc b]), ⟨true, [.ow cs', .fz M, .un]⟩) ∧ w.length = items.length ∧ IsPen (T + items.length) cs'
  | [], T, cs, acc, _, P, _, _ => ⟨[], cs, by simp [compG], rfl, by simpa using P⟩
  | r :: rs, T, cs, acc, hr, P, hT, hl => by
    obtain ⟨i, rfl⟩ := hr r (by simp)
    simp only [List.length_cons] at hT hl
    obtain ⟨b, cs1, e, P1⟩ := e_pick_s P (by omega)
    obtain ⟨w, cs', e2, l2, P2⟩ := c_text (M := M) rs (T + 1) cs1 (acc ++ [.str [cc b]]) (fun r hr' => hr r (by simp [hr'])) P1 (by omega) (by simp; omega)
    refine ⟨b :: w, cs', ?_, by simp [l2], by
      have : T + ((Rv.val (.int i) :: rs).length : Int) = T + 1 + (rs.length : Int) := by simp only [List.length_cons]; omega
      rw [this]; exact P2⟩
    have e1 : asgR (.nm 2) (Rv.val (.int i)) ⟨true, [.ow cs, .fz M, .un]⟩ = some ⟨true, [.ow cs, .fz M, .fz (.int i)]⟩ := rfl
    have e3 : X__law_text_0 ⟨true, [.ow cs, .fz M, .fz (.int i)]⟩ = some (.fz (.str [cc b]), ⟨true, [.ow cs1, .fz M, .fz (.int i)]⟩) := call_io (i := 0) (cs := cs) rfl (a_cons v_c a_nil) e
    have e4 : (⟨true, [.ow cs1, .fz M, .fz (.int i)]⟩ : Ev).wipe [2] = ⟨true, [.ow cs1, .fz M, .un]⟩ := rfl
    simp only [compG, e1, Option.bind_some, gYes, if_true, e3, frz, e4]
    rw [if_pos ⟨by omega, rfl⟩, e2]
    simp
theorem rest2 {a b c d : Sl} : Ev.rest [2] ⟨true, [a, b, c]⟩ ⟨true, [d, b, .un]⟩ = ⟨true, [d, b, c]⟩ := rfl
theorem tx_sum : ∀ w : Wd, ((w.map fun b => [cc b]).map (·.length)).sum = w.length
  | [] => rfl
  | b :: w => by
    have := tx_sum w
    simp only [List.map_cons, List.sum_cons, this, List.length_cons, List.length_nil]
    omega
theorem tx_flat : ∀ w : Wd, (w.map fun b => [cc b]).flatten = w.map cc
  | [] => rfl
  | b :: w => by
    have := tx_flat w
    simp only [List.map_cons, List.flatten_cons, this, List.singleton_append]
/-- drawn letters -/
theorem e_text {T : Int} {cs : List D} (P : IsPen T cs) (hT : T ≤ 50000) (m : Nat) (hm : m ≤ 100) :
    ∃ (w : Wd) (cs' : List D), φ__law_text [.lst cs, .int m] = some (.val (tx w), cs') ∧ w.length ≤ m ∧ IsPen (T + 200) cs' := by
  obtain ⟨x, cs1, e, x0, x1, P1⟩ := e_draw P (by omega) (m := (m : Int) + 1) (by omega) (by omega)
  have rl : (rangeR 0 x.toNat).length = x.toNat := by simp [rangeR]
  obtain ⟨w, cs', e2, l2, P2⟩ := c_text (M := .int m) (rangeR 0 x.toNat) (T + 1) cs1 [] (fun r hr => by
    simp only [rangeR, List.mem_map] at hr
    obtain ⟨k, _, rfl⟩ := hr
    exact ⟨_, rfl⟩) P1 (by rw [rl]; omega) (by rw [rl]; simp; omega)
  rw [rl] at l2 P2
  refine ⟨w, cs', ?_, by omega, P2.mono (by omega)⟩
  refine phi_RtI ?_ rfl
  show RtI g__law_text ⟨true, [.ow cs, .fz (.int m), .un]⟩ _ _
  unfold g__law_text
  have hr : iRange (gCallI φ__law_draw (gVar 0) (aCons (gBin oAdd (gVar 1) (gC (.int 1))) aNil)) ⟨true, [.ow cs, .fz (.int m), .un]⟩ = some (rangeR 0 x.toNat, ⟨true, [.ow cs1, .fz (.int m), .un]⟩) := by
    have := call_io (i := 0) (cs := cs) (ρ := ⟨true, [.ow cs, .fz (.int m), .un]⟩) (gs := aCons (gBin oAdd (gVar 1) (gC (.int 1))) aNil) rfl (a_cons (v_add (i := (m : Int)) (j := 1) (v_var rfl) v_c) a_nil) e
    simp only [iRange, this, Option.bind_some]
    rw [if_pos ⟨by omega, by omega⟩]
    rfl
  have ow : ownOk [2] ⟨true, [.ow cs1, .fz (.int m), .un]⟩ = true := rfl
  have wp : (⟨true, [.ow cs1, .fz (.int m), .un]⟩ : Ev).wipe [2] = ⟨true, [.ow cs1, .fz (.int m), .un]⟩ := rfl
  have tg : (tgIx (.nm 2)).all ([2].contains ·) = true := rfl
  have hc : gComp (iRange (gCallI φ__law_draw (gVar 0) (aCons (gBin oAdd (gVar 1) (gC (.int 1))) aNil))) (.nm 2) gYes X__law_text_0 [2] ⟨true, [.ow cs, .fz (.int m), .un]⟩ = some (.nw (w.map fun b => D.str [cc b]), ⟨true, [.ow cs', .fz (.int m), .un]⟩) := by
    simp only [gComp, hr, Option.bind_some, ow, tg, and_self, if_true, wp, e2, List.nil_append, rest2]
  have hj : oJoin (.lst (w.map fun b => D.str [cc b])) = some (.val (tx w)) := by
    have f1 := tx_sum w
    have f2 := tx_flat w
    simp only [oJoin, strsD_map, Option.bind_some, f1, f2]
    rw [if_pos (by omega)]
    rfl
  refine ri_ret (ρ1 := ⟨true, [.ow cs', .fz (.int m), .un]⟩) ?_
  simp only [gUn, hc, Option.bind_some, dat, hj, Option.map_some, Rv.res]
end W
end

section
set_option Elab.async false
set_option linter.all false
set_option maxRecDepth 100000
set_option maxHeartbeats 4000000
namespace W
open DL Lim
/-! # Drawn slants -/
structure SlaOk (v : Int × Int) : Prop where
  h1 : 0 ≤ v.1
  h2 : 0 ≤ v.2
  cop : Cop v
  s1 : Sm 900 v.1
  s2 : Sm 900 v.2
  hb : (v.1 ≤ 1000000000000 ∧ v.2 ≤ 1000000000000) ∨ ∃ w, back w = v ∧ w.length ≤ 1000000000000
theorem SlaOk.of_back {w : Wd} (h : w.length ≤ 800) : SlaOk (back w) where
  h1 := by have := back_pos w; omega
  h2 := by have := back_pos w; omega
  cop := by
    obtain ⟨x, y, e⟩ := back_cop w
    exact ⟨x, y, e⟩
  s1 := (sm_back (w := w) (k := 900) (by omega)).1
  s2 := (sm_back (w := w) (k := 900) (by omega)).2
  hb := .inr ⟨w, rfl, by omega⟩
theorem back_sw : ∀ w : Wd, back (sw w) = flip (back w)
  | [] => rfl
  | x :: w => by
    show act (!x) (back (sw w)) = flip (act x (back w))
    rw [back_sw w]
    cases x <;> rfl
theorem l_slant {a b c d e : Sl} {p0 : Sl} : ∀ (items : List Rv) (v : Int × Int) (s : Sl) (w : Wd), (∀ r ∈ items, ∃ i : Int, r = .val (.int i)) → back w = v →
    ∃ (u : Wd) (s' : Sl), loopG (.nm 5) L__law_slant_0 items ⟨true, [a, b, c, .fz (.int v.1), .fz (.int v.2), s, d, e]⟩ = some (.nx ⟨true, [a, b, c, .fz (.int (back u).1), .fz (.int (back u).2), s', d, e]⟩) ∧ u.length = w.length + items.length
  | [], v, s, w, _, h => ⟨w, s, by rw [h]; rfl, rfl⟩
  | r :: rs, v, s, w, hr, h => by
    obtain ⟨i, rfl⟩ := hr r (by simp)
    obtain ⟨u, s', ih, hu⟩ := l_slant (a := a) (b := b) (c := c) (d := d) (e := e) (p0 := p0) rs (v.1 + v.2, v.1) (.fz (.int i)) (false :: sw w) (fun r hr' => hr r (by simp [hr'])) (by
      show act false (back (sw w)) = _
      rw [back_sw, h]
      simp only [act, Lim.flip]
      ext
      · simp; omega
      · rfl)
    refine ⟨u, s', ?_, by rw [hu]; simp [sw]; omega⟩
    have e1 : asgR (.nm 5) (Rv.val (.int i)) ⟨true, [a, b, c, .fz (.int v.1), .fz (.int v.2), s, d, e]⟩ = some ⟨true, [a, b, c, .fz (.int v.1), .fz (.int v.2), .fz (.int i), d, e]⟩ := rfl
    have e2 : L__law_slant_0 ⟨true, [a, b, c, .fz (.int v.1), .fz (.int v.2), .fz (.int i), d, e]⟩ = some (.nx ⟨true, [a, b, c, .fz (.int (v.1 + v.2)), .fz (.int v.1), .fz (.int i), d, e]⟩) := rfl
    simp only [loopG, e1, Option.bind_some, e2]
    exact ih
theorem gcd_cop {p q : Nat} (hp : 0 < p) : Cop (((p / Nat.gcd p q : Nat) : Int), ((q / Nat.gcd p q : Nat) : Int)) := by
  obtain ⟨x, y, e⟩ := bezout p q
  have g0 : 0 < Nat.gcd p q := Nat.gcd_pos_of_pos_left q hp
  have e1 : (p : Int) = (Nat.gcd p q : Nat) * ((p / Nat.gcd p q : Nat) : Int) := by
    have := Nat.mul_div_cancel' (Nat.gcd_dvd_left p q)
    exact_mod_cast this.symm
  have e2 : (q : Int) = (Nat.gcd p q : Nat) * ((q / Nat.gcd p q : Nat) : Int) := by
    have := Nat.mul_div_cancel' (Nat.gcd_dvd_right p q)
    exact_mod_cast this.symm
  refine ⟨x, y, ?_⟩
  generalize ((p / Nat.gcd p q : Nat) : Int) = a at *
  generalize ((q / Nat.gcd p q : Nat) : Int) = b at *
  generalize Nat.gcd p q = g at *
  have : (g : Int) * (x * a + y * b) = g * 1 := by
    have e3 : (g : Int) * (x * a + y * b) = x * (g * a) + y * (g * b) := by grind
    rw [e3, ← e1, ← e2, e, Int.mul_one]
  exact Int.eq_of_mul_eq_mul_left (by omega) this
theorem e_slant {T : Int} {cs : List D} (P : IsPen T cs) (hT : T ≤ 50000) {top : Int} (t1 : 1 ≤ top) (t2 : top ≤ 1000000000000) :
    ∃ (v : Int × Int) (cs' : List D), φ__law_slant [.lst cs, .int top] = some (.val (dv2 v), cs') ∧ SlaOk v ∧ IsPen (T + 10) cs' := by
  obtain ⟨k, cs1, e1, k0, k5, P1⟩ := e_draw P (by omega) (m := 5) (by omega) (by omega)
  have key : ∀ v cs', RtI g__law_slant ⟨true, [.ow cs, .fz (.int top), .un, .un, .un, .un, .un, .un]⟩ (.val (dv2 v)) cs' → φ__law_slant [.lst cs, .int top] = some (.val (dv2 v), cs') := fun v cs' h => phi_RtI h rfl
  have st1 : (sSet 2 (gCallI φ__law_draw (gVar 0) (aCons (gC (.int 5)) aNil))) ⟨true, [.ow cs, .fz (.int top), .un, .un, .un, .un, .un, .un]⟩ = some (.nx ⟨true, [.ow cs1, .fz (.int top), .fz (.int k), .un, .un, .un, .un, .un]⟩) := set_fz (call_io (i := 0) (cs := cs) rfl (a_cons v_c a_nil) e1) rfl
  have tk := t_b (v_eqI false (ga := gVar 2) (gb := gC (.int 0)) (ρ := ⟨true, [.ow cs1, .fz (.int top), .fz (.int k), .un, .un, .un, .un, .un]⟩) (i := k) (j := 0) (v_var rfl) v_c)
  simp only [Bool.false_eq_true, if_false] at tk
  by_cases hk : k = 0
  · have d1 : (k == (0 : Int)) = true := by simpa using hk
    rw [d1] at tk
    obtain ⟨x, cs2, e2, x0, x1, P2⟩ := e_draw P1 (by omega) (m := 150) (by omega) (by omega)
    have rl : (rangeR 0 x.toNat).length = x.toNat := by simp [rangeR]
    obtain ⟨u, s', e3, ul⟩ := l_slant (a := .ow cs2) (b := .fz (.int top)) (c := .fz (.int k)) (d := .un) (e := .un) (p0 := .un) (rangeR 0 x.toNat) (1, 1) .un [] (fun r hr => by
      simp only [rangeR, List.mem_map] at hr
      obtain ⟨k, _, rfl⟩ := hr
      exact ⟨_, rfl⟩) rfl
    rw [rl] at ul
    obtain ⟨y, cs3, e4, y0, y1, P3⟩ := e_draw P2 (by omega) (m := 2) (by omega) (by omega)
    have ok1 : SlaOk (back u) := SlaOk.of_back (by simp at ul; omega)
    have ok2 : SlaOk (Lim.flip (back u)) := by rw [← back_sw]; exact SlaOk.of_back (by simp [sw] at ul ⊢; omega)
    have hr : iRange (gCallI φ__law_draw (gVar 0) (aCons (gC (.int 150)) aNil)) ⟨true, [.ow cs1, .fz (.int top), .fz (.int k), .fz (.int 1), .fz (.int 1), .un, .un, .un]⟩ = some (rangeR 0 x.toNat, ⟨true, [.ow cs2, .fz (.int top), .fz (.int k), .fz (.int 1), .fz (.int 1), .un, .un, .un]⟩) := by
      have := call_io (i := 0) (cs := cs1) (ρ := ⟨true, [.ow cs1, .fz (.int top), .fz (.int k), .fz (.int 1), .fz (.int 1), .un, .un, .un]⟩) (gs := aCons (gC (.int 150)) aNil) rfl (a_cons v_c a_nil) e2
      simp only [iRange, this, Option.bind_some]
      rw [if_pos ⟨by omega, by omega⟩]
      rfl
    have tc : gTb (gBin (oEq false) (gCallI φ__law_draw (gVar 0) (aCons (gC (.int 2)) aNil)) (gC (.int 0))) ⟨true, [.ow cs2, .fz (.int top), .fz (.int k), .fz (.int (back u).1), .fz (.int (back u).2), s', .un, .un]⟩ = some (y == 0, ⟨true, [.ow cs3, .fz (.int top), .fz (.int k), .fz (.int (back u).1), .fz (.int (back u).2), s', .un, .un]⟩) :=
      tb_st (bin_st (call_io (i := 0) (cs := cs2) rfl (a_cons v_c a_nil) e4) v_c (oEq_int false y 0))
    have main : ∀ v, (v = if (y == 0) = true then back u else Lim.flip (back u)) → φ__law_slant [.lst cs, .int top] = some (.val (dv2 v), cs3) := fun v hv => by
      refine key v cs3 ?_
      unfold g__law_slant
      refine ri_seq st1 ?_
      refine ri_now (ri_ifT tk ?_)
      refine ri_seq (ρ1 := ⟨true, [.ow cs1, .fz (.int top), .fz (.int k), .fz (.int 1), .fz (.int 1), .un, .un, .un]⟩) (by rfl) ?_
      refine ri_seq (ρ1 := ⟨true, [.ow cs2, .fz (.int top), .fz (.int k), .fz (.int (back u).1), .fz (.int (back u).2), s', .un, .un]⟩) (by simp only [sFor, hr, Option.bind_some]; exact e3) ?_
      rw [hv]
      by_cases hy : y = 0
      · have d2 : (y == (0 : Int)) = true := by simpa using hy
        rw [d2] at tc ⊢
        exact ri_ret (ife_T tc (v_tup (ds := [.int (back u).1, .int (back u).2]) (a_cons (v_var rfl) (a_cons (v_var rfl) a_nil)) (by simp)))
      · have d2 : (y == (0 : Int)) = false := by simpa using hy
        rw [d2] at tc ⊢
        exact ri_ret (ife_F tc (v_tup (ds := [.int (back u).2, .int (back u).1]) (a_cons (v_var rfl) (a_cons (v_var rfl) a_nil)) (by simp)))
    refine ⟨_, cs3, main _ rfl, ?_, P3.mono (by omega)⟩
    split
    · exact ok1
    · exact ok2
  · have d1 : (k == (0 : Int)) = false := by simpa using hk
    rw [d1] at tk
    have hM : ∃ M : Int, 1 ≤ M ∧ M ≤ 1000000000000 ∧ Ev1 (gBin oIx (gLst (aCons (gC (.int 7)) (aCons (gC (.int 30)) (aCons (gBin (oI fPow) (gC (.int 10)) (gC (.int 6))) (aCons (gVar 1) aNil))))) (gBin (oI fun i j => some (i - j)) (gVar 2) (gC (.int 1)))) ⟨true, [.ow cs1, .fz (.int top), .fz (.int k), .un, .un, .un, .un, .un]⟩ (.int M) := by
      have lv : gLst (aCons (gC (.int 7)) (aCons (gC (.int 30)) (aCons (gBin (oI fPow) (gC (.int 10)) (gC (.int 6))) (aCons (gVar 1) aNil)))) ⟨true, [.ow cs1, .fz (.int top), .fz (.int k), .un, .un, .un, .un, .un]⟩ = some (.nw [.int 7, .int 30, .int 1000000, .int top], ⟨true, [.ow cs1, .fz (.int top), .fz (.int k), .un, .un, .un, .un, .un]⟩) :=
        lst' (a_cons v_c (a_cons v_c (a_cons (v_bin (d1 := .int 10) (d2 := .int 6) v_c v_c (by rfl)) (a_cons (v_var rfl) a_nil)))) (by simp)
      have sv : Ev1 (gBin (oI fun i j => some (i - j)) (gVar 2) (gC (.int 1))) ⟨true, [.ow cs1, .fz (.int top), .fz (.int k), .un, .un, .un, .un, .un]⟩ (.int (k - 1)) := v_sub (v_var rfl) v_c
      have go : ∀ M : Int, L2.atI [D.int 7, .int 30, .int 1000000, .int top] (k - 1) = some (.int M) → Ev1 (gBin oIx (gLst (aCons (gC (.int 7)) (aCons (gC (.int 30)) (aCons (gBin (oI fPow) (gC (.int 10)) (gC (.int 6))) (aCons (gVar 1) aNil))))) (gBin (oI fun i j => some (i - j)) (gVar 2) (gC (.int 1)))) ⟨true, [.ow cs1, .fz (.int top), .fz (.int k), .un, .un, .un, .un, .un]⟩ (.int M) := fun M hM => by
        unfold Ev1 at sv ⊢
        simp only [gBin] at sv ⊢
        simp only [lv, Option.bind_some]
        rw [sv]
        simp only [Option.bind_some, dat, oIx, hM, Option.map_some, Rv.res]
      have : k = 1 ∨ k = 2 ∨ k = 3 ∨ k = 4 := by omega
      rcases this with z | z | z | z
      · subst z; exact ⟨7, by omega, by omega, go 7 rfl⟩
      · subst z; exact ⟨30, by omega, by omega, go 30 rfl⟩
      · subst z; exact ⟨1000000, by omega, by omega, go 1000000 rfl⟩
      · subst z; exact ⟨top, by omega, by omega, go top rfl⟩
    obtain ⟨M, M1, M2, hM⟩ := hM
    obtain ⟨x, cs2, e2, x0, x1, P2⟩ := e_draw P1 (by omega) (m := M) (by omega) (by omega)
    obtain ⟨z, cs3, e3, z0, z1, P3⟩ := e_draw P2 (by omega) (m := 4) (by omega) (by omega)
    have h4 : ∃ (y : Int) (cs4 : List D), 0 ≤ y ∧ y < 1000000000000 ∧ IsPen (T + 4) cs4 ∧ gIfE (gTb (gBin (oCmpI fun i j => decide (j < i)) (gCallI φ__law_draw (gVar 0) (aCons (gC (.int 4)) aNil)) (gC (.int 0)))) (gCallI φ__law_draw (gVar 0) (aCons (gVar 6) aNil)) (gCallI φ__law_draw (gVar 0) (aCons (gC (.int 3)) aNil)) ⟨true, [.ow cs2, .fz (.int top), .fz (.int k), .un, .un, .un, .fz (.int M), .un]⟩ = some (.fz (.int y), ⟨true, [.ow cs4, .fz (.int top), .fz (.int k), .un, .un, .un, .fz (.int M), .un]⟩) := by
      have tc : gTb (gBin (oCmpI fun i j => decide (j < i)) (gCallI φ__law_draw (gVar 0) (aCons (gC (.int 4)) aNil)) (gC (.int 0))) ⟨true, [.ow cs2, .fz (.int top), .fz (.int k), .un, .un, .un, .fz (.int M), .un]⟩ = some (decide (0 < z), ⟨true, [.ow cs3, .fz (.int top), .fz (.int k), .un, .un, .un, .fz (.int M), .un]⟩) :=
        tb_st (bin_st (call_io (i := 0) (cs := cs2) rfl (a_cons v_c a_nil) e3) v_c (by rfl))
      by_cases hz : 0 < z
      · rw [decide_eq_true hz] at tc
        obtain ⟨y, cs4, e4, y0, y1, P4⟩ := e_draw P3 (by omega) (m := M) (by omega) (by omega)
        exact ⟨y, cs4, y0, by omega, P4.mono (by omega), ife_T tc (call_io (i := 0) (cs := cs3) rfl (a_cons (v_var rfl) a_nil) e4)⟩
      · rw [decide_eq_false hz] at tc
        obtain ⟨y, cs4, e4, y0, y1, P4⟩ := e_draw P3 (by omega) (m := 3) (by omega) (by omega)
        exact ⟨y, cs4, y0, by omega, P4.mono (by omega), ife_F tc (call_io (i := 0) (cs := cs3) rfl (a_cons v_c a_nil) e4)⟩
    obtain ⟨y, cs4, y0, y1, P4, e4⟩ := h4
    obtain ⟨p, hp⟩ : ∃ p : Nat, 1 + x = (p : Int) := ⟨(1 + x).toNat, by omega⟩
    obtain ⟨q, hq⟩ : ∃ q : Nat, 1 + y = (q : Int) := ⟨(1 + y).toNat, by omega⟩
    have lo := e_law_low (p := p) (q := q) (by omega) (by unfold Sm; exact Nat.lt_trans (show (p : Int).natAbs < 2 ^ 64 by omega) (by decide +kernel)) (by unfold Sm; exact Nat.lt_trans (show (q : Int).natAbs < 2 ^ 64 by omega) (by decide +kernel))
    have cop := gcd_cop (p := p) (q := q) (by omega)
    have lp := Nat.div_le_self p (Nat.gcd p q)
    have lq := Nat.div_le_self q (Nat.gcd p q)
    generalize p / Nat.gcd p q = a at *
    generalize q / Nat.gcd p q = b at *
    have sab : Sm 900 (a : Int) ∧ Sm 900 (b : Int) := by
      unfold Sm
      exact ⟨Nat.lt_trans (show (a : Int).natAbs < 2 ^ 64 by omega) (by decide +kernel), Nat.lt_trans (show (b : Int).natAbs < 2 ^ 64 by omega) (by decide +kernel)⟩
    have ok1 : SlaOk ((a : Int), (b : Int)) := ⟨by simp, by simp, cop, sab.1, sab.2, .inl ⟨by simp; omega, by simp; omega⟩⟩
    have ok2 : SlaOk ((b : Int), (a : Int)) := ⟨by simp, by simp, by
      obtain ⟨x, y, e⟩ := cop
      exact ⟨y, x, by simp only at e ⊢; omega⟩, sab.2, sab.1, .inl ⟨by simp; omega, by simp; omega⟩⟩
    obtain ⟨c, cs5, e5, c0, c1, P5⟩ := e_draw P4 (by omega) (m := 2) (by omega) (by omega)
    have tc : gTb (gBin (oEq false) (gCallI φ__law_draw (gVar 0) (aCons (gC (.int 2)) aNil)) (gC (.int 0))) ⟨true, [.ow cs4, .fz (.int top), .fz (.int k), .un, .un, .un, .fz (.int M), .fz (dv2 (a, b))]⟩ = some (c == 0, ⟨true, [.ow cs5, .fz (.int top), .fz (.int k), .un, .un, .un, .fz (.int M), .fz (dv2 (a, b))]⟩) :=
      tb_st (bin_st (call_io (i := 0) (cs := cs4) rfl (a_cons v_c a_nil) e5) v_c (oEq_int false c 0))
    have st7 : gCallX φ__law_low [] (aCons (gBin oAdd (gC (.int 1)) (gCallI φ__law_draw (gVar 0) (aCons (gVar 6) aNil))) (aCons (gBin oAdd (gC (.int 1)) (gIfE (gTb (gBin (oCmpI fun i j => decide (j < i)) (gCallI φ__law_draw (gVar 0) (aCons (gC (.int 4)) aNil)) (gC (.int 0)))) (gCallI φ__law_draw (gVar 0) (aCons (gVar 6) aNil)) (gCallI φ__law_draw (gVar 0) (aCons (gC (.int 3)) aNil)))) aNil)) ⟨true, [.ow cs1, .fz (.int top), .fz (.int k), .un, .un, .un, .fz (.int M), .un]⟩ = some (.fz (dv2 (a, b)), ⟨true, [.ow cs4, .fz (.int top), .fz (.int k), .un, .un, .un, .fz (.int M), .un]⟩) := by
      refine call' (ds := [.int p, .int q]) (a_cons' (ρ1 := ⟨true, [.ow cs2, .fz (.int top), .fz (.int k), .un, .un, .un, .fz (.int M), .un]⟩) ?_ (a_cons' ?_ a_nil)) lo
      · exact bin_st (d1 := .int 1) (d2 := .int x) v_c (call_io (i := 0) (cs := cs1) rfl (a_cons (v_var rfl) a_nil) e2) (by simp only [oAdd, hp])
      · exact bin_st (d1 := .int 1) (d2 := .int y) v_c e4 (by simp only [oAdd, hq])
    have main : ∀ v, (v = if (c == 0) = true then ((a : Int), (b : Int)) else ((b : Int), (a : Int))) → φ__law_slant [.lst cs, .int top] = some (.val (dv2 v), cs5) := fun v hv => by
      refine key v cs5 ?_
      unfold g__law_slant
      refine ri_seq st1 ?_
      refine ri_seq (if_f tk rfl) ?_
      refine ri_seq (set_fz hM rfl) ?_
      refine ri_seq (set_fz st7 rfl) ?_
      show RtI _ ⟨true, [.ow cs4, .fz (.int top), .fz (.int k), .un, .un, .un, .fz (.int M), .fz (dv2 (a, b))]⟩ _ _
      rw [hv]
      by_cases hy : c = 0
      · have d2 : (c == (0 : Int)) = true := by simpa using hy
        rw [d2] at tc ⊢
        exact ri_ret (ife_T tc (v_var rfl))
      · have d2 : (c == (0 : Int)) = false := by simpa using hy
        rw [d2] at tc ⊢
        exact ri_ret (ife_F tc (v_tup (ds := [.int b, .int a]) (a_cons (v_ix (l := [.int a, .int b]) (v_var rfl) v_c (atI_1 _ _ _)) (a_cons (v_ix (l := [.int a, .int b]) (v_var rfl) v_c (atI_0 _ _)) a_nil)) (by simp)))
    refine ⟨_, cs5, main _ rfl, ?_, P5.mono (by omega)⟩
    split
    · exact ok1
    · exact ok2
end W
end

section
set_option Elab.async false
set_option linter.all false
set_option maxRecDepth 100000
set_option maxHeartbeats 4000000
namespace Lim
/-! # Begins of the endless word -/
def pre (n : Nat) (α : Om) : Wd := (List.range n).map α
theorem pre_take (n : Nat) (w : Wd) (α : Om) (h : n ≤ w.length) : pre n (app w α) = w.take n := by
  apply List.ext_getElem
  · simp [pre]; omega
  · intro i h1 h2
    have hi : i < n := by simpa [pre] using h1
    simp only [pre, List.getElem_map, List.getElem_range, List.getElem_take]
    rw [app_lt w α i (by omega), List.getD_eq_getElem?_getD, List.getElem?_eq_getElem (by omega)]
    rfl
theorem om_pre (h p : Wd) (k n : Nat) (hn : n ≤ (h ++ pw p k).length) : (h ++ pw p k).take n = pre n (om h p) := by
  have : om h p = app (h ++ pw p k) (per p) := by rw [app_app, app_pw]; rfl
  rw [this, pre_take _ _ _ hn]
theorem pw_snoc (p : Wd) (k : Nat) : pw p k ++ p = pw p (k + 1) := by
  rw [← rp_pw, ← rp_pw, rp_add]
  congr 1
  simp [rp]
theorem pw_two (p : Wd) : pw p 2 = p ++ p := by
  rw [← rp_pw]; simp [rp]
/-- without the letters x at its end -/
def due (x : Bool) : Wd → Wd
  | [] => []
  | y :: w => match due x w with
    | [] => if y = x then [] else [y]
    | v => y :: v
theorem due_snoc (x : Bool) : ∀ w : Wd, due x (w ++ [x]) = due x w
  | [] => by simp [due]
  | y :: w => by
    show (match due x (w ++ [x]) with | [] => if y = x then [] else [y] | v => y :: v) = _
    rw [due_snoc x w]
    rfl
theorem due_snoc_ne {x y : Bool} (h : y ≠ x) : ∀ w : Wd, due x (w ++ [y]) = w ++ [y]
  | [] => by simp [due, h]
  | z :: w => by
    show (match due x (w ++ [y]) with | [] => if z = x then [] else [z] | v => z :: v) = _
    rw [due_snoc_ne h w]
    cases w <;> rfl
theorem due_ok (x : Bool) (w : Wd) : Short (due x w) [x] ∧ om (due x w) [x] = om w [x] ∧ (due x w).length ≤ w.length := by
  have pr : Prim [x] := fun g g0 gd _ => Nat.dvd_one.mp gd
  induction w using snoc_ind with
  | h0 => exact ⟨⟨by simp, pr, by simp [due]⟩, rfl, Nat.le_refl _⟩
  | h1 w y ih =>
    by_cases h : y = x
    · subst h
      rw [due_snoc]
      refine ⟨ih.1, ?_, by have := ih.2.2; simp; omega⟩
      rw [ih.2.1]
      unfold om
      rw [app_app]
      congr 1
      exact app_per.symm
    · rw [due_snoc_ne h]
      refine ⟨⟨by simp, pr, ?_⟩, rfl, Nat.le_refl _⟩
      simp [h]
/-- one letter alone in the period -/
theorem per_one {p : Wd} {x : Bool} (hp : p ≠ []) (hx : ∀ y ∈ p, y = x) : per p = cst x := by
  funext n
  have lt := Nat.mod_lt n (List.length_pos_iff.mpr hp)
  simp only [per]
  rw [List.getD_eq_getElem?_getD, List.getElem?_eq_getElem lt]
  exact hx _ (List.getElem_mem lt)
theorem due_short {h p h' p' : Wd} {x : Bool} (hp : p ≠ []) (hx : ∀ y ∈ p, y = x) (S : Short h' p') (e : om h' p' = om h p) : h' = due x h ∧ p' = [x] := by
  obtain ⟨d1, d2, d3⟩ := due_ok x h
  refine short_unique S d1 ?_
  rw [e, d2]
  unfold om
  rw [per_one hp hx, per_one (p := [x]) (x := x) (by simp) (by simp)]
end Lim
namespace W
open DL Lim
mutual
theorem deq_refl : ∀ d : D, pl d = true → deq d d = true
  | .non, _ => rfl
  | .bl b, _ => by simp [deq]
  | .int i, _ => by simp [deq]
  | .str s, _ => by simp [deq]
  | .lst xs, h => by simp only [deq]; exact deqA_refl xs (by simpa [pl] using h)
  | .tup xs, h => by simp only [deq]; exact deqA_refl xs (by simpa [pl] using h)
  | .fls xs, h => by simp only [deq]; exact deqA_refl xs (by simpa [pl] using h)
  | .dic k, h => by simp [pl] at h
theorem deqA_refl : ∀ xs : List D, plA xs = true → deqA xs xs = true
  | [], _ => rfl
  | x :: xs, h => by
    have h' : pl x = true ∧ plA xs = true := by simpa [plA] using h
    simp [deqA, deq_refl x h'.1, deqA_refl xs h'.2]
end
theorem eq_self {d : D} (h : shp d = true) (neg : Bool) : oEq neg d d = some (.val (.bl (!neg))) := by
  have p1 : pl d = true := shp_pl h
  simp only [oEq, h, Bool.and_self, if_true, deq_refl d p1]
  cases neg <;> rfl
theorem pd_dW (w : Wd) : pl (dW w) = true ∧ dep (dW w) ≤ 2 := by
  have := pd_drs (runs w)
  refine ⟨by rw [dW, pl_tup]; exact this.1, by rw [dW, dep_tup]; omega⟩
theorem shp_dW (w : Wd) : shp (dW w) = true := shp_drs _
theorem pd_dE (G : Eqn) : pl (dE G) = true ∧ dep (dE G) ≤ 1 := by simp [dE, pl, plA, dep, depA]
theorem shp_dE (G : Eqn) : shp (dE G) = true := shp_of (pd_dE G).1 (by have := (pd_dE G).2; omega)
theorem pd_dS (s : Sla) : pl (dS s) = true ∧ dep (dS s) ≤ 2 := by
  cases s with
  | east => exact ⟨by simp [dS, pl, ok_str (s := sEast) (by decide)], by simp [dS, dep]⟩
  | north => exact ⟨by simp [dS, pl, ok_str (s := sNorth) (by decide)], by simp [dS, dep]⟩
  | word v => exact pd_dW v
theorem shp_dS (s : Sla) : shp (dS s) = true := shp_of (pd_dS s).1 (by have := (pd_dS s).2; omega)
theorem shp_root (h p : Wd) : shp (rootD h p) = true := by
  have h1 := pd_dE (low (eq2 h p))
  have h2 := ok_str (s := sRoot) (by decide)
  refine shp_of (by simp [rootD, pl, plA, h1.1, h2]) (by rw [rootD, dep_tup]; simp only [depA, dep]; omega)
def slantD (s : Sla) : D := .tup [.str sSlant, dS s]
theorem shp_slant (s : Sla) : shp (slantD s) = true := by
  have h1 := pd_dS s
  have h2 := ok_str (s := sSlant) (by decide)
  refine shp_of (by simp [slantD, pl, plA, h1.1, h2]) (by rw [slantD, dep_tup]; simp only [depA, dep]; omega)
theorem shp_pair (h p : Wd) : shp (.tup [dW h, dW p]) = true := by
  have h1 := pd_dW h
  have h2 := pd_dW p
  refine shp_of (by simp [pl, plA, h1.1, h2.1]) (by rw [dep_tup]; simp only [depA]; omega)
/-! ## text -/
theorem v_slS {ρ : Ev} {ga : GE} {gl gu : GP} {l : List Nat} {lo hi : Option Int} (h : Ev1 ga ρ (.str l)) (h1 : EvP gl ρ lo) (h2 : EvP gu ρ hi) (hl : l.length ≤ 16777216) : Ev1 (gSl ga gl gu) ρ (.str (cutD l lo hi)) := by
  unfold Ev1 EvP at *
  simp only [gSl, h, h1, h2, Option.bind_some, dat, oSl, hl, if_true, Option.map_some, Rv.res]
theorem add_tx (u v : Wd) (h : u.length + v.length ≤ 16777216) : oAdd (tx u) (tx v) = some (.val (tx (u ++ v))) := by
  simp only [oAdd, tx, List.length_map, h, if_true, List.map_append]
theorem v_addS {ρ : Ev} {ga gb : GE} {u v : Wd} (h1 : Ev1 ga ρ (tx u)) (h2 : Ev1 gb ρ (tx v)) (h : u.length + v.length ≤ 16777216) : Ev1 (gBin oAdd ga gb) ρ (tx (u ++ v)) := v_bin h1 h2 (add_tx u v h)
theorem v_takeS {ρ : Ev} {ga gu : GE} {w : Wd} {n : Nat} (h : Ev1 ga ρ (tx w)) (h2 : Ev1 gu ρ (.int (n : Int))) (hl : w.length ≤ 16777216) : Ev1 (gSl ga gNoP (gP gu)) ρ (tx (w.take n)) := by
  have := v_slS h p_no (p_i h2) (by simpa using hl)
  rw [cut_take, ← List.map_take] at this
  exact this
theorem v_dropS {ρ : Ev} {ga gu : GE} {w : Wd} {n : Nat} (h : Ev1 ga ρ (tx w)) (h2 : Ev1 gu ρ (.int (n : Int))) (hl : w.length ≤ 16777216) : Ev1 (gSl ga (gP gu) gNoP) ρ (tx (w.drop n)) := by
  have := v_slS h (p_i h2) p_no (by simpa using hl)
  rw [cut_drop, ← List.map_drop] at this
  exact this
theorem mul_tx (w : Wd) (k : Nat) (hk : k ≤ 1000) (hl : w.length ≤ 1000) : oMul (tx w) (.int k) = some (.val (tx (pw w k))) := by
  have e1 : (List.replicate k (w.map cc)).flatten = (pw w k).map cc := by
    rw [← rp_pw]
    simp [rp, List.map_flatten]
  have : w.length * k ≤ 1000 * 1000 := Nat.mul_le_mul hl hk
  simp only [oMul, tx, List.length_map, Int.toNat_natCast]
  rw [if_pos ⟨by omega, by omega, by omega⟩, e1]
theorem v_mulS {ρ : Ev} {ga gb : GE} {w : Wd} {k : Nat} (h1 : Ev1 ga ρ (tx w)) (h2 : Ev1 gb ρ (.int (k : Int))) (hk : k ≤ 1000) (hl : w.length ≤ 1000) : Ev1 (gBin oMul ga gb) ρ (tx (pw w k)) := v_bin h1 h2 (mul_tx w k hk hl)
theorem v_lenS {ρ : Ev} {ga : GE} {w : Wd} (h1 : Ev1 ga ρ (tx w)) (hl : w.length ≤ 16777216) : Ev1 (gUn oLen ga) ρ (.int (w.length : Int)) := v_un h1 (by simp only [oLen, tx, List.length_map, hl, if_true])
theorem tx_eq (neg : Bool) (u w : Wd) : oEq neg (tx u) (tx w) = some (.val (.bl (if neg then !decide (u = w) else decide (u = w)))) := by
  have inj : (u.map cc == w.map cc) = decide (u = w) := by
    by_cases h : u = w
    · subst h; simp
    · have : ¬ u.map cc = w.map cc := fun z => h ((List.map_inj_right (fun a b e => cc_inj.mp e)).mp z)
      simp [h, this]
  unfold oEq
  rw [shp_tx, shp_tx]
  simp only [Bool.and_self, if_true, tx, deq, inj]
/-! ## _law_begin -/
theorem l_begin {X Y : D} {h p : Wd} (pp : 1 ≤ p.length) (pl : p.length ≤ 1000) : ∀ (N k : Nat), 80 - (h ++ pw p k).length < N → (h ++ pw p k).length ≤ 1000 → ∃ k', 80 ≤ (h ++ pw p k').length ∧ (h ++ pw p k').length ≤ 3000 ∧
    whileG C__law_begin_0 L__law_begin_0 N ⟨false, [.fz X, .fz Y, .fz (.int 80), .fz (tx (h ++ pw p k)), .fz (tx p)]⟩ = some (.nx ⟨false, [.fz X, .fz Y, .fz (.int 80), .fz (tx (h ++ pw p k')), .fz (tx p)]⟩)
  | 0, k, hN, _ => by omega
  | N + 1, k, hN, hk => by
    have vl : Ev1 (gUn oLen (gVar 3)) ⟨false, [.fz X, .fz Y, .fz (.int 80), .fz (tx (h ++ pw p k)), .fz (tx p)]⟩ (.int ((h ++ pw p k).length : Int)) := v_lenS (v_var rfl) (by omega)
    have tc := t_b (v_cmp (p := fun i j => decide (i < j)) (gb := gVar 2) (j := 80) vl (v_var rfl))
    have tc : C__law_begin_0 ⟨false, [.fz X, .fz Y, .fz (.int 80), .fz (tx (h ++ pw p k)), .fz (tx p)]⟩ = some (decide (((h ++ pw p k).length : Int) < 80), ⟨false, [.fz X, .fz Y, .fz (.int 80), .fz (tx (h ++ pw p k)), .fz (tx p)]⟩) := tc
    by_cases hc : (h ++ pw p k).length < 80
    · rw [decide_eq_true (by omega)] at tc
      have el : (h ++ pw p (k + 1)).length = (h ++ pw p k).length + p.length := by
        rw [← pw_snoc]; simp; omega
      have st : L__law_begin_0 ⟨false, [.fz X, .fz Y, .fz (.int 80), .fz (tx (h ++ pw p k)), .fz (tx p)]⟩ = some (.nx ⟨false, [.fz X, .fz Y, .fz (.int 80), .fz (tx (h ++ pw p (k + 1))), .fz (tx p)]⟩) := by
        have := v_addS (ga := gVar 3) (gb := gVar 4) (ρ := ⟨false, [.fz X, .fz Y, .fz (.int 80), .fz (tx (h ++ pw p k)), .fz (tx p)]⟩) (v_var rfl) (v_var rfl) (by omega)
        rw [List.append_assoc, pw_snoc] at this
        exact set_fz this rfl
      by_cases hs : (h ++ pw p (k + 1)).length ≤ 1000
      · obtain ⟨k', k1, k2, ih⟩ := l_begin (X := X) (Y := Y) (h := h) pp pl N (k + 1) (by omega) hs
        refine ⟨k', k1, k2, ?_⟩
        simp only [whileG, tc, Option.bind_some, if_true, st, ih]
      · obtain ⟨M, rfl⟩ : ∃ M, N = M + 1 := ⟨N - 1, by omega⟩
        refine ⟨k + 1, by omega, by omega, ?_⟩
        have vl2 : Ev1 (gUn oLen (gVar 3)) ⟨false, [.fz X, .fz Y, .fz (.int 80), .fz (tx (h ++ pw p (k + 1))), .fz (tx p)]⟩ (.int ((h ++ pw p (k + 1)).length : Int)) := v_lenS (v_var rfl) (by omega)
        have tc2 := t_b (v_cmp (p := fun i j => decide (i < j)) (gb := gVar 2) (j := 80) vl2 (v_var rfl))
        have tc2 : C__law_begin_0 ⟨false, [.fz X, .fz Y, .fz (.int 80), .fz (tx (h ++ pw p (k + 1))), .fz (tx p)]⟩ = some (decide (((h ++ pw p (k + 1)).length : Int) < 80), ⟨false, [.fz X, .fz Y, .fz (.int 80), .fz (tx (h ++ pw p (k + 1))), .fz (tx p)]⟩) := tc2
        rw [decide_eq_false (by omega)] at tc2
        simp only [whileG, tc, Option.bind_some, if_true, st, tc2, Bool.false_eq_true, if_false]
    · rw [decide_eq_false (by omega)] at tc
      refine ⟨k, by omega, by omega, ?_⟩
      simp only [whileG, tc, Option.bind_some, Bool.false_eq_true, if_false]
theorem e_begin {h p : Wd} (pne : p ≠ []) (hl : h.length ≤ 80) (pl : p.length ≤ 80) : φ__law_begin [dW h, dW p, .int 80] = some (.val (tx (pre 80 (om h p))), []) := by
  have pp := List.length_pos_iff.mpr pne
  have e1 := e_law_letters (w := h) (by omega)
  have e2 := e_law_letters (w := p) (by omega)
  have e0 : h ++ pw p 0 = h := by simp [pw]
  obtain ⟨k, k1, k2, e3⟩ := l_begin (X := dW h) (Y := dW p) (h := h) pp (by omega) big 0 (by rw [e0]; have : 1000 < big := by decide +kernel
                                                                                             omega) (by rw [e0]; omega)
  rw [e0] at e3
  refine phi_Rt ?_ rfl
  show Rt g__law_begin ⟨false, [.fz (dW h), .fz (dW p), .fz (.int 80), .un, .un]⟩ _
  unfold g__law_begin
  have v1 : Ev1 (gSl (gCallX φ__law_letters [] (aCons (gVar 0) aNil)) gNoP (gP (gVar 2))) ⟨false, [.fz (dW h), .fz (dW p), .fz (.int 80), .un, .un]⟩ (tx h) := by
    have := v_takeS (n := 80) (v_call0 (ρ := ⟨false, [.fz (dW h), .fz (dW p), .fz (.int 80), .un, .un]⟩) (a_cons (ga := gVar 0) (v_var rfl) a_nil) e1) (gu := gVar 2) (v_var rfl) (by omega)
    rw [List.take_of_length_le hl] at this
    exact this
  refine rt_seq (set_fz v1 rfl) ?_
  refine rt_seq (set_fz (v_call0 (a_cons (v_var rfl) a_nil) e2) rfl) ?_
  refine rt_seq e3 ?_
  have := v_takeS (n := 80) (ga := gVar 3) (gu := gVar 2) (ρ := ⟨false, [.fz (dW h), .fz (dW p), .fz (.int 80), .fz (tx (h ++ pw p k)), .fz (tx p)]⟩) (v_var rfl) (v_var rfl) (by omega)
  rw [om_pre h p k 80 k1] at this
  exact rt_ret this
/-! ## _law_name of a row of letters; _law_pen -/
def chL (w : Wd) : D := .lst (w.map fun x => .str [cc x])
theorem e_law_nameL {w : Wd} (h : w.length < 16777216) : φ__law_name [chL w] = some (.val (dW w), []) := by
  obtain ⟨s', ih⟩ := l_law_name (X := chL w) w [] .un (by simpa using h)
  simp only [List.map_nil] at ih
  have it : itemsR (chL w) = some (chR w) := by simp [chL, itemsR, chR]
  refine phi_Rt ?_ rfl
  show Rt g__law_name ⟨false, [.fz (chL w), .un, .un]⟩ _
  unfold g__law_name
  refine rt_seq (ρ1 := ⟨false, [.fz (chL w), .ow [], .un]⟩) (by rfl) ?_
  refine rt_seq (ρ1 := ⟨false, [.fz (chL w), .ow ((runs w).map dr), s']⟩) ?_ ?_
  · have : iAny (gVar 0) ⟨false, [.fz (chL w), .ow [], .un]⟩ = some (chR w, ⟨false, [.fz (chL w), .ow [], .un]⟩) := by
      simp only [iAny, gVar, List.getElem?_cons_zero, Option.bind_some, frz, it, Option.map_some]
    simp only [sFor, this, Option.bind_some]
    exact ih
  · exact rt_ret (by rfl)
theorem e_law_pen {ns : List Int} : φ__law_pen [.fls (ns.map .int)] = some (.new (penD (ns.take 60) 0 0), []) := by
  have c1 : gComp (iAny (gSl (gVar 0) gNoP (gP (gC (.int 60))))) (.nm 1) gYes X__law_pen_0 [1] ⟨false, [.fz (.fls (ns.map .int)), .un]⟩ = some (.nw ((((ns.take 60).map D.int).map Rv.val).map valD), ⟨false, [.fz (.fls (ns.map .int)), .un]⟩) := by
    refine comp_w ⟨false, [.fz (.fls (ns.map .int)), .un]⟩ valD (items := ((ns.take 60).map D.int).map Rv.val) (by rfl) ?_ (by rfl) (by rfl) (by simp; omega) ?_
    · have : cutD (ns.map D.int) none (some 60) = (ns.take 60).map D.int := by
        have := cut_take (ns.map D.int) 60
        rw [← List.map_take] at this
        exact this
      simp only [iAny, gSl, gVar, List.getElem?_cons_zero, Option.bind_some, gNoP, gP, gC, dat, oSl, this, Option.map_some, Rv.res, frz, itemsR]
    · intro r hr
      simp only [List.mem_map] at hr
      obtain ⟨d, ⟨z, _, rfl⟩, rfl⟩ := hr
      exact ⟨⟨false, [.fz (.fls (ns.map .int)), .fz (.int z)]⟩, by rfl, by rfl, by rfl, rfl⟩
  have e : (((ns.take 60).map D.int).map Rv.val).map valD = (ns.take 60).map D.int := by simp [Function.comp_def, valD]
  rw [e] at c1
  have l1 : gLst (aCons (gComp (iAny (gSl (gVar 0) gNoP (gP (gC (.int 60))))) (.nm 1) gYes X__law_pen_0 [1]) (aCons (gC (.int 0)) (aCons (gC (.int 0)) aNil))) ⟨false, [.fz (.fls (ns.map .int)), .un]⟩ = some (.nw (penD (ns.take 60) 0 0), ⟨false, [.fz (.fls (ns.map .int)), .un]⟩) := by
    simp only [gLst, aCons, c1, Option.bind_some, frz, gC, aNil, Option.map_some]
    rfl
  refine phi_Rt (r := .new (penD (ns.take 60) 0 0)) ?_ rfl
  show Rt g__law_pen ⟨false, [.fz (.fls (ns.map .int)), .un]⟩ _
  unfold g__law_pen
  exact ⟨⟨false, [.fz (.fls (ns.map .int)), .un]⟩, by simp only [sRet, l1, Option.bind_some, retR, Option.map_some]⟩
end W
end

section
set_option Elab.async false
set_option linter.all false
set_option maxRecDepth 100000
set_option maxHeartbeats 4000000
namespace Lim
theorem om_one {h p : Wd} {x : Bool} (hp : p ≠ []) (hx : ∀ y ∈ p, y = x) : om h p = app (due x h) (cst x) := by
  obtain ⟨d1, d2, d3⟩ := due_ok x h
  have e1 : om (due x h) [x] = app (due x h) (cst x) := by
    unfold om
    rw [per_one (p := [x]) (x := x) (by simp) (by simp)]
  rw [← e1, d2]
  unfold om
  rw [per_one hp hx, per_one (p := [x]) (x := x) (by simp) (by simp)]
theorem letters_cases (p : Wd) (hp : p ≠ []) : (∃ x, ∀ y ∈ p, y = x) ∨ (false ∈ p ∧ true ∈ p) := by
  by_cases h1 : false ∈ p
  · by_cases h2 : true ∈ p
    · exact .inr ⟨h1, h2⟩
    · refine .inl ⟨false, fun y hy => ?_⟩
      cases y
      · rfl
      · exact absurd hy h2
  · refine .inl ⟨true, fun y hy => ?_⟩
    cases y
    · exact absurd hy h1
    · rfl
end Lim
namespace W
open DL Lim
theorem side_vec {k : Wd} {x : Bool} (S : Short k [x]) : vec (sideOf k x) = actw k (tipOf x) := by
  rcases List.eq_nil_or_concat k with h | ⟨j, y, h⟩
  · subst h
    cases x <;> rfl
  · have h : k = j ++ [y] := by simpa using h
    subst h
    have ne : y ≠ x := fun z => S.last (by simp [z])
    have e : sideOf (j ++ [y]) x = .word j := by simp [sideOf]
    rw [e, actw_tip j x y ne]
    rfl
theorem side_ok {k : Wd} {x : Bool} (h : k.length ≤ 100) : NameOk (sideOf k x) ∧ ∀ v, sideOf k x = .word v → v.length ≤ 150 := by
  unfold sideOf
  split
  · cases x
    · exact ⟨trivial, fun v z => by cases z⟩
    · exact ⟨trivial, fun v z => by cases z⟩
  · refine ⟨pok (by rw [List.length_dropLast]; omega), fun v z => by
      cases z
      rw [List.length_dropLast]; omega⟩
/-- the limit told, in both kinds -/
inductive Told (h p : Wd) : D → Bool → Prop
  | slant (x : Bool) (hx : ∀ y ∈ p, y = x) : Told h p (slantD (sideOf (due x h) x)) true
  | root (ha : false ∈ p) (hb : true ∈ p) : Told h p (rootD h p) false
theorem told_facts {h p h' p' : Wd} (pne : p ≠ []) (hl : h.length ≤ 20) (pl : p.length ≤ 20) (S : ShOk h p h' p') : ∃ (told : D) (isl : Bool), φ_limit_of [dW h, dW p] = some (.val told, []) ∧ φ_limit_of [dW h', dW p'] = some (.val told, []) ∧ shp told = true ∧ Told h p told isl := by
  have l1 := S.pl
  have l2 := S.hl
  have pne' := S.short.ne
  rcases letters_cases p pne with ⟨x, hx⟩ | ⟨ha, hb⟩
  · have hx' : ∀ y ∈ p', y = x := fun y hy => hx y (mem_of_om pne' pne S.om hy)
    obtain ⟨k, e1, e2, k1, k2, k3⟩ := e_limit_slant (h := h) (p := p) pne (by omega) (by omega) hx
    obtain ⟨j, f1, f2, j1, j2, j3⟩ := e_limit_slant (h := h') (p := p') pne' (by omega) (by omega) hx'
    have ke := (due_short pne hx k1 k2).1
    have je := (due_short pne hx j1 (j2.trans S.om)).1
    subst ke
    subst je
    exact ⟨_, true, e1, f1, shp_slant _, .slant x hx⟩
  · have ha' := mem_of_om pne pne' S.om.symm ha
    have hb' := mem_of_om pne pne' S.om.symm hb
    refine ⟨rootD h p, false, e_limit_root ha hb (by omega), ?_, shp_root _ _, .root ha hb⟩
    rw [root_om ha hb ha' hb' S.om.symm]
    exact e_limit_root ha' hb' (by omega)
theorem short_to {h p h' p' h1 p1 : Wd} (S : ShOk h p h' p') (e : om h1 p1 = om h p) (hp : p1 ≠ []) (l1 : h1.length ≤ 500) (l2 : p1.length ≤ 500) : φ_shortened [dW h1, dW p1] = some (.val (.tup [dW h', dW p']), []) := by
  obtain ⟨k, q, e1, _, S1⟩ := e_shortened hp l1 l2
  obtain ⟨e2, e3⟩ := short_unique S1.short S.short (by rw [S1.om, e, S.om])
  subst e2
  subst e3
  exact e1
/-! ## one slant -/
theorem e_above_root0 {G : Eqn} {q : Int} {g : Bool} : φ__law_is_above_root [dv2 (0, q), dE G, .bl g] = some (.val (.bl true), []) := by
  refine phi_Rt ?_ rfl
  show Rt g__law_is_above_root ⟨false, [.fz (dv2 (0, q)), .fz (dE G), .fz (.bl g), .un, .un, .un, .un, .un, .un, .un]⟩ _
  unfold g__law_is_above_root
  refine rt_seq (ρ1 := ⟨false, [.fz (dv2 (0, q)), .fz (dE G), .fz (.bl g), .fz (.int 0), .fz (.int q), .fz (.int G.a), .fz (.int G.b), .fz (.int G.c), .un, .un]⟩) (by simp [phiP, env0, sSeq, sIf, sNx, sRet, sRetN, sSet, sAsg, sPar, sPar3, sItem, sDrop, sFor, sBk, sCt, sNever, gNot, gTb, gAnd, gOr, gCallX, aCons, aNil, aStar, gVar, gC, gAndV, gOrV, gNotV, gBin, gUn, gIfE, gTup, gLst, gSl, gP, gNoP, gM, iAny, iRange, iRange2, iRev, iZip, frz, unb, setR, retR, asB, dat, slD, asg_nm, asg_tp, asgs_nil, asgs_cons, asgR, Rv.res, RF.res, Ev.put, oIs, isNonD, oCmpI, oI, oNeg, oLen, itemsOf, itemsR, revR, zipD, zipR, oTuple, oList, oBool, oIsi, oIsi2, isT, tyD, oEq_int, oEq_cc, oEq_lnil, oEq_drs, mApp, mExt, mPop, dv2, dE]) ?_
  have tz := t_b (v_eqI false (ga := gVar 3) (gb := gC (.int 0)) (ρ := ⟨false, [.fz (dv2 (0, q)), .fz (dE G), .fz (.bl g), .fz (.int 0), .fz (.int q), .fz (.int G.a), .fz (.int G.b), .fz (.int G.c), .un, .un]⟩) (i := 0) (j := 0) (v_var rfl) v_c)
  exact rt_now (rt_ifT tz (rt_ret v_c))
theorem vec_north {s : Sla} (h : (vec s).1 = 0) : s = .north := by
  cases s with
  | east => cases h
  | north => rfl
  | word v => have := back_pos v; simp only [vec] at h; omega
theorem sm_up {j k : Nat} {x : Int} (h : Sm j x) (hk : j ≤ k := by decide) : Sm k x := h.mono hk
/-- what the law reckons of a slant is what is_beyond tells -/
theorem one_root {h p : Wd} (ha : false ∈ p) (hb : true ∈ p) (hl : h.length < 100) (pl : p.length < 100) {v : Int × Int} (V : SlaOk v) {s : Sla} (hv : vec s = v) {b : Bool} (hbey : b = true ↔ Bey s (om h p)) :
    φ__law_is_above_root [dv2 v, dE (low (eq2 h p)), .bl (gr h p)] = some (.val (.bl b), []) := by
  subst hv
  by_cases z : (vec s).1 = 0
  · have e := vec_north z
    subst e
    have : b = true := by
      rw [hbey]
      intro all
      obtain ⟨n, hn, e⟩ := per_has ha
      have := all (n + h.length)
      rw [om_ge, e] at this
      cases this
    rw [this]
    exact e_above_root0
  · obtain ⟨n1, lw, dpos, _, s', St⟩ := root_facts (h := h) ha hb
    have sz := sm_low St.ne St.eq (sm_eq2 hl pl)
    have e := e_above_root (G := low (eq2 h p)) (v := vec s) (g := gr h p) (sz.mono (by decide)) (V.s1.mono (by decide)) (V.s2.mono (by decide)) z
    have gs : gr h p = true ↔ 0 < s' := by
      unfold gr
      rw [decide_eq_true_iff]
      exact gr_s St
    have c := crit_iff (G := low (eq2 h p)) (v := vec s) gs
    have : b = crit (gr h p) (low (eq2 h p)) (vec s) := by
      apply Bool.eq_iff_iff.mpr
      rw [hbey, c, show om h p = app h (per p) from rfl, bey_pr app_per ha hb]
      exact (St.pr (by have := V.h1; omega) V.h2).symm
    rw [this]
    exact e
theorem one_slant {h p : Wd} {x : Bool} (hp : p ≠ []) (hx : ∀ y ∈ p, y = x) (hl : h.length < 100) {v : Int × Int} (V : SlaOk v) {s : Sla} (hv : vec s = v) {b : Bool} (hbey : b = true ↔ Bey s (om h p)) :
    φ_way_of [dS (sideOf (due x h) x)] = some (.val (dv2 (vec (sideOf (due x h) x))), []) ∧ φ__law_above [dv2 v, dv2 (vec (sideOf (due x h) x))] = some (.val (.bl b), []) := by
  obtain ⟨d1, d2, d3⟩ := due_ok x h
  obtain ⟨k1, k2⟩ := side_ok (k := due x h) (x := x) (by omega)
  have vl := vec_le k2
  have vn := vec_nn (sideOf (due x h) x)
  have sm : ∀ z : Int, 0 ≤ z → z ≤ 2 ^ 150 → Sm 1000 z := fun z h0 h1 => by
    unfold Sm
    have e : (2 : Int) ^ 150 = ((2 ^ 150 : Nat) : Int) := by simp
    rw [e] at h1
    exact Nat.lt_of_le_of_lt (show z.natAbs ≤ 2 ^ 150 by omega) (by decide +kernel)
  have e := e_law_above (u := v) (v := vec (sideOf (due x h) x)) (V.s2.mono (by decide)) (sm _ vn.1 vl.1) (sm _ vn.2.1 vl.2) (V.s1.mono (by decide))
  have : b = decide (0 < cross v (vec (sideOf (due x h) x))) := by
    apply Bool.eq_iff_iff.mpr
    rw [hbey, om_one hp hx, bey_tail, hv, decide_eq_true_iff, side_vec d1]
  rw [this]
  exact ⟨e_way_of k1 k2, e⟩
end W
end

section
set_option Elab.async false
set_option linter.all false
set_option maxRecDepth 100000
set_option maxHeartbeats 4000000
namespace W
open DL Lim
/-! # The law's lap: the slants one by one -/
def sL (S : D) (cs : List D) (x2 x3 x4 x5 x6 x7 x8 x9 x10 x11 x12 x13 x14 x15 x16 x17 x18 x19 x20 x21 : Sl) : Ev := ⟨false, [.fz S, .ow cs, x2, x3, x4, x5, x6, x7, x8, x9, x10, x11, x12, x13, x14, x15, x16, x17, x18, x19, x20, x21, .un]⟩
theorem told_len {h : Wd} (hl : h.length ≤ 20) : h.length < 16777216 := by omega
section
variable {S : D} {cs : List D} {x2 x6 x7 x9 x10 x11 x13 x14 x15 x16 x17 x18 x19 x20 x21 : Sl} {h p : Wd} {told : D} {isl : Bool}
theorem b_one (pne : p ≠ []) (hl : h.length ≤ 20) (pl : p.length ≤ 20) (T : Told h p told isl) {v : Int × Int} (V : SlaOk v) :
    ∃ y13 y14, L_law_0 (sL S cs x2 (.fz (tx h)) (.fz (tx p)) (.fz told) x6 x7 (.fz (.bl isl)) x9 x10 x11 (.fz (dv2 v)) x13 x14 x15 x16 x17 x18 x19 x20 x21)
      = some (.nx (sL S cs x2 (.fz (tx h)) (.fz (tx p)) (.fz told) x6 x7 (.fz (.bl isl)) x9 x10 x11 (.fz (dv2 v)) y13 y14 x15 x16 x17 x18 x19 x20 x21)) := by
  obtain ⟨s, n1, n2, n3⟩ := e_name_of V.h1 V.h2 V.cop (V.s1.mono (by decide)) (V.s2.mono (by decide)) V.hb
  obtain ⟨b, b1, b2⟩ := e_is_beyond (h := h) (p := p) pne (by omega) (by omega) s n3
  have nh := e_law_name (w := h) (by omega)
  have np := e_law_name (w := p) (by omega)
  refine ⟨.fz (dS s), .fz (.bl b), ?_⟩
  unfold L_law_0
  refine seq_nx (set_fz (v_call0 (ds := [dv2 v]) (a_cons (v_var rfl) a_nil) n1) rfl) ?_
  refine seq_nx (set_fz (v_call0 (ds := [dS s, dW h, dW p]) (a_cons (v_var rfl) (a_cons (v_call0 (ds := [tx h]) (a_cons (v_var rfl) a_nil) nh) (a_cons (v_call0 (ds := [tx p]) (a_cons (v_var rfl) a_nil) np) a_nil))) b1) rfl) ?_
  show sIf _ _ _ (sL S cs x2 (.fz (tx h)) (.fz (tx p)) (.fz told) x6 x7 (.fz (.bl isl)) x9 x10 x11 (.fz (dv2 v)) (.fz (dS s)) (.fz (.bl b)) x15 x16 x17 x18 x19 x20 x21) = _
  have eb : oEq true (.bl b) (.bl b) = some (.val (.bl false)) := eq_self (d := .bl b) rfl true
  cases T with
  | slant x hx =>
    obtain ⟨w1, w2⟩ := one_slant pne hx (by omega) V n2 b2
    refine if_t (t_b (v_var rfl)) ?_
    refine if_f (t_b (v_bin (d1 := .bl b) (v_var rfl) (v_call0 (a_cons (v_var rfl) (a_cons (v_call0 (a_cons (v_ix (l := [.str sSlant, dS (sideOf (due x h) x)]) (v_var rfl) v_c (atI_1 _ _ _)) a_nil) w1) a_nil)) w2) eb)) rfl
  | root ha hb =>
    have w := one_root ha hb (by omega) (by omega) V n2 b2
    refine if_f (t_b (v_var rfl)) ?_
    refine if_f (t_b (v_bin (d1 := .bl b) (v_var rfl) (v_call0 (a_cons (v_var rfl) (a_cons (v_ix (l := [.str sRoot, dE (low (eq2 h p)), .bl (gr h p)]) (v_var rfl) v_c (atI_1 _ _ _)) (a_cons (v_ix (l := [.str sRoot, dE (low (eq2 h p)), .bl (gr h p)]) (v_var rfl) v_c (by rfl)) a_nil))) w) eb)) rfl
theorem l_one (pne : p ≠ []) (hl : h.length ≤ 20) (pl : p.length ≤ 20) (T : Told h p told isl) : ∀ (L : List (Int × Int)) (x12 x13 x14 : Sl), (∀ v ∈ L, SlaOk v) →
    ∃ y12 y13 y14, loopG (.nm 12) L_law_0 (L.map fun v => .val (dv2 v)) (sL S cs x2 (.fz (tx h)) (.fz (tx p)) (.fz told) x6 x7 (.fz (.bl isl)) x9 x10 x11 x12 x13 x14 x15 x16 x17 x18 x19 x20 x21)
      = some (.nx (sL S cs x2 (.fz (tx h)) (.fz (tx p)) (.fz told) x6 x7 (.fz (.bl isl)) x9 x10 x11 y12 y13 y14 x15 x16 x17 x18 x19 x20 x21))
  | [], x12, x13, x14, _ => ⟨x12, x13, x14, rfl⟩
  | v :: L, x12, x13, x14, hL => by
    obtain ⟨z13, z14, e1⟩ := b_one (S := S) (cs := cs) (x2 := x2) (x6 := x6) (x7 := x7) (x9 := x9) (x10 := x10) (x11 := x11) (x13 := x13) (x14 := x14) (x15 := x15) (x16 := x16) (x17 := x17) (x18 := x18) (x19 := x19) (x20 := x20) (x21 := x21) pne hl pl T (hL v (by simp))
    obtain ⟨y12, y13, y14, ih⟩ := l_one pne hl pl T L (.fz (dv2 v)) z13 z14 (fun u hu => hL u (by simp [hu]))
    refine ⟨y12, y13, y14, ?_⟩
    have e0 : asgR (.nm 12) (.val (dv2 v)) (sL S cs x2 (.fz (tx h)) (.fz (tx p)) (.fz told) x6 x7 (.fz (.bl isl)) x9 x10 x11 x12 x13 x14 x15 x16 x17 x18 x19 x20 x21) = some (sL S cs x2 (.fz (tx h)) (.fz (tx p)) (.fz told) x6 x7 (.fz (.bl isl)) x9 x10 x11 (.fz (dv2 v)) x13 x14 x15 x16 x17 x18 x19 x20 x21) := rfl
    simp only [List.map_cons, loopG, e0, Option.bind_some, e1]
    exact ih
/-! ## the tail, a slant -/
theorem ct_seq {g k : GS} {ρ ρ1 ρ' : Ev} (h1 : g ρ = some (.nx ρ1)) (h2 : k ρ1 = some (.ct ρ')) : sSeq g k ρ = some (.ct ρ') := seq_nx h1 h2
theorem ct_now {g k : GS} {ρ ρ' : Ev} (h1 : g ρ = some (.ct ρ')) : sSeq g k ρ = some (.ct ρ') := by
  simp only [sSeq, h1, Option.bind_some]
theorem t_orF {g k : GT} {ρ : Ev} (h1 : EvT g ρ false) (h2 : EvT k ρ false) : EvT (gOr g k) ρ false := t_or h1 (fun _ => h2)
theorem t_andF {g k : GT} {ρ : Ev} (h1 : EvT g ρ false) : EvT (gAnd g k) ρ false := t_and (a := false) (b := false) h1 (fun z => by cases z)
theorem t_andG {g k : GT} {ρ : Ev} (h1 : EvT g ρ true) (h2 : EvT k ρ false) : EvT (gAnd g k) ρ false := t_and (a := true) (b := false) h1 (fun _ => h2)
theorem v_lastS {ρ : Ev} {ga : GE} {w : Wd} {y : Bool} (h : Ev1 ga ρ (tx (w ++ [y]))) (hl : w.length ≤ 1000) : Ev1 (gBin oIx ga (gUn oNeg (gC (.int 1)))) ρ (.str [cc y]) := by
  refine v_bin (d1 := tx (w ++ [y])) (d2 := .int (-1)) h (v_un (d1 := .int 1) (op := oNeg) v_c rfl) ?_
  have : L2.atI ((w ++ [y]).map cc) (-1) = some (cc y) := by
    rw [List.map_append]; exact atI_m1 _ _
  simp only [tx, oIx, this]
  rw [if_pos (by simp; omega)]
  rfl
theorem v_initS {ρ : Ev} {ga : GE} {w : Wd} (h : Ev1 ga ρ (tx w)) (hl : w.length ≤ 1000) : Ev1 (gSl ga gNoP (gP (gUn oNeg (gC (.int 1))))) ρ (tx w.dropLast) := by
  have := v_slS h p_no (p_i (v_un (op := oNeg) (d1 := .int 1) (d := .int (-1)) v_c rfl)) (by simp; omega)
  rw [cut_init, ← List.map_dropLast] at this
  exact this
theorem l_due {x3 x4 x5 x8 x12 : Sl} {x : Bool} : ∀ (N : Nat) (w : Wd), w.length < N → w.length ≤ 1000 →
    whileG C_law_0 L_law_1 N (sL S cs x2 x3 x4 x5 x6 x7 x8 x9 x10 (.fz (.str [cc x])) x12 x13 x14 (.fz (tx w)) x16 x17 x18 x19 x20 x21) = some (.nx (sL S cs x2 x3 x4 x5 x6 x7 x8 x9 x10 (.fz (.str [cc x])) x12 x13 x14 (.fz (tx (due x w))) x16 x17 x18 x19 x20 x21))
  | 0, w, h, _ => by omega
  | N + 1, w, h, hl => by
    have t1 := t_b (v_bin (op := oEq true) (ga := gVar 15) (gb := gC (.str [])) (ρ := sL S cs x2 x3 x4 x5 x6 x7 x8 x9 x10 (.fz (.str [cc x])) x12 x13 x14 (.fz (tx w)) x16 x17 x18 x19 x20 x21) (v_var rfl) v_c (tx_eq true w []))
    simp only [if_true] at t1
    rcases List.eq_nil_or_concat w with e | ⟨j, y, e⟩
    · subst e
      have tc := t_and (g := gTb (gBin (oEq true) (gVar 15) (gC (.str [])))) (h := gTb (gBin (oEq false) (gBin oIx (gVar 15) (gUn oNeg (gC (.int 1)))) (gVar 11))) (b := false) t1 (fun z => by simp at z)
      simp only [decide_true, Bool.not_true, Bool.false_and] at tc
      have tc : C_law_0 _ = _ := tc
      simp only [whileG, tc, Option.bind_some, Bool.false_eq_true, if_false]
      rfl
    · have e : w = j ++ [y] := by simpa using e
      subst e
      have jl : j.length ≤ 1000 := by simp at hl; omega
      have t2 := t_b (v_bin (op := oEq false) (gb := gVar 11) (v_lastS (ga := gVar 15) (ρ := sL S cs x2 x3 x4 x5 x6 x7 x8 x9 x10 (.fz (.str [cc x])) x12 x13 x14 (.fz (tx (j ++ [y]))) x16 x17 x18 x19 x20 x21) (v_var rfl) jl) (v_var rfl) (oEq_cc false y x))
      simp only [Bool.false_eq_true, if_false] at t2
      have tc := t_and t1 (fun _ => t2)
      have d1 : decide (j ++ [y] = []) = false := decide_eq_false (by simp)
      rw [d1] at tc
      simp only [Bool.not_false, Bool.true_and] at tc
      have tc : C_law_0 _ = _ := tc
      by_cases q : y = x
      · subst q
        simp only [beq_self_eq_true] at tc
        have st : L_law_1 (sL S cs x2 x3 x4 x5 x6 x7 x8 x9 x10 (.fz (.str [cc y])) x12 x13 x14 (.fz (tx (j ++ [y]))) x16 x17 x18 x19 x20 x21) = some (.nx (sL S cs x2 x3 x4 x5 x6 x7 x8 x9 x10 (.fz (.str [cc y])) x12 x13 x14 (.fz (tx j)) x16 x17 x18 x19 x20 x21)) := by
          have := v_initS (ga := gVar 15) (w := j ++ [y]) (ρ := sL S cs x2 x3 x4 x5 x6 x7 x8 x9 x10 (.fz (.str [cc y])) x12 x13 x14 (.fz (tx (j ++ [y]))) x16 x17 x18 x19 x20 x21) (v_var rfl) hl
          rw [List.dropLast_concat] at this
          exact set_fz this rfl
        have ih := l_due (x3 := x3) (x4 := x4) (x5 := x5) (x8 := x8) (x12 := x12) (x := y) N j (by simp at h; omega) jl
        simp only [whileG, tc, Option.bind_some, if_true, st, ih, due_snoc]
      · have d2 : (y == x) = false := by simpa using q
        rw [d2] at tc
        simp only [whileG, tc, Option.bind_some, Bool.false_eq_true, if_false, due_snoc_ne q]
def tailS : GS := (sSeq (sSet 11 (gBin oIx (gVar 4) (gC (.int 0))))
  (sSeq (sSet 15 (gVar 3))
  (sSeq (whileG C_law_0
  L_law_1 big)
  (sSeq (sIf (gOr (gAnd (gTb (gBin (oEq false) (gVar 15) (gC (.str [])))) (gTb (gBin (oEq true) (gBin oIx (gVar 5) (gC (.int 1))) (gIfE (gTb (gBin (oEq false) (gVar 11) (gC (.str [98])))) (gC (.str [110, 111, 114, 116, 104])) (gC (.str [101, 97, 115, 116])))))) (gAnd (gTb (gBin (oEq true) (gVar 15) (gC (.str [])))) (gTb (gBin (oEq true) (gBin oIx (gVar 5) (gC (.int 1))) (gCallX φ__law_name [] (aCons (gSl (gVar 15) gNoP (gP (gUn oNeg (gC (.int 1))))) aNil))))))
  (sRet (gC (.bl false)))
  sNx)
  sCt))))
theorem e_tailS {x8 x12 : Sl} {x : Bool} (pne : p ≠ []) (hl : h.length ≤ 20) (pl : p.length ≤ 20) (hx : ∀ y ∈ p, y = x) :
    ∃ y15, tailS (sL S cs x2 (.fz (tx h)) (.fz (tx p)) (.fz (slantD (sideOf (due x h) x))) x6 x7 x8 x9 x10 x11 x12 x13 x14 x15 x16 x17 x18 x19 x20 x21)
      = some (.ct (sL S cs x2 (.fz (tx h)) (.fz (tx p)) (.fz (slantD (sideOf (due x h) x))) x6 x7 x8 x9 x10 (.fz (.str [cc x])) x12 x13 x14 y15 x16 x17 x18 x19 x20 x21)) := by
  obtain ⟨d1, d2, d3⟩ := due_ok x h
  refine ⟨.fz (tx (due x h)), ?_⟩
  have v1 : Ev1 (gBin oIx (gVar 4) (gC (.int 0))) (sL S cs x2 (.fz (tx h)) (.fz (tx p)) (.fz (slantD (sideOf (due x h) x))) x6 x7 x8 x9 x10 x11 x12 x13 x14 x15 x16 x17 x18 x19 x20 x21) (.str [cc x]) := by
    cases p with
    | nil => exact absurd rfl pne
    | cons y p =>
      have := hx y (by simp)
      subst this
      refine v_bin (d1 := tx (y :: p)) (d2 := .int 0) (v_var rfl) v_c ?_
      simp only [tx, List.map_cons, oIx, atI_0, Option.map_some]
      rw [if_pos (by simp at pl ⊢; omega)]
  unfold tailS
  refine ct_seq (set_fz v1 rfl) ?_
  refine ct_seq (set_fz (v_var rfl) rfl) ?_
  show sSeq _ _ (sL S cs x2 (.fz (tx h)) (.fz (tx p)) (.fz (slantD (sideOf (due x h) x))) x6 x7 x8 x9 x10 (.fz (.str [cc x])) x12 x13 x14 (.fz (tx h)) x16 x17 x18 x19 x20 x21) = _
  refine ct_seq (l_due (x := x) big h (by have : 20 < big := by decide +kernel
                                          omega) (by omega)) ?_
  have nd := e_law_name (w := (due x h).dropLast) (by rw [List.length_dropLast]; omega)
  have w5 : Ev1 (gBin oIx (gVar 5) (gC (.int 1))) (sL S cs x2 (.fz (tx h)) (.fz (tx p)) (.fz (slantD (sideOf (due x h) x))) x6 x7 x8 x9 x10 (.fz (.str [cc x])) x12 x13 x14 (.fz (tx (due x h))) x16 x17 x18 x19 x20 x21) (dS (sideOf (due x h) x)) := v_ix (l := [.str sSlant, dS (sideOf (due x h) x)]) (v_var rfl) v_c (atI_1 _ _ _)
  have tA := t_b (v_bin (op := oEq false) (ga := gVar 15) (gb := gC (.str [])) (ρ := sL S cs x2 (.fz (tx h)) (.fz (tx p)) (.fz (slantD (sideOf (due x h) x))) x6 x7 x8 x9 x10 (.fz (.str [cc x])) x12 x13 x14 (.fz (tx (due x h))) x16 x17 x18 x19 x20 x21) (v_var rfl) v_c (tx_eq false (due x h) []))
  have tB := t_b (v_bin (op := oEq true) (ga := gVar 15) (gb := gC (.str [])) (ρ := sL S cs x2 (.fz (tx h)) (.fz (tx p)) (.fz (slantD (sideOf (due x h) x))) x6 x7 x8 x9 x10 (.fz (.str [cc x])) x12 x13 x14 (.fz (tx (due x h))) x16 x17 x18 x19 x20 x21) (v_var rfl) v_c (tx_eq true (due x h) []))
  simp only [Bool.false_eq_true, if_false, if_true] at tA tB
  have tD := fun (z : due x h ≠ []) => t_b (v_bin (op := oEq true) w5 (v_call0 (ds := [tx (due x h).dropLast]) (a_cons (v_initS (ga := gVar 15) (v_var rfl) (by omega)) a_nil) nd) (show oEq true (dS (sideOf (due x h) x)) (dW (due x h).dropLast) = some (.val (.bl false)) by
    have : sideOf (due x h) x = .word (due x h).dropLast := by unfold sideOf; rw [if_neg z]
    rw [this]
    exact eq_self (shp_dW _) true))
  have tE := fun (z : due x h = []) => t_b (v_bin (op := oEq true) w5 (show Ev1 (gIfE (gTb (gBin (oEq false) (gVar 11) (gC (.str [98])))) (gC (.str [110, 111, 114, 116, 104])) (gC (.str [101, 97, 115, 116]))) _ (dS (sideOf [] x)) by
    have t := t_b (v_bin (op := oEq false) (ga := gVar 11) (gb := gC (.str [98])) (ρ := sL S cs x2 (.fz (tx h)) (.fz (tx p)) (.fz (slantD (sideOf (due x h) x))) x6 x7 x8 x9 x10 (.fz (.str [cc x])) x12 x13 x14 (.fz (tx (due x h))) x16 x17 x18 x19 x20 x21) (v_var rfl) v_c (oEq_str false x))
    simp only [Bool.false_eq_true, if_false] at t
    cases x
    · exact v_ifF t v_c
    · exact v_ifT t v_c) (show oEq true (dS (sideOf (due x h) x)) (dS (sideOf [] x)) = some (.val (.bl false)) by
      rw [z]
      exact eq_self (shp_dS _) true))
  by_cases z : due x h = []
  · have d1 : decide (due x h = []) = true := decide_eq_true z
    rw [d1] at tA tB
    exact ct_seq (if_f (t_orF (t_andG tA (tE z)) (t_andF tB)) rfl) rfl
  · have d1 : decide (due x h = []) = false := decide_eq_false z
    rw [d1] at tA tB
    exact ct_seq (if_f (t_orF (t_andF tA) (t_andG tB (tD z))) rfl) rfl
end
end W
end

section
set_option Elab.async false
set_option linter.all false
set_option maxRecDepth 100000
set_option maxHeartbeats 4000000
namespace W
open DL Lim
/-! ## the tail, a root -/
def tailR : GS := (sSeq (sAsg (.tp [(.nm 16), (.nm 17), (.nm 18)]) (gBin oIx (gVar 5) (gC (.int 1))))
  (sSeq (sIf (gOr (gTb (gBin (oCmpI fun i j => decide (i < j)) (gVar 16) (gC (.int 1)))) (gOr (gTb (gBin (oEq true) (gCallX φ__law_coprime [] (aCons (gBin oIx (gVar 5) (gC (.int 1))) aNil)) (gBin oIx (gVar 5) (gC (.int 1))))) (gOr (gTb (gBin (oCmpI fun i j => decide (i ≤ j)) (gBin (oI fun i j => some (i - j)) (gBin oMul (gVar 17) (gVar 17)) (gBin oMul (gBin oMul (gC (.int 4)) (gVar 16)) (gVar 18))) (gC (.int 0)))) (gTb (gCallX φ__law_is_square [] (aCons (gBin (oI fun i j => some (i - j)) (gBin oMul (gVar 17) (gVar 17)) (gBin oMul (gBin oMul (gC (.int 4)) (gVar 16)) (gVar 18))) aNil))))))
  (sRet (gC (.bl false)))
  sNx)
  (sSeq (sFor (iAny (gC (.str [97, 98]))) (.nm 11)
  L_law_2)
  (sSeq (sSet 20 (gC (.dic [([97], .str [98]), ([98], .str [97])])))
  (sSeq (sSet 21 (gCallX φ_limit_of [] (aCons (gCallX φ__law_name [] (aCons (gComp (iAny (gVar 3)) (.nm 11) gYes X_law_3 [11]) aNil)) (aCons (gCallX φ__law_name [] (aCons (gComp (iAny (gVar 4)) (.nm 11) gYes X_law_2 [11]) aNil)) aNil))))
  (sIf (gTb (gBin (oEq true) (gBin oIx (gVar 21) (gC (.int 1))) (gCallX φ__law_coprime [] (aCons (gTup (aCons (gVar 18) (aCons (gVar 17) (aCons (gVar 16) aNil)))) aNil))))
  (sRet (gC (.bl false)))
  sNx))))))
theorem a_consN {ρ : Ev} {ga : GE} {gs : GA} {xs ds : List D} (h1 : ga ρ = some (.nw xs, ρ)) (h2 : EvA gs ρ ds) : EvA (aCons ga gs) ρ (.lst xs :: ds) := by
  unfold EvA at *
  simp only [aCons, h1, Option.bind_some, frz, h2, Option.map_some]
theorem i_any {ρ : Ev} {g : GE} {d : D} {rs : List Rv} (h : Ev1 g ρ d) (hi : itemsR d = some rs) : iAny g ρ = some (rs, ρ) := by
  unfold Ev1 at h
  simp only [iAny, h, Option.bind_some, frz, hi, Option.map_some]
def swD : Rv → D
  | .val (.str [c]) => .str [if c = 97 then 98 else 97]
  | _ => .non
theorem swD_cc (x : Bool) : swD (.val (.str [cc x])) = .str [cc (!x)] := by cases x <;> rfl
theorem swD_map (w : Wd) : (chR w).map swD = (sw w).map fun x => D.str [cc x] := by
  simp only [chR, sw, List.map_map]
  congr 1
  funext x
  exact swD_cc x
def swDic : D := .dic [([97], .str [98]), ([98], .str [97])]
theorem get_sw (x : Bool) : oDGet swDic (.str [cc x]) = some (.val (swD (.val (.str [cc x])))) := by cases x <;> rfl
section
variable {S : D} {cs : List D} {x2 x6 x7 x8 x9 x10 x12 x13 x14 x15 x16 x17 x18 x19 x20 x21 : Sl} {h p : Wd} {told : D} {isl : Bool}
theorem b_ahead {x : Bool} (ha : false ∈ p) (hb : true ∈ p) (hl : h.length ≤ 20) (pl : p.length ≤ 20) :
    ∃ y19, L_law_2 (sL S cs x2 (.fz (tx h)) (.fz (tx p)) (.fz (rootD h p)) x6 x7 x8 x9 x10 (.fz (.str [cc x])) x12 x13 x14 x15 x16 x17 x18 x19 x20 x21)
      = some (.nx (sL S cs x2 (.fz (tx h)) (.fz (tx p)) (.fz (rootD h p)) x6 x7 x8 x9 x10 (.fz (.str [cc x])) x12 x13 x14 x15 x16 x17 x18 y19 x20 x21)) := by
  obtain ⟨n1, lw, dpos, _, s', St⟩ := root_facts (h := h) ha hb
  have sz := sm_low St.ne St.eq (sm_eq2 (h := h) (p := p) (by omega) (by omega))
  obtain ⟨a1, a2⟩ := low_ahead (h := h) x ha hb
  have e1 := e_limit_root (h := x :: h) ha hb (by simp; omega)
  have e2 := e_law_ahead x (sz.mono (k := 1000) (by decide)) a1
  rw [← a2] at e2
  have nh := e_law_name (w := x :: h) (by simp; omega)
  have np := e_law_name (w := p) (by omega)
  refine ⟨.fz (rootD (x :: h) p), ?_⟩
  unfold L_law_2
  have va : Ev1 (gBin oAdd (gVar 11) (gVar 3)) (sL S cs x2 (.fz (tx h)) (.fz (tx p)) (.fz (rootD h p)) x6 x7 x8 x9 x10 (.fz (.str [cc x])) x12 x13 x14 x15 x16 x17 x18 x19 x20 x21) (tx (x :: h)) := v_addS (u := [x]) (v_var rfl) (v_var rfl) (by simp; omega)
  refine seq_nx (set_fz (v_call0 (a_cons (v_call0 (a_cons va a_nil) nh) (a_cons (v_call0 (ds := [tx p]) (a_cons (v_var rfl) a_nil) np) a_nil)) e1) rfl) ?_
  show sIf _ _ _ (sL S cs x2 (.fz (tx h)) (.fz (tx p)) (.fz (rootD h p)) x6 x7 x8 x9 x10 (.fz (.str [cc x])) x12 x13 x14 x15 x16 x17 x18 (.fz (rootD (x :: h) p)) x20 x21) = _
  have es : oEq true (.str sRoot) (.str sRoot) = some (.val (.bl false)) := eq_self (shp_str (by decide)) true
  refine if_f (t_orF (t_b (v_bin (op := oEq true) (v_ix (l := [.str sRoot, dE (low (eq2 (x :: h) p)), .bl (gr (x :: h) p)]) (v_var rfl) v_c (atI_0 _ _)) v_c es)) (t_b (v_bin (op := oEq true) (v_ix (l := [.str sRoot, dE (low (eq2 (x :: h) p)), .bl (gr (x :: h) p)]) (v_var rfl) v_c (atI_1 _ _ _)) (v_call0 (a_cons (v_var rfl) (a_cons (v_ix (l := [.str sRoot, dE (low (eq2 h p)), .bl (gr h p)]) (v_var rfl) v_c (atI_1 _ _ _)) a_nil)) e2) (eq_self (shp_dE _) true)))) rfl
theorem c_sw {x x16 x17 x18 x19 : Sl} {ge : GE} (hge : ge = gBin oDGet (gVar 20) (gVar 11)) {i : Nat} {w : Wd} (hl : w.length ≤ 100) (hx : ∀ ds, x ≠ .ow ds)
    (hi : iAny (gVar i) (sL S cs x2 (.fz (tx h)) (.fz (tx p)) (.fz told) x6 x7 x8 x9 x10 x x12 x13 x14 x15 x16 x17 x18 x19 (.fz swDic) x21) = some (chR w, sL S cs x2 (.fz (tx h)) (.fz (tx p)) (.fz told) x6 x7 x8 x9 x10 x x12 x13 x14 x15 x16 x17 x18 x19 (.fz swDic) x21)) :
    gComp (iAny (gVar i)) (.nm 11) gYes ge [11] (sL S cs x2 (.fz (tx h)) (.fz (tx p)) (.fz told) x6 x7 x8 x9 x10 x x12 x13 x14 x15 x16 x17 x18 x19 (.fz swDic) x21)
      = some (.nw ((sw w).map fun x => D.str [cc x]), sL S cs x2 (.fz (tx h)) (.fz (tx p)) (.fz told) x6 x7 x8 x9 x10 x x12 x13 x14 x15 x16 x17 x18 x19 (.fz swDic) x21) := by
  subst hge
  rw [← swD_map]
  refine comp_w (sL S cs x2 (.fz (tx h)) (.fz (tx p)) (.fz told) x6 x7 x8 x9 x10 .un x12 x13 x14 x15 x16 x17 x18 x19 (.fz swDic) x21) swD (by rfl) hi ?_ (by rfl) (by simp [chR]; omega) ?_
  · cases x with
    | ow ds => exact absurd rfl (hx ds)
    | un => rfl
    | fz d => rfl
  · intro r hr
    simp only [chR, List.mem_map] at hr
    obtain ⟨y, _, rfl⟩ := hr
    refine ⟨sL S cs x2 (.fz (tx h)) (.fz (tx p)) (.fz told) x6 x7 x8 x9 x10 (.fz (.str [cc y])) x12 x13 x14 x15 x16 x17 x18 x19 (.fz swDic) x21, by rfl, ?_, by rfl, by rfl⟩
    exact v_bin (op := oDGet) (d1 := swDic) (d2 := .str [cc y]) (v_var rfl) (v_var rfl) (get_sw y)
theorem e_tailR {x11 : Sl} (ha : false ∈ p) (hb : true ∈ p) (hl : h.length ≤ 20) (pl : p.length ≤ 20) :
    ∃ y11 y16 y17 y18 y19 y20 y21, (∀ ds, y11 ≠ .ow ds) ∧ tailR (sL S cs x2 (.fz (tx h)) (.fz (tx p)) (.fz (rootD h p)) x6 x7 x8 x9 x10 x11 x12 x13 x14 x15 x16 x17 x18 x19 x20 x21)
      = some (.nx (sL S cs x2 (.fz (tx h)) (.fz (tx p)) (.fz (rootD h p)) x6 x7 x8 x9 x10 y11 x12 x13 x14 x15 y16 y17 y18 y19 y20 y21)) := by
  obtain ⟨n1, lw, dpos, nsq, s', St⟩ := root_facts (h := h) ha hb
  have sz := sm_low St.ne St.eq (sm_eq2 (h := h) (p := p) (by omega) (by omega))
  have ll := low_low lw
  obtain ⟨r1, r2⟩ := low_sw (h := h) ha hb
  have gpos := lw.pos
  have k1 := e_law_coprime (G := low (eq2 h p)) (by omega) (sz.mono (by decide))
  rw [ll] at k1
  have szr : SmE 600 (rev3 (low (eq2 h p))) := ⟨sz.c, sz.b, sz.a⟩
  have k2 := e_law_coprime (G := rev3 (low (eq2 h p))) r1 (szr.mono (by decide))
  rw [← r2] at k2
  have four : Sm 3 (4 : Int) := by unfold Sm; decide
  have m1 := sz.b.cMul sz.b
  have m2 := four.cMul sz.a
  have m3 := (four.mul sz.a (k := 603) (by decide)).cMul sz.c
  have sd : Sm 2000 (low (eq2 h p)).disc := ((sz.b.mul sz.b (k := 1203) (by decide)).sub ((four.mul sz.a (k := 603) (by decide)).mul sz.c (k := 1203) (by decide)) (k := 1204) (by decide)).mono (by decide)
  have k3 := e_not_square (n := (low (eq2 h p)).disc) (by omega) sd nsq
  have e3 := e_limit_root (h := sw h) (p := sw p) (List.mem_map.mpr ⟨true, hb, rfl⟩) (List.mem_map.mpr ⟨false, ha, rfl⟩) (by simp [sw]; omega)
  have nh := e_law_nameL (w := sw h) (by simp [sw]; omega)
  have np := e_law_nameL (w := sw p) (by simp [sw]; omega)
  have dd : (low (eq2 h p)).disc = (low (eq2 h p)).b * (low (eq2 h p)).b - 4 * (low (eq2 h p)).a * (low (eq2 h p)).c := rfl
  have rd : rootD h p = .tup [.str sRoot, dE (low (eq2 h p)), .bl (gr h p)] := rfl
  have rs : rootD (sw h) (sw p) = .tup [.str sRoot, dE (low (eq2 (sw h) (sw p))), .bl (gr (sw h) (sw p))] := rfl
  have bah := fun (x : Bool) (x11 x19 : Sl) (x16 x17 x18 : Sl) => b_ahead (S := S) (cs := cs) (x2 := x2) (x6 := x6) (x7 := x7) (x8 := x8) (x9 := x9) (x10 := x10) (x12 := x12) (x13 := x13) (x14 := x14) (x15 := x15) (x16 := x16) (x17 := x17) (x18 := x18) (x19 := x19) (x20 := x20) (x21 := x21) (x := x) ha hb hl pl
  generalize hG : low (eq2 h p) = G at *
  obtain ⟨z19, q1⟩ := bah false x11 x19 (.fz (.int G.a)) (.fz (.int G.b)) (.fz (.int G.c))
  obtain ⟨w19, q2⟩ := bah true x11 z19 (.fz (.int G.a)) (.fz (.int G.b)) (.fz (.int G.c))
  refine ⟨.fz (.str [cc true]), .fz (.int G.a), .fz (.int G.b), .fz (.int G.c), w19, .fz swDic, .fz (rootD (sw h) (sw p)), (fun ds z => by cases z), ?_⟩
  unfold tailR
  have w5 : ∀ y11 y16 y17 y18 y19 y20 y21 : Sl, Ev1 (gBin oIx (gVar 5) (gC (.int 1))) (sL S cs x2 (.fz (tx h)) (.fz (tx p)) (.fz (rootD h p)) x6 x7 x8 x9 x10 y11 x12 x13 x14 x15 y16 y17 y18 y19 y20 y21) (dE G) := fun _ _ _ _ _ _ _ => v_ix (l := [.str sRoot, dE G, .bl (gr h p)]) (v_var (by rw [rd]; rfl)) v_c (atI_1 _ _ _)
  refine seq_nx (ρ' := sL S cs x2 (.fz (tx h)) (.fz (tx p)) (.fz (rootD h p)) x6 x7 x8 x9 x10 x11 x12 x13 x14 x15 (.fz (.int G.a)) (.fz (.int G.b)) (.fz (.int G.c)) x19 x20 x21) ?_ ?_
  · have w := w5 x11 x16 x17 x18 x19 x20 x21
    unfold Ev1 at w
    simp only [sAsg, w, Option.bind_some, frz]
    rfl
  have vd : Ev1 (gBin (oI fun i j => some (i - j)) (gBin oMul (gVar 17) (gVar 17)) (gBin oMul (gBin oMul (gC (.int 4)) (gVar 16)) (gVar 18))) (sL S cs x2 (.fz (tx h)) (.fz (tx p)) (.fz (rootD h p)) x6 x7 x8 x9 x10 x11 x12 x13 x14 x15 (.fz (.int G.a)) (.fz (.int G.b)) (.fz (.int G.c)) x19 x20 x21) (.int G.disc) := by
    rw [dd]
    exact v_sub (v_mul (v_var rfl) (v_var rfl) m1) (v_mul (v_mul v_c (v_var rfl) m2) (v_var rfl) m3)
  have t1 := t_b (v_cmp (p := fun i j => decide (i < j)) (ga := gVar 16) (gb := gC (.int 1)) (ρ := sL S cs x2 (.fz (tx h)) (.fz (tx p)) (.fz (rootD h p)) x6 x7 x8 x9 x10 x11 x12 x13 x14 x15 (.fz (.int G.a)) (.fz (.int G.b)) (.fz (.int G.c)) x19 x20 x21) (i := G.a) (v_var rfl) v_c)
  have d1 : decide (G.a < 1) = false := decide_eq_false (by omega)
  simp only [d1] at t1
  have t2 := t_b (v_bin (op := oEq true) (v_call0 (a_cons (w5 x11 (.fz (.int G.a)) (.fz (.int G.b)) (.fz (.int G.c)) x19 x20 x21) a_nil) k1) (w5 x11 (.fz (.int G.a)) (.fz (.int G.b)) (.fz (.int G.c)) x19 x20 x21) (eq_self (shp_dE _) true))
  have t3 := t_b (v_cmp (p := fun i j => decide (i ≤ j)) (gb := gC (.int 0)) (j := 0) vd v_c)
  have d3 : decide (G.disc ≤ 0) = false := decide_eq_false (by omega)
  simp only [d3] at t3
  have t4 := t_b (v_call0 (a_cons vd a_nil) k3)
  refine seq_nx (if_f (t_orF t1 (t_orF t2 (t_orF t3 t4))) rfl) ?_
  refine seq_nx (ρ' := sL S cs x2 (.fz (tx h)) (.fz (tx p)) (.fz (rootD h p)) x6 x7 x8 x9 x10 (.fz (.str [cc true])) x12 x13 x14 x15 (.fz (.int G.a)) (.fz (.int G.b)) (.fz (.int G.c)) w19 x20 x21) ?_ ?_
  · have i1 : iAny (gC (.str [97, 98])) (sL S cs x2 (.fz (tx h)) (.fz (tx p)) (.fz (rootD h p)) x6 x7 x8 x9 x10 x11 x12 x13 x14 x15 (.fz (.int G.a)) (.fz (.int G.b)) (.fz (.int G.c)) x19 x20 x21) = some ([Rv.val (.str [cc false]), Rv.val (.str [cc true])], sL S cs x2 (.fz (tx h)) (.fz (tx p)) (.fz (rootD h p)) x6 x7 x8 x9 x10 x11 x12 x13 x14 x15 (.fz (.int G.a)) (.fz (.int G.b)) (.fz (.int G.c)) x19 x20 x21) := rfl
    have a1 : asgR (.nm 11) (Rv.val (.str [cc false])) (sL S cs x2 (.fz (tx h)) (.fz (tx p)) (.fz (rootD h p)) x6 x7 x8 x9 x10 x11 x12 x13 x14 x15 (.fz (.int G.a)) (.fz (.int G.b)) (.fz (.int G.c)) x19 x20 x21) = some (sL S cs x2 (.fz (tx h)) (.fz (tx p)) (.fz (rootD h p)) x6 x7 x8 x9 x10 (.fz (.str [cc false])) x12 x13 x14 x15 (.fz (.int G.a)) (.fz (.int G.b)) (.fz (.int G.c)) x19 x20 x21) := rfl
    have a2 : asgR (.nm 11) (Rv.val (.str [cc true])) (sL S cs x2 (.fz (tx h)) (.fz (tx p)) (.fz (rootD h p)) x6 x7 x8 x9 x10 (.fz (.str [cc false])) x12 x13 x14 x15 (.fz (.int G.a)) (.fz (.int G.b)) (.fz (.int G.c)) z19 x20 x21) = some (sL S cs x2 (.fz (tx h)) (.fz (tx p)) (.fz (rootD h p)) x6 x7 x8 x9 x10 (.fz (.str [cc true])) x12 x13 x14 x15 (.fz (.int G.a)) (.fz (.int G.b)) (.fz (.int G.c)) z19 x20 x21) := rfl
    simp only [sFor, i1, Option.bind_some, loopG, a1, q1, a2, q2]
  refine seq_nx (set_fz (d := swDic) v_c rfl) ?_
  show sSeq _ _ (sL S cs x2 (.fz (tx h)) (.fz (tx p)) (.fz (rootD h p)) x6 x7 x8 x9 x10 (.fz (.str [cc true])) x12 x13 x14 x15 (.fz (.int G.a)) (.fz (.int G.b)) (.fz (.int G.c)) w19 (.fz swDic) x21) = _
  have ch := fun w : Wd => show chars (w.map cc) = chR w from chars_tx w
  have g3 := c_sw (S := S) (cs := cs) (x2 := x2) (x6 := x6) (x7 := x7) (x8 := x8) (x9 := x9) (x10 := x10) (x12 := x12) (x13 := x13) (x14 := x14) (x15 := x15) (x16 := .fz (.int G.a)) (x17 := .fz (.int G.b)) (x18 := .fz (.int G.c)) (x19 := w19) (x21 := x21) (h := h) (p := p) (told := rootD h p) (x := .fz (.str [cc true])) (ge := X_law_3) rfl (i := 3) (w := h) (by omega) (fun ds z => by cases z) (i_any (v_var rfl) (show itemsR (tx h) = some (chR h) by simp only [tx, itemsR, ch]))
  have g4 := c_sw (S := S) (cs := cs) (x2 := x2) (x6 := x6) (x7 := x7) (x8 := x8) (x9 := x9) (x10 := x10) (x12 := x12) (x13 := x13) (x14 := x14) (x15 := x15) (x16 := .fz (.int G.a)) (x17 := .fz (.int G.b)) (x18 := .fz (.int G.c)) (x19 := w19) (x21 := x21) (h := h) (p := p) (told := rootD h p) (x := .fz (.str [cc true])) (ge := X_law_2) rfl (i := 4) (w := p) (by omega) (fun ds z => by cases z) (i_any (v_var rfl) (show itemsR (tx p) = some (chR p) by simp only [tx, itemsR, ch]))
  refine seq_nx (set_fz (v_call0 (a_cons (v_call0 (a_consN g3 a_nil) nh) (a_cons (v_call0 (a_consN g4 a_nil) np) a_nil)) e3) rfl) ?_
  show sIf _ _ _ (sL S cs x2 (.fz (tx h)) (.fz (tx p)) (.fz (rootD h p)) x6 x7 x8 x9 x10 (.fz (.str [cc true])) x12 x13 x14 x15 (.fz (.int G.a)) (.fz (.int G.b)) (.fz (.int G.c)) w19 (.fz swDic) (.fz (rootD (sw h) (sw p)))) = _
  refine if_f (t_b (v_bin (op := oEq true) (v_ix (l := [.str sRoot, dE (low (eq2 (sw h) (sw p))), .bl (gr (sw h) (sw p))]) (v_var (by rw [rs]; rfl)) v_c (atI_1 _ _ _)) (v_call0 (a_cons (v_tup (ds := [.int G.c, .int G.b, .int G.a]) (a_cons (v_var rfl) (a_cons (v_var rfl) (a_cons (v_var rfl) a_nil))) (by simp)) a_nil) k2) (eq_self (shp_dE _) true))) rfl
end
end W
end

section
set_option Elab.async false
set_option linter.all false
set_option maxRecDepth 100000
set_option maxHeartbeats 4000000
namespace W
open DL Lim
/-! # The lap -/
def NoOw (x : Sl) : Prop := ∀ ds, x ≠ .ow ds
def LapEnd (S : D) (T : Int) (o : Option Out) : Prop := ∃ cs y2 y3 y4 y5 y6 y7 y8 y9 y10 y11 y12 y13 y14 y15 y16 y17 y18 y19 y20 y21, IsPen T cs ∧ NoOw y11 ∧
  (o = some (.nx (sL S cs y2 y3 y4 y5 y6 y7 y8 y9 y10 y11 y12 y13 y14 y15 y16 y17 y18 y19 y20 y21)) ∨ o = some (.ct (sL S cs y2 y3 y4 y5 y6 y7 y8 y9 y10 y11 y12 y13 y14 y15 y16 y17 y18 y19 y20 y21)))
theorem le_seq {S : D} {T : Int} {g k : GS} {ρ ρ1 : Ev} (h1 : g ρ = some (.nx ρ1)) (h2 : LapEnd S T (k ρ1)) : LapEnd S T (sSeq g k ρ) := by
  have : sSeq g k ρ = k ρ1 := seq_nx h1 rfl
  rw [this]; exact h2
theorem par_st {i j : Nat} {ga gb : GE} {ρ ρ1 ρ2 : Ev} {d1 d2 : D} (h1 : ga ρ = some (.fz d1, ρ1)) (h2 : gb ρ1 = some (.fz d2, ρ2)) (hio : ρ2.io = false) : sPar i j ga gb ρ = some (.nx ((ρ2.put j (.fz d2)).put i (.fz d1))) := by
  have h3 : (ρ2.put j (.fz d2)).io = false := hio
  simp only [sPar, h1, h2, unb, Option.bind_some, setR, hio, h3, Bool.false_and, Bool.false_eq_true, if_false, Option.map_some]
theorem bin_nw {ga gb : GE} {ρ ρ1 ρ2 : Ev} {a b : List D} (h1 : ga ρ = some (.nw a, ρ1)) (h2 : gb ρ1 = some (.nw b, ρ2)) (hl : a.length + b.length ≤ 16777216) : gBin oAdd ga gb ρ = some (.nw (a ++ b), ρ2) := by
  simp only [gBin, h1, h2, Option.bind_some, dat, oAdd, hl, if_true, Option.map_some, Rv.res]
theorem sl_st {ga gu : GE} {ρ ρ1 ρ2 : Ev} {w : Wd} {n : Nat} (h1 : ga ρ = some (.fz (tx w), ρ1)) (h2 : gu ρ1 = some (.fz (.int (n : Int)), ρ2)) (hl : w.length ≤ 16777216) : gSl ga gNoP (gP gu) ρ = some (.fz (tx (w.take n)), ρ2) := by
  have e : oSl (tx w) none (some (n : Int)) = some (.val (tx (w.take n))) := by
    simp only [tx, oSl, List.length_map, hl, if_true, cut_take, List.map_take]
  simp only [gSl, h1, Option.bind_some, gNoP, gP, h2, dat, e, Option.map_some, Rv.res]
theorem i_rangeI {ρ : Ev} {g : GE} {j : Int} (h : Ev1 g ρ (.int j)) (h1 : -(2 ^ 62 : Int) ≤ j) (h2 : j < 2 ^ 62) : iRange g ρ = some (rangeR 0 j.toNat, ρ) := by
  unfold Ev1 at h
  simp only [iRange, h, Option.bind_some, h1, h2, and_self, if_true]
theorem i_range {ρ : Ev} {g : GE} {n : Nat} (h : Ev1 g ρ (.int (n : Int))) (hn : n ≤ 1000000) : iRange g ρ = some (rangeR 0 n, ρ) := by
  have a1 : (n : Int) ≤ 1000000 := by omega
  have e := i_rangeI h (Int.le_trans (by decide) (Int.natCast_nonneg n)) (Int.lt_of_le_of_lt a1 (by decide))
  rw [Int.toNat_natCast] at e
  exact e
theorem i_own {ρ : Ev} {i : Nat} {ds : List D} (hs : ρ.sl[i]? = some (.ow ds)) (hio : (ρ.io && i == 0) = false) : iAny (gVar i) ρ = some (ds.map .val, ρ.put i (.fz (.lst ds))) := by
  simp only [iAny, gVar, hs, Option.bind_some, frz, hio, Bool.false_eq_true, if_false, itemsR, Option.map_some]
theorem told0 {h p : Wd} {told : D} {isl : Bool} (T : Told h p told isl) : ∃ d l, told = .tup (d :: l) ∧ oEq false d (.str sSlant) = some (.val (.bl isl)) := by
  cases T with
  | slant x hx => exact ⟨_, _, rfl, eq_self (shp_str (by decide)) false⟩
  | root ha hb =>
    refine ⟨_, _, rfl, ?_⟩
    unfold oEq
    rw [shp_str (s := sRoot) (by decide), shp_str (s := sSlant) (by decide)]
    rfl
theorem mem_cc {p : Wd} {x : Bool} : cc x ∈ p.map cc ↔ x ∈ p := by
  rw [List.mem_map]
  constructor
  · rintro ⟨y, hy, e⟩
    rw [← cc_inj.mp e]; exact hy
  · intro h; exact ⟨x, h, rfl⟩
theorem isl_val {h p : Wd} {told : D} {isl : Bool} (pne : p ≠ []) (T : Told h p told isl) : (!decide (cc false ∈ p.map cc) || !decide (cc true ∈ p.map cc)) = isl := by
  have e1 : ∀ x : Bool, decide (cc x ∈ p.map cc) = decide (x ∈ p) := fun x => decide_eq_decide.mpr mem_cc
  rw [e1, e1]
  cases T with
  | slant x hx =>
    cases x
    · have : ¬ true ∈ p := fun z => by cases hx _ z
      simp [this]
    · have : ¬ false ∈ p := fun z => by cases hx _ z
      simp [this]
  | root ha hb => simp [ha, hb]
def someL (B : Wd) (u v : Int × Int) : List (Int × Int) := ((List.range (B.length + 1)).map fun i => back (B.take i)) ++ [back (B ++ [false]), back (B ++ [true])] ++ [(1, 0), (0, 1), u, v]
theorem someL_ok {B : Wd} {u v : Int × Int} (hB : B.length ≤ 100) (U : SlaOk u) (V : SlaOk v) : ∀ w ∈ someL B u v, SlaOk w := by
  intro w hw
  simp only [someL, List.mem_append, List.mem_map, List.mem_cons, List.not_mem_nil, or_false] at hw
  rcases hw with (⟨i, _, rfl⟩ | rfl | rfl) | rfl | rfl | rfl | rfl
  · exact SlaOk.of_back (by rw [List.length_take]; omega)
  · exact SlaOk.of_back (by simp; omega)
  · exact SlaOk.of_back (by simp; omega)
  · exact ⟨by decide, by decide, ⟨1, 0, by decide⟩, by unfold Sm; decide +kernel, by unfold Sm; decide +kernel, .inl ⟨by decide, by decide⟩⟩
  · exact ⟨by decide, by decide, ⟨0, 1, by decide⟩, by unfold Sm; decide +kernel, by unfold Sm; decide +kernel, .inl ⟨by decide, by decide⟩⟩
  · exact U
  · exact V
def takD (B : Wd) : Rv → D
  | .val (.int i) => dv2 (back (B.take i.toNat))
  | _ => .non
def endD (B : Wd) : Rv → D
  | .val (.str [c]) => dv2 (back (B ++ [c == 98]))
  | _ => .non
section
variable {S : D} {cs : List D} {x2 x3 x4 x5 x6 x7 x8 x10 x11 x12 x13 x14 x15 x16 x17 x18 x19 x20 x21 : Sl}
theorem c_some0 {B : Wd} (hB : B.length ≤ 100) : gComp (iRange (gBin oAdd (gUn oLen (gVar 9)) (gC (.int 1)))) (.nm 22) gYes X_law_0 [22] (sL S cs x2 x3 x4 x5 x6 x7 x8 (.fz (tx B)) x10 x11 x12 x13 x14 x15 x16 x17 x18 x19 x20 x21)
      = some (.nw (((List.range (B.length + 1)).map fun i => back (B.take i)).map dv2), sL S cs x2 x3 x4 x5 x6 x7 x8 (.fz (tx B)) x10 x11 x12 x13 x14 x15 x16 x17 x18 x19 x20 x21) := by
  have e : ((List.range (B.length + 1)).map fun i => back (B.take i)).map dv2 = (rangeR 0 (B.length + 1)).map (takD B) := by
    simp only [rangeR, List.map_map]
    congr 1
    funext i
    simp only [Function.comp, takD, Int.zero_add, Int.toNat_natCast]
  rw [e]
  have hi : iRange (gBin oAdd (gUn oLen (gVar 9)) (gC (.int 1))) (sL S cs x2 x3 x4 x5 x6 x7 x8 (.fz (tx B)) x10 x11 x12 x13 x14 x15 x16 x17 x18 x19 x20 x21) = some (rangeR 0 (B.length + 1), sL S cs x2 x3 x4 x5 x6 x7 x8 (.fz (tx B)) x10 x11 x12 x13 x14 x15 x16 x17 x18 x19 x20 x21) := by
    have v : Ev1 (gBin oAdd (gUn oLen (gVar 9)) (gC (.int 1))) (sL S cs x2 x3 x4 x5 x6 x7 x8 (.fz (tx B)) x10 x11 x12 x13 x14 x15 x16 x17 x18 x19 x20 x21) (.int ((B.length : Int) + 1)) := v_add (v_lenS (v_var rfl) (by omega)) v_c
    have tn : (B.length : Int) + 1 = ((B.length + 1 : Nat) : Int) := by omega
    rw [tn] at v
    exact i_range v (by omega)
  refine comp_w (sL S cs x2 x3 x4 x5 x6 x7 x8 (.fz (tx B)) x10 x11 x12 x13 x14 x15 x16 x17 x18 x19 x20 x21) (takD B) (by rfl) hi (by rfl) (by rfl) (by simp [rangeR]; omega) ?_
  intro r hr
  simp only [rangeR, List.mem_map, Int.zero_add] at hr
  obtain ⟨k, _, rfl⟩ := hr
  refine ⟨⟨false, [.fz S, .ow cs, x2, x3, x4, x5, x6, x7, x8, .fz (tx B), x10, x11, x12, x13, x14, x15, x16, x17, x18, x19, x20, x21, .fz (.int (k : Int))]⟩, by rfl, ?_, by rfl, by rfl⟩
  have lb := e_law_back (w := B.take k) (by rw [List.length_take]; omega)
  exact v_call0 (a_cons (v_takeS (ga := gVar 9) (gu := gVar 22) (v_var rfl) (v_var rfl) (by omega)) a_nil) lb
theorem c_some1 {B : Wd} (hB : B.length ≤ 100) (hx : NoOw x11) : gComp (iAny (gC (.str [97, 98]))) (.nm 11) gYes X_law_1 [11] (sL S cs x2 x3 x4 x5 x6 x7 x8 (.fz (tx B)) x10 x11 x12 x13 x14 x15 x16 x17 x18 x19 x20 x21)
      = some (.nw ([back (B ++ [false]), back (B ++ [true])].map dv2), sL S cs x2 x3 x4 x5 x6 x7 x8 (.fz (tx B)) x10 x11 x12 x13 x14 x15 x16 x17 x18 x19 x20 x21) := by
  have e : [back (B ++ [false]), back (B ++ [true])].map dv2 = [Rv.val (.str [cc false]), Rv.val (.str [cc true])].map (endD B) := rfl
  rw [e]
  refine comp_w (sL S cs x2 x3 x4 x5 x6 x7 x8 (.fz (tx B)) x10 .un x12 x13 x14 x15 x16 x17 x18 x19 x20 x21) (endD B) (by rfl) (by rfl) ?_ (by rfl) (by simp) ?_
  · cases x11 with
    | ow ds => exact absurd rfl (hx ds)
    | un => rfl
    | fz d => rfl
  · intro r hr
    have : ∃ y : Bool, r = Rv.val (.str [cc y]) := by
      simp at hr
      rcases hr with z | z
      · exact ⟨false, z⟩
      · exact ⟨true, z⟩
    obtain ⟨y, rfl⟩ := this
    refine ⟨sL S cs x2 x3 x4 x5 x6 x7 x8 (.fz (tx B)) x10 (.fz (.str [cc y])) x12 x13 x14 x15 x16 x17 x18 x19 x20 x21, by rfl, ?_, by rfl, by rfl⟩
    have lb := e_law_back (w := B ++ [y]) (by simp; omega)
    have ey : endD B (Rv.val (.str [cc y])) = dv2 (back (B ++ [y])) := by cases y <;> rfl
    rw [ey]
    exact v_call0 (a_cons (v_addS (v := [y]) (ga := gVar 9) (gb := gVar 11) (v_var rfl) (v_var rfl) (by simp; omega)) a_nil) lb
end
end W
end

section
set_option Elab.async false
set_option linter.all false
set_option maxRecDepth 100000
set_option maxHeartbeats 4000000
namespace W
open DL Lim
section
variable {S : D} {cs : List D} {x2 x3 x4 x5 x6 x7 x8 x9 x10 x11 x12 x13 x14 x15 x16 x17 x18 x19 x20 x21 : Sl}
/-- head and period are drawn -/
theorem s_draws {T : Int} (P : IsPen T cs) (hT : T ≤ 40000) : ∃ (h p : Wd) (cs' : List D), p ≠ [] ∧ h.length ≤ 8 ∧ p.length ≤ 7 ∧ IsPen (T + 401) cs' ∧
    sPar 3 4 (gCallI φ__law_text (gVar 1) (aCons (gC (.int 8)) aNil)) (gBin oAdd (gCallI φ__law_text (gVar 1) (aCons (gC (.int 6)) aNil)) (gCallI φ__law_pick (gVar 1) (aCons (gLst (aCons (gC (.str [97])) (aCons (gC (.str [98])) aNil))) aNil))) (sL S cs x2 x3 x4 x5 x6 x7 x8 x9 x10 x11 x12 x13 x14 x15 x16 x17 x18 x19 x20 x21)
      = some (.nx (sL S cs' x2 (.fz (tx h)) (.fz (tx p)) x5 x6 x7 x8 x9 x10 x11 x12 x13 x14 x15 x16 x17 x18 x19 x20 x21)) := by
  obtain ⟨h, cs1, e1, hl, P1⟩ := e_text P (by omega) 8 (by decide)
  obtain ⟨p0, cs2, e2, pl0, P2⟩ := e_text P1 (by omega) 6 (by decide)
  obtain ⟨b, cs3, e3, P3⟩ := e_pick_l P2 (by omega)
  refine ⟨h, p0 ++ [b], cs3, by simp, hl, by simp; omega, P3.mono (by omega), ?_⟩
  have g1 : gCallI φ__law_text (gVar 1) (aCons (gC (.int 8)) aNil) (sL S cs x2 x3 x4 x5 x6 x7 x8 x9 x10 x11 x12 x13 x14 x15 x16 x17 x18 x19 x20 x21) = some (.fz (tx h), sL S cs1 x2 x3 x4 x5 x6 x7 x8 x9 x10 x11 x12 x13 x14 x15 x16 x17 x18 x19 x20 x21) := call_io (i := 1) (cs := cs) rfl (a_cons v_c a_nil) e1
  have g2 : gCallI φ__law_text (gVar 1) (aCons (gC (.int 6)) aNil) (sL S cs1 x2 x3 x4 x5 x6 x7 x8 x9 x10 x11 x12 x13 x14 x15 x16 x17 x18 x19 x20 x21) = some (.fz (tx p0), sL S cs2 x2 x3 x4 x5 x6 x7 x8 x9 x10 x11 x12 x13 x14 x15 x16 x17 x18 x19 x20 x21) := call_io (i := 1) (cs := cs1) rfl (a_cons v_c a_nil) e2
  have g3 : gCallI φ__law_pick (gVar 1) (aCons (gLst (aCons (gC (.str [97])) (aCons (gC (.str [98])) aNil))) aNil) (sL S cs2 x2 x3 x4 x5 x6 x7 x8 x9 x10 x11 x12 x13 x14 x15 x16 x17 x18 x19 x20 x21) = some (.fz (tx [b]), sL S cs3 x2 x3 x4 x5 x6 x7 x8 x9 x10 x11 x12 x13 x14 x15 x16 x17 x18 x19 x20 x21) := call_io (i := 1) (cs := cs2) rfl (a_consN (lst' (a_cons v_c (a_cons v_c a_nil)) (by simp)) a_nil) e3
  exact par_st g1 (bin_st g2 g3 (add_tx p0 [b] (by simp; omega))) rfl
/-- the slants are made -/
theorem s_some {T : Int} (P : IsPen T cs) (hT : T ≤ 40000) {B : Wd} (hB : B.length ≤ 100) (hx : NoOw x11) : ∃ (u v : Int × Int) (cs' : List D), SlaOk u ∧ SlaOk v ∧ IsPen (T + 20) cs' ∧
    sSet 10 (gBin oAdd (gBin oAdd (gComp (iRange (gBin oAdd (gUn oLen (gVar 9)) (gC (.int 1)))) (.nm 22) gYes X_law_0 [22]) (gComp (iAny (gC (.str [97, 98]))) (.nm 11) gYes X_law_1 [11])) (gLst (aCons (gTup (aCons (gC (.int 1)) (aCons (gC (.int 0)) aNil))) (aCons (gTup (aCons (gC (.int 0)) (aCons (gC (.int 1)) aNil))) (aCons (gCallI φ__law_slant (gVar 1) (aCons (gBin (oI fPow) (gC (.int 10)) (gC (.int 12))) aNil)) (aCons (gCallI φ__law_slant (gVar 1) (aCons (gC (.int 30)) aNil)) aNil)))))) (sL S cs x2 x3 x4 x5 x6 x7 x8 (.fz (tx B)) x10 x11 x12 x13 x14 x15 x16 x17 x18 x19 x20 x21)
      = some (.nx (sL S cs' x2 x3 x4 x5 x6 x7 x8 (.fz (tx B)) (.ow ((someL B u v).map dv2)) x11 x12 x13 x14 x15 x16 x17 x18 x19 x20 x21)) := by
  obtain ⟨u, cs1, e1, U, P1⟩ := e_slant P (by omega) (top := 1000000000000) (by omega) (by omega)
  obtain ⟨v, cs2, e2, V, P2⟩ := e_slant P1 (by omega) (top := 30) (by omega) (by omega)
  refine ⟨u, v, cs2, U, V, P2.mono (by omega), ?_⟩
  have g1 : gCallI φ__law_slant (gVar 1) (aCons (gBin (oI fPow) (gC (.int 10)) (gC (.int 12))) aNil) (sL S cs x2 x3 x4 x5 x6 x7 x8 (.fz (tx B)) x10 x11 x12 x13 x14 x15 x16 x17 x18 x19 x20 x21) = some (.fz (dv2 u), sL S cs1 x2 x3 x4 x5 x6 x7 x8 (.fz (tx B)) x10 x11 x12 x13 x14 x15 x16 x17 x18 x19 x20 x21) := call_io (i := 1) (cs := cs) rfl (a_cons (v_bin (d1 := .int 10) (d2 := .int 12) v_c v_c (by rfl)) a_nil) e1
  have g2 : gCallI φ__law_slant (gVar 1) (aCons (gC (.int 30)) aNil) (sL S cs1 x2 x3 x4 x5 x6 x7 x8 (.fz (tx B)) x10 x11 x12 x13 x14 x15 x16 x17 x18 x19 x20 x21) = some (.fz (dv2 v), sL S cs2 x2 x3 x4 x5 x6 x7 x8 (.fz (tx B)) x10 x11 x12 x13 x14 x15 x16 x17 x18 x19 x20 x21) := call_io (i := 1) (cs := cs1) rfl (a_cons v_c a_nil) e2
  have g3 : gLst (aCons (gTup (aCons (gC (.int 1)) (aCons (gC (.int 0)) aNil))) (aCons (gTup (aCons (gC (.int 0)) (aCons (gC (.int 1)) aNil))) (aCons (gCallI φ__law_slant (gVar 1) (aCons (gBin (oI fPow) (gC (.int 10)) (gC (.int 12))) aNil)) (aCons (gCallI φ__law_slant (gVar 1) (aCons (gC (.int 30)) aNil)) aNil)))) (sL S cs x2 x3 x4 x5 x6 x7 x8 (.fz (tx B)) x10 x11 x12 x13 x14 x15 x16 x17 x18 x19 x20 x21) = some (.nw ([((1 : Int), (0 : Int)), (0, 1), u, v].map dv2), sL S cs2 x2 x3 x4 x5 x6 x7 x8 (.fz (tx B)) x10 x11 x12 x13 x14 x15 x16 x17 x18 x19 x20 x21) :=
    lst' (ds := [dv2 (1, 0), dv2 (0, 1), dv2 u, dv2 v]) (a_cons' (v_tup (ds := [.int 1, .int 0]) (a_cons v_c (a_cons v_c a_nil)) (by simp)) (a_cons' (v_tup (ds := [.int 0, .int 1]) (a_cons v_c (a_cons v_c a_nil)) (by simp)) (a_cons' g1 (a_cons' g2 a_nil)))) (by simp)
  have g4 := bin_nw (bin_nw (c_some0 (S := S) (cs := cs) (x2 := x2) (x3 := x3) (x4 := x4) (x5 := x5) (x6 := x6) (x7 := x7) (x8 := x8) (x10 := x10) (x11 := x11) (x12 := x12) (x13 := x13) (x14 := x14) (x15 := x15) (x16 := x16) (x17 := x17) (x18 := x18) (x19 := x19) (x20 := x20) (x21 := x21) hB) (c_some1 hB hx) (by simp; omega)) g3 (by simp; omega)
  rw [← List.map_append, ← List.map_append] at g4
  exact set_nw g4 rfl
end
/-- one lap -/
theorem e_lap {S : D} {cs : List D} {x2 x3 x4 x5 x6 x7 x8 x9 x10 x11 x12 x13 x14 x15 x16 x17 x18 x19 x20 x21 : Sl} {T : Int} (P : IsPen T cs) (hT : T ≤ 30000) (hx : NoOw x11) :
    LapEnd S (T + 1000) (L_law_3 (sL S cs x2 x3 x4 x5 x6 x7 x8 x9 x10 x11 x12 x13 x14 x15 x16 x17 x18 x19 x20 x21)) := by
  obtain ⟨h, p, cs1, pne, hl, pl, P1, d1⟩ := s_draws (S := S) (x2 := x2) (x3 := x3) (x4 := x4) (x5 := x5) (x6 := x6) (x7 := x7) (x8 := x8) (x9 := x9) (x10 := x10) (x11 := x11) (x12 := x12) (x13 := x13) (x14 := x14) (x15 := x15) (x16 := x16) (x17 := x17) (x18 := x18) (x19 := x19) (x20 := x20) (x21 := x21) P (by omega)
  have pp := List.length_pos_iff.mpr pne
  obtain ⟨h', p', e6, _, Sh⟩ := e_shortened (h := h) (p := p) pne (by omega) (by omega)
  have l1 := Sh.pl
  have l2 := Sh.hl
  have pne' := Sh.short.ne
  obtain ⟨told, isl, t1, t2, tsh, To⟩ := told_facts pne (by omega) (by omega) Sh
  obtain ⟨d0, l0, td, t0⟩ := told0 To
  have nh := e_law_name (w := h) (by omega)
  have np := e_law_name (w := p) (by omega)
  have eb := e_begin (h := h') (p := p') pne' (by omega) (by omega)
  rw [Sh.om] at eb
  have again := short_to Sh Sh.om pne' (by omega) (by omega)
  obtain ⟨k, cs2, dk, k0, k1, P2⟩ := e_draw P1 (by omega) (m := (p.length : Int)) (by omega) (by omega)
  obtain ⟨k, rfl⟩ : ∃ n : Nat, k = (n : Int) := ⟨k.toNat, by omega⟩
  have kl : k < p.length := by omega
  -- the period turned
  have om1 : om (h ++ p.take k) (p.drop k ++ p.take k) = om h p := by
    rw [(rot_many (p.take k) h (p.drop k)).2, List.take_append_drop]
  have om2 : om (h ++ p) (pw p 2) = om h p := by
    rw [om_pw (h ++ p) p pne 1]
    unfold om
    rw [app_app, app_per]
  have pw2l : (pw p 2).length = 2 * p.length := pw_len p 2
  have sh1 := short_to Sh om1 (by intro z; have := congrArg List.length z; simp at this; omega) (by simp; omega) (by simp; omega)
  have sh2 := short_to Sh om2 (by intro z; have := congrArg List.length z; rw [pw2l] at this; simp at this; omega) (by simp; omega) (by omega)
  have n1 := e_law_name (w := h ++ p.take k) (by simp; omega)
  have n2 := e_law_name (w := p.drop k ++ p.take k) (by simp; omega)
  have n3 := e_law_name (w := h ++ p) (by simp; omega)
  have n4 := e_law_name (w := pw p 2) (by omega)
  obtain ⟨j, cs3, dj, j0, j1, P3⟩ := e_draw P2 (by omega) (m := 20) (by omega) (by omega)
  obtain ⟨j, rfl⟩ : ∃ n : Nat, j = (n : Int) := ⟨j.toNat, by omega⟩
  have pw40 : (pw p 40).length = 40 * p.length := pw_len p 40
  have pw80 : (pw p 80).length = 80 * p.length := pw_len p 80
  unfold L_law_3
  refine le_seq d1 ?_
  refine le_seq (set_fz (v_call0 (ds := [dW h, dW p]) (a_cons (v_call0 (ds := [tx h]) (a_cons (v_var rfl) a_nil) nh) (a_cons (v_call0 (ds := [tx p]) (a_cons (v_var rfl) a_nil) np) a_nil)) t1) rfl) ?_
  refine le_seq (set_fz (v_call0 (ds := [dW h, dW p]) (a_cons (v_call0 (ds := [tx h]) (a_cons (v_var rfl) a_nil) nh) (a_cons (v_call0 (ds := [tx p]) (a_cons (v_var rfl) a_nil) np) a_nil)) e6) rfl) ?_
  show LapEnd S (T + 1000) (sSeq _ _ (sL S cs1 x2 (.fz (tx h)) (.fz (tx p)) (.fz told) (.fz (.tup [dW h', dW p'])) x7 x8 x9 x10 x11 x12 x13 x14 x15 x16 x17 x18 x19 x20 x21))
  have w60 : ∀ cs x7 x8 x9 x10 : _, Ev1 (gBin oIx (gVar 6) (gC (.int 0))) (sL S cs x2 (.fz (tx h)) (.fz (tx p)) (.fz told) (.fz (.tup [dW h', dW p'])) x7 x8 x9 x10 x11 x12 x13 x14 x15 x16 x17 x18 x19 x20 x21) (dW h') := fun _ _ _ _ _ => v_ix (l := [dW h', dW p']) (v_var rfl) v_c (atI_0 _ _)
  have w61 : ∀ cs x7 x8 x9 x10 : _, Ev1 (gBin oIx (gVar 6) (gC (.int 1))) (sL S cs x2 (.fz (tx h)) (.fz (tx p)) (.fz told) (.fz (.tup [dW h', dW p'])) x7 x8 x9 x10 x11 x12 x13 x14 x15 x16 x17 x18 x19 x20 x21) (dW p') := fun _ _ _ _ _ => v_ix (l := [dW h', dW p']) (v_var rfl) v_c (atI_1 _ _ _)
  have sl80 : Ev1 (gSl (gBin oAdd (gVar 3) (gBin oMul (gVar 4) (gC (.int 80)))) gNoP (gP (gC (.int 80)))) (sL S cs1 x2 (.fz (tx h)) (.fz (tx p)) (.fz told) (.fz (.tup [dW h', dW p'])) x7 x8 x9 x10 x11 x12 x13 x14 x15 x16 x17 x18 x19 x20 x21) (tx (pre 80 (om h p))) := by
    rw [← om_pre h p 80 80 (by simp; omega)]
    exact v_takeS (n := 80) (v_addS (v_var rfl) (v_mulS (k := 80) (v_var rfl) v_c (by omega) (by omega)) (by omega)) v_c (by simp; omega)
  refine le_seq (if_f (t_orF (t_b (v_bin (op := oEq true) (v_call0 (a_cons (w60 _ _ _ _ _) (a_cons (w61 _ _ _ _ _) (a_cons v_c a_nil))) eb) sl80 (eq_self (shp_tx _) true)))
    (t_orF (t_b (v_bin (op := oEq true) (v_call0 (a_cons (w60 _ _ _ _ _) (a_cons (w61 _ _ _ _ _) a_nil)) again) (v_var rfl) (eq_self (shp_pair _ _) true)))
      (t_b (v_bin (op := oEq true) (v_call0 (a_cons (w60 _ _ _ _ _) (a_cons (w61 _ _ _ _ _) a_nil)) t2) (v_var rfl) (eq_self tsh true))))) rfl) ?_
  have g7 : gCallI φ__law_draw (gVar 1) (aCons (gUn oLen (gVar 4)) aNil) (sL S cs1 x2 (.fz (tx h)) (.fz (tx p)) (.fz told) (.fz (.tup [dW h', dW p'])) x7 x8 x9 x10 x11 x12 x13 x14 x15 x16 x17 x18 x19 x20 x21) = some (.fz (.int (k : Int)), sL S cs2 x2 (.fz (tx h)) (.fz (tx p)) (.fz told) (.fz (.tup [dW h', dW p'])) x7 x8 x9 x10 x11 x12 x13 x14 x15 x16 x17 x18 x19 x20 x21) := call_io (i := 1) (cs := cs1) rfl (a_cons (v_lenS (v_var rfl) (by omega)) a_nil) dk
  refine le_seq (set_fz g7 rfl) ?_
  show LapEnd S (T + 1000) (sSeq _ _ (sL S cs2 x2 (.fz (tx h)) (.fz (tx p)) (.fz told) (.fz (.tup [dW h', dW p'])) (.fz (.int (k : Int))) x8 x9 x10 x11 x12 x13 x14 x15 x16 x17 x18 x19 x20 x21))
  have tk : Ev1 (gSl (gVar 4) gNoP (gP (gVar 7))) (sL S cs2 x2 (.fz (tx h)) (.fz (tx p)) (.fz told) (.fz (.tup [dW h', dW p'])) (.fz (.int (k : Int))) x8 x9 x10 x11 x12 x13 x14 x15 x16 x17 x18 x19 x20 x21) (tx (p.take k)) := v_takeS (v_var rfl) (v_var rfl) (by omega)
  have dr' : Ev1 (gSl (gVar 4) (gP (gVar 7)) gNoP) (sL S cs2 x2 (.fz (tx h)) (.fz (tx p)) (.fz told) (.fz (.tup [dW h', dW p'])) (.fz (.int (k : Int))) x8 x9 x10 x11 x12 x13 x14 x15 x16 x17 x18 x19 x20 x21) (tx (p.drop k)) := v_dropS (v_var rfl) (v_var rfl) (by omega)
  refine le_seq (if_f (t_orF
    (t_b (v_bin (op := oEq true) (v_call0 (a_cons (v_call0 (a_cons (v_addS (v_var rfl) tk (by simp; omega)) a_nil) n1) (a_cons (v_call0 (a_cons (v_addS dr' tk (by simp; omega)) a_nil) n2) a_nil)) sh1) (v_var rfl) (eq_self (shp_pair _ _) true)))
    (t_b (v_bin (op := oEq true) (v_call0 (a_cons (v_call0 (a_cons (v_addS (v_var rfl) (v_var rfl) (by omega)) a_nil) n3) (a_cons (v_call0 (a_cons (v_mulS (k := 2) (v_var rfl) v_c (by omega) (by omega)) a_nil) n4) a_nil)) sh2) (v_var rfl) (eq_self (shp_pair _ _) true)))) rfl) ?_
  have vi : Ev1 (gOrV (gBin (oInC true) (gC (.str [97])) (gVar 4)) (gBin (oInC true) (gC (.str [98])) (gVar 4))) (sL S cs2 x2 (.fz (tx h)) (.fz (tx p)) (.fz told) (.fz (.tup [dW h', dW p'])) (.fz (.int (k : Int))) x8 x9 x10 x11 x12 x13 x14 x15 x16 x17 x18 x19 x20 x21) (.bl isl) := by
    rw [← isl_val pne To]
    exact v_or (v_bin (op := oInC true) (d1 := .str [cc false]) (d2 := tx p) v_c (v_var rfl) rfl) (fun _ => v_bin (op := oInC true) (d1 := .str [cc true]) (d2 := tx p) v_c (v_var rfl) rfl)
  refine le_seq (set_fz vi rfl) ?_
  show LapEnd S (T + 1000) (sSeq _ _ (sL S cs2 x2 (.fz (tx h)) (.fz (tx p)) (.fz told) (.fz (.tup [dW h', dW p'])) (.fz (.int (k : Int))) (.fz (.bl isl)) x9 x10 x11 x12 x13 x14 x15 x16 x17 x18 x19 x20 x21))
  have v5 : Ev1 (gVar 5) (sL S cs2 x2 (.fz (tx h)) (.fz (tx p)) (.fz told) (.fz (.tup [dW h', dW p'])) (.fz (.int (k : Int))) (.fz (.bl isl)) x9 x10 x11 x12 x13 x14 x15 x16 x17 x18 x19 x20 x21) (.tup (d0 :: l0)) := by rw [← td]; exact v_var rfl
  have ebl : oEq true (.bl isl) (.bl isl) = some (.val (.bl false)) := eq_self (d := .bl isl) rfl true
  refine le_seq (if_f (t_b (v_bin (op := oEq true) (d1 := .bl isl) (v_bin (op := oEq false) (v_ix v5 v_c (atI_0 _ _)) v_c t0) (v_var rfl) ebl)) rfl) ?_
  have g9 : gSl (gBin oAdd (gVar 3) (gBin oMul (gVar 4) (gC (.int 40)))) gNoP (gP (gBin oAdd (gC (.int 6)) (gCallI φ__law_draw (gVar 1) (aCons (gC (.int 20)) aNil)))) (sL S cs2 x2 (.fz (tx h)) (.fz (tx p)) (.fz told) (.fz (.tup [dW h', dW p'])) (.fz (.int (k : Int))) (.fz (.bl isl)) x9 x10 x11 x12 x13 x14 x15 x16 x17 x18 x19 x20 x21) = some (.fz (tx ((h ++ pw p 40).take (6 + j))), sL S cs3 x2 (.fz (tx h)) (.fz (tx p)) (.fz told) (.fz (.tup [dW h', dW p'])) (.fz (.int (k : Int))) (.fz (.bl isl)) x9 x10 x11 x12 x13 x14 x15 x16 x17 x18 x19 x20 x21) := by
    have gd : gCallI φ__law_draw (gVar 1) (aCons (gC (.int 20)) aNil) (sL S cs2 x2 (.fz (tx h)) (.fz (tx p)) (.fz told) (.fz (.tup [dW h', dW p'])) (.fz (.int (k : Int))) (.fz (.bl isl)) x9 x10 x11 x12 x13 x14 x15 x16 x17 x18 x19 x20 x21) = some (.fz (.int (j : Int)), sL S cs3 x2 (.fz (tx h)) (.fz (tx p)) (.fz told) (.fz (.tup [dW h', dW p'])) (.fz (.int (k : Int))) (.fz (.bl isl)) x9 x10 x11 x12 x13 x14 x15 x16 x17 x18 x19 x20 x21) := call_io (i := 1) (cs := cs2) rfl (a_cons v_c a_nil) dj
    have e6 : oAdd (.int 6) (.int (j : Int)) = some (.val (.int ((6 + j : Nat) : Int))) := by
      simp only [oAdd]
      congr 3
    exact sl_st (v_addS (v_var rfl) (v_mulS (k := 40) (v_var rfl) v_c (by omega) (by omega)) (by omega)) (bin_st v_c gd e6) (by simp; omega)
  refine le_seq (set_fz g9 rfl) ?_
  have hB : ((h ++ pw p 40).take (6 + j)).length ≤ 100 := by rw [List.length_take]; omega
  generalize (h ++ pw p 40).take (6 + j) = B at *
  show LapEnd S (T + 1000) (sSeq _ _ (sL S cs3 x2 (.fz (tx h)) (.fz (tx p)) (.fz told) (.fz (.tup [dW h', dW p'])) (.fz (.int (k : Int))) (.fz (.bl isl)) (.fz (tx B)) x10 x11 x12 x13 x14 x15 x16 x17 x18 x19 x20 x21))
  obtain ⟨u, v, cs4, U, V, P4, d10⟩ := s_some (S := S) (x2 := x2) (x3 := .fz (tx h)) (x4 := .fz (tx p)) (x5 := .fz told) (x6 := .fz (.tup [dW h', dW p'])) (x7 := .fz (.int (k : Int))) (x8 := .fz (.bl isl)) (x10 := x10) (x11 := x11) (x12 := x12) (x13 := x13) (x14 := x14) (x15 := x15) (x16 := x16) (x17 := x17) (x18 := x18) (x19 := x19) (x20 := x20) (x21 := x21) P3 (by omega) hB hx
  refine le_seq d10 ?_
  have sok := someL_ok hB U V
  generalize someL B u v = L at *
  obtain ⟨y12, y13, y14, lo⟩ := l_one (S := S) (cs := cs4) (x2 := x2) (x6 := .fz (.tup [dW h', dW p'])) (x7 := .fz (.int (k : Int))) (x9 := .fz (tx B)) (x10 := .fz (.lst (L.map dv2))) (x11 := x11) (x15 := x15) (x16 := x16) (x17 := x17) (x18 := x18) (x19 := x19) (x20 := x20) (x21 := x21) pne (by omega) (by omega) To L x12 x13 x14 sok
  refine le_seq (ρ1 := sL S cs4 x2 (.fz (tx h)) (.fz (tx p)) (.fz told) (.fz (.tup [dW h', dW p'])) (.fz (.int (k : Int))) (.fz (.bl isl)) (.fz (tx B)) (.fz (.lst (L.map dv2))) x11 y12 y13 y14 x15 x16 x17 x18 x19 x20 x21) ?_ ?_
  · have ia : iAny (gVar 10) (sL S cs4 x2 (.fz (tx h)) (.fz (tx p)) (.fz told) (.fz (.tup [dW h', dW p'])) (.fz (.int (k : Int))) (.fz (.bl isl)) (.fz (tx B)) (.ow (L.map dv2)) x11 x12 x13 x14 x15 x16 x17 x18 x19 x20 x21) = some (L.map fun v => .val (dv2 v), sL S cs4 x2 (.fz (tx h)) (.fz (tx p)) (.fz told) (.fz (.tup [dW h', dW p'])) (.fz (.int (k : Int))) (.fz (.bl isl)) (.fz (tx B)) (.fz (.lst (L.map dv2))) x11 x12 x13 x14 x15 x16 x17 x18 x19 x20 x21) := by
      have := i_own (i := 10) (ds := L.map dv2) (ρ := sL S cs4 x2 (.fz (tx h)) (.fz (tx p)) (.fz told) (.fz (.tup [dW h', dW p'])) (.fz (.int (k : Int))) (.fz (.bl isl)) (.fz (tx B)) (.ow (L.map dv2)) x11 x12 x13 x14 x15 x16 x17 x18 x19 x20 x21) rfl rfl
      rw [List.map_map] at this
      exact this
    simp only [sFor, ia, Option.bind_some]
    exact lo
  cases To with
  | slant x hxx =>
    obtain ⟨y15, ts⟩ := e_tailS (S := S) (h := h) (p := p) (cs := cs4) (x2 := x2) (x6 := .fz (.tup [dW h', dW p'])) (x7 := .fz (.int (k : Int))) (x8 := .fz (.bl true)) (x9 := .fz (tx B)) (x10 := .fz (.lst (L.map dv2))) (x11 := x11) (x12 := y12) (x13 := y13) (x14 := y14) (x15 := x15) (x16 := x16) (x17 := x17) (x18 := x18) (x19 := x19) (x20 := x20) (x21 := x21) pne (by omega) (by omega) hxx
    refine ⟨cs4, _, _, _, _, _, _, _, _, _, _, _, _, _, _, _, _, _, _, _, _, P4.mono (by omega), ?_, .inr (ct_now (if_t (t_b (v_var rfl)) ts))⟩
    intro ds z
    cases z
  | root ha hb =>
    obtain ⟨y11, y16, y17, y18, y19, y20, y21, ny, tr⟩ := e_tailR (S := S) (h := h) (p := p) (cs := cs4) (x2 := x2) (x6 := .fz (.tup [dW h', dW p'])) (x7 := .fz (.int (k : Int))) (x8 := .fz (.bl false)) (x9 := .fz (tx B)) (x10 := .fz (.lst (L.map dv2))) (x11 := x11) (x12 := y12) (x13 := y13) (x14 := y14) (x15 := x15) (x16 := x16) (x17 := x17) (x18 := x18) (x19 := x19) (x20 := x20) (x21 := x21) ha hb (by omega) (by omega)
    refine ⟨cs4, _, _, _, _, _, _, _, _, _, _, _, _, _, _, _, _, _, _, _, _, P4.mono (by omega), ny, .inl (seq_nx (if_f (t_b (v_var rfl)) rfl) tr)⟩
end W
end

section
set_option Elab.async false
set_option linter.all false
set_option maxRecDepth 100000
set_option maxHeartbeats 4000000
namespace W
open DL Lim
theorem l_laps {S : D} : ∀ (items : List Rv) (T : Int) (cs : List D) (x2 x3 x4 x5 x6 x7 x8 x9 x10 x11 x12 x13 x14 x15 x16 x17 x18 x19 x20 x21 : Sl), (∀ r ∈ items, ∃ i : Int, r = .val (.int i)) → IsPen T cs → T + 1000 * items.length ≤ 30000 → NoOw x11 →
    ∃ ρ', loopG (.nm 2) L_law_3 items (sL S cs x2 x3 x4 x5 x6 x7 x8 x9 x10 x11 x12 x13 x14 x15 x16 x17 x18 x19 x20 x21) = some (.nx ρ')
  | [], T, cs, x2, x3, x4, x5, x6, x7, x8, x9, x10, x11, x12, x13, x14, x15, x16, x17, x18, x19, x20, x21, _, _, _, _ => ⟨_, rfl⟩
  | r :: rs, T, cs, x2, x3, x4, x5, x6, x7, x8, x9, x10, x11, x12, x13, x14, x15, x16, x17, x18, x19, x20, x21, hr, P, hT, hx => by
    obtain ⟨i, rfl⟩ := hr r (by simp)
    simp only [List.length_cons] at hT
    have e0 : asgR (.nm 2) (Rv.val (.int i)) (sL S cs x2 x3 x4 x5 x6 x7 x8 x9 x10 x11 x12 x13 x14 x15 x16 x17 x18 x19 x20 x21) = some (sL S cs (.fz (.int i)) x3 x4 x5 x6 x7 x8 x9 x10 x11 x12 x13 x14 x15 x16 x17 x18 x19 x20 x21) := rfl
    obtain ⟨cs', y2, y3, y4, y5, y6, y7, y8, y9, y10, y11, y12, y13, y14, y15, y16, y17, y18, y19, y20, y21, P', ny, e1⟩ := e_lap (S := S) (cs := cs) (x2 := .fz (.int i)) (x3 := x3) (x4 := x4) (x5 := x5) (x6 := x6) (x7 := x7) (x8 := x8) (x9 := x9) (x10 := x10) (x11 := x11) (x12 := x12) (x13 := x13) (x14 := x14) (x15 := x15) (x16 := x16) (x17 := x17) (x18 := x18) (x19 := x19) (x20 := x20) (x21 := x21) P (by omega) hx
    obtain ⟨ρ', e2⟩ := l_laps rs (T + 1000) cs' y2 y3 y4 y5 y6 y7 y8 y9 y10 y11 y12 y13 y14 y15 y16 y17 y18 y19 y20 y21 (fun r hr' => hr r (by simp [hr'])) P' (by omega) ny
    refine ⟨ρ', ?_⟩
    rcases e1 with e1 | e1
    · simp only [loopG, e0, Option.bind_some, e1]
      exact e2
    · simp only [loopG, e0, Option.bind_some, e1]
      exact e2
theorem low_gold : low (eq2 [] [true, false]) = ⟨1, -1, -1⟩ := by rfl
theorem root_gold : rootD [] [true, false] = .tup [.str sRoot, .tup [.int 1, .int (-1), .int (-1)], .bl true] := by
  unfold rootD
  rw [low_gold]
  rfl
/-- the plain law -/
theorem law_true (ns : List Int) (h : ns.length ≤ 63) : φ_law [.fls (ns.map .int)] = some (.val (.bl true), []) := by
  have pen := e_law_pen (ns := ns)
  have P : IsPen 0 (penD (ns.take 60) 0 0) := ⟨ns.take 60, 0, 0, rfl, by rw [List.length_take]; omega, by omega, by omega, by omega⟩
  obtain ⟨ρ', lo⟩ := l_laps (S := .fls (ns.map .int)) (rangeR 0 8) 0 (penD (ns.take 60) 0 0) .un .un .un .un .un .un .un .un .un .un .un .un .un .un .un .un .un .un .un .un (fun r hr => by
    simp only [rangeR, List.mem_map] at hr
    obtain ⟨k, _, rfl⟩ := hr
    exact ⟨_, rfl⟩) P (by simp [rangeR]) (fun ds z => by cases z)
  have lim := e_limit_root (h := []) (p := [true, false]) (by simp) (by simp) (by simp)
  refine phi_Rt ?_ rfl
  show Rt g_law ⟨false, [.fz (.fls (ns.map .int)), .un, .un, .un, .un, .un, .un, .un, .un, .un, .un, .un, .un, .un, .un, .un, .un, .un, .un, .un, .un, .un, .un]⟩ _
  unfold g_law
  have gp : gCallX φ__law_pen [] (aCons (gVar 0) aNil) ⟨false, [.fz (.fls (ns.map .int)), .un, .un, .un, .un, .un, .un, .un, .un, .un, .un, .un, .un, .un, .un, .un, .un, .un, .un, .un, .un, .un, .un]⟩ = some (.nw (penD (ns.take 60) 0 0), ⟨false, [.fz (.fls (ns.map .int)), .un, .un, .un, .un, .un, .un, .un, .un, .un, .un, .un, .un, .un, .un, .un, .un, .un, .un, .un, .un, .un, .un]⟩) := by
    have a : EvA (aCons (gVar 0) aNil) ⟨false, [.fz (.fls (ns.map .int)), .un, .un, .un, .un, .un, .un, .un, .un, .un, .un, .un, .un, .un, .un, .un, .un, .un, .un, .un, .un, .un, .un]⟩ [.fls (ns.map .int)] := a_cons (v_var rfl) a_nil
    unfold EvA at a
    simp only [gCallX, a, Option.bind_some, List.append_nil, pen, Option.map_some, RF.res]
  refine rt_seq (set_nw gp rfl) ?_
  refine rt_seq (ρ1 := ρ') ?_ ?_
  · have ir : iRange (gC (.int 8)) (sL (.fls (ns.map .int)) (penD (ns.take 60) 0 0) .un .un .un .un .un .un .un .un .un .un .un .un .un .un .un .un .un .un .un .un) = some (rangeR 0 8, sL (.fls (ns.map .int)) (penD (ns.take 60) 0 0) .un .un .un .un .un .un .un .un .un .un .un .un .un .un .un .un .un .un .un .un) := i_range (n := 8) v_c (by omega)
    show sFor _ _ _ (sL (.fls (ns.map .int)) (penD (ns.take 60) 0 0) .un .un .un .un .un .un .un .un .un .un .un .un .un .un .un .un .un .un .un .un) = _
    simp only [sFor, ir, Option.bind_some]
    exact lo
  · refine rt_ret (v_bin (op := oEq false) (d1 := rootD [] [true, false]) (d2 := rootD [] [true, false]) (v_call0 (ds := [dW [], dW [true, false]]) (a_cons (v_tup (ds := []) a_nil (by simp)) (a_cons (v_tup (ds := [dr (true, 1), dr (false, 1)]) (a_cons (v_tup (ds := [.str [98], .int 1]) (a_cons v_c (a_cons v_c a_nil)) (by simp)) (a_cons (v_tup (ds := [.str [97], .int 1]) (a_cons v_c (a_cons v_c a_nil)) (by simp)) a_nil)) (by simp)) a_nil)) lim) ?_ (eq_self (shp_root _ _) false))
    rw [root_gold]
    exact v_tup (a_cons v_c (a_cons (v_tup (a_cons v_c (a_cons (v_un (d1 := .int 1) v_c rfl) (a_cons (v_un (d1 := .int 1) v_c rfl) a_nil))) (by simp)) (a_cons v_c a_nil))) (by simp)
end W
end

section
set_option Elab.async false
set_option linter.all false
set_option maxRecDepth 100000
set_option maxHeartbeats 4000000

namespace W
open DL PySem PySem.Spec PyProof.Rows L2 StX
def top (i : Nat) : Stmt := PySem.Challenge.pw_whichways_k60_whole_limits_are_roots_of.main.body.getD i (.Pass ⟨0, 0, 0, 0⟩)
structure GC (K : PySem.W.Frag) (mg : Str → Option Value) (x : Str) (d : D) : Prop where
  ex : ∃ (u : Value) (v : V), mg x = some u ∧ RelV v u ∧ ∀ Hf, Rp K Hf v d
theorem de_gc {X : Cx} {x : Str} {d : D} {pos : Pos} (h : GC X.K X.mg x d) (hg : Gl X x := by rfl) (hd : (x == ("__debug__" : Str)) = false := by decide) : DE X (.Name x pos) (gC d) := by
  obtain ⟨u, v, h1, h2, h3⟩ := h.ex
  exact de_glob h1 h2 h3 hg hd
abbrev s_is_integer : Stmt := top 7
abbrev s_is_within : Stmt := top 8
abbrev s_is_list : Stmt := top 9
abbrev s_is_point : Stmt := top 10
abbrev s_common : Stmt := top 11
abbrev s_ways_in : Stmt := top 15
abbrev s_is_slant : Stmt := top 20
abbrev s_path_in : Stmt := top 21
abbrev s_added : Stmt := top 22
abbrev s_slant_in : Stmt := top 23
abbrev s_letters_in : Stmt := top 24
abbrev s_is_run : Stmt := top 34
abbrev s_is_path : Stmt := top 35
abbrev s_is_name : Stmt := top 36
abbrev s_path_at : Stmt := top 37
abbrev s_name_at : Stmt := top 38
abbrev s_runs_of : Stmt := top 39
abbrev s_least_block : Stmt := top 40
abbrev s_drawn_in : Stmt := top 41
abbrev s_shortened_in : Stmt := top 42
abbrev s_is_north : Stmt := top 43
abbrev s_rest_behind : Stmt := top 44
abbrev s_is_beyond_in : Stmt := top 45
abbrev s_machine_of : Stmt := top 46
abbrev s_equation_of : Stmt := top 47
abbrev s_side_name : Stmt := top 48
abbrev s_name_in : Stmt := top 49
abbrev s_slant_by : Stmt := top 50
abbrev s_need_name : Stmt := top 51
abbrev s_need_endless : Stmt := top 52
abbrev s_name_of : Stmt := top 53
abbrev s_way_of : Stmt := top 54
abbrev s_shortened : Stmt := top 55
abbrev s_limit_of : Stmt := top 56
abbrev s_is_beyond : Stmt := top 57
abbrev s__law_pen : Stmt := top 59
abbrev s__law_draw : Stmt := top 60
abbrev s__law_pick : Stmt := top 61
abbrev s__law_common : Stmt := top 62
abbrev s__law_low : Stmt := top 63
abbrev s__law_slant : Stmt := top 64
abbrev s__law_back : Stmt := top 65
abbrev s__law_name : Stmt := top 66
abbrev s__law_letters : Stmt := top 67
abbrev s__law_text : Stmt := top 68
abbrev s__law_above : Stmt := top 69
abbrev s__law_begin : Stmt := top 70
abbrev s__law_coprime : Stmt := top 71
abbrev s__law_ahead : Stmt := top 72
abbrev s__law_is_above_root : Stmt := top 73
abbrev s__law_is_square : Stmt := top 74
abbrev s_law : Stmt := top 75
end W
end

section
set_option Elab.async false
set_option linter.all false
set_option maxRecDepth 100000
set_option maxHeartbeats 4000000

namespace W
open DL PySem PySem.Spec PyProof.Rows L2 StX
section
variable {P : Program} {w : World} {K : PySem.W.Frag} {mg : Str → Option Value} {base : Heap}
theorem sc_is_integer : FnScope ["value"] ["value"] (defScope s_is_integer) := ⟨rfl, rfl, rfl, by decide +kernel, rfl, by decide +kernel, by decide +kernel⟩
theorem w_is_integer (T : Fd K mg "is_integer" s_is_integer []) (n_isinstance : mg "isinstance" = none) (n_int : mg "int" = none) (n_bool : mg "bool" = none) : FO P w K mg base 1 "is_integer" [] (SpP K 1 φ_is_integer) :=
  fo_P T sc_is_integer rfl rfl (fun _ _ _ _ _ _ us hl => match us, hl with | [_], _ => rfl) fun _ _ _ _ _ _ _ hr =>
  (dss_one (ds_ret (de_and (de_isi n_isinstance n_int boot_int (by decide) (dv 0)) (de_one (de_not (de_isi n_isinstance n_bool boot_bool (by decide) (dv 0)))))))
theorem sc_is_within : FnScope ["value", "least", "most"] ["value", "least", "most"] (defScope s_is_within) := ⟨rfl, rfl, rfl, by decide +kernel, rfl, by decide +kernel, by decide +kernel⟩
theorem w_is_within (T : Fd K mg "is_within" s_is_within []) (w_is_integer : FO P w K mg base 1 "is_integer" [] (SpP K 1 φ_is_integer)) : FO P w K mg base 2 "is_within" [] (SpP K 3 φ_is_within) :=
  fo_P T sc_is_within rfl rfl (fun _ _ _ _ _ _ us hl => match us, hl with | [_, _, _], _ => rfl) fun _ _ _ _ _ _ _ hr =>
  (dss_cons (ds_if (dt_not (dt_val (ce w_is_integer hr (by decide) (da_cons (dv 0) da_nil))))
  (dss_one (ds_ret de_bl))
  dss_nil)
  (dss_one (ds_ret (de_and (de_or (de_cmp op_isD (dv 1) de_non) (de_one (de_cmp op_leD (dv 1) (dv 0)))) (de_one (de_or (de_cmp op_isD (dv 2) de_non) (de_one (de_cmp op_leD (dv 0) (dv 2)))))))))
theorem sc_is_list : FnScope ["value"] ["value"] (defScope s_is_list) := ⟨rfl, rfl, rfl, by decide +kernel, rfl, by decide +kernel, by decide +kernel⟩
theorem w_is_list (T : Fd K mg "is_list" s_is_list []) (n_isinstance : mg "isinstance" = none) (n_list : mg "list" = none) (n_tuple : mg "tuple" = none) : FO P w K mg base 1 "is_list" [] (SpP K 1 φ_is_list) :=
  fo_P T sc_is_list rfl rfl (fun _ _ _ _ _ _ us hl => match us, hl with | [_], _ => rfl) fun _ _ _ _ _ _ _ hr =>
  (dss_one (ds_ret (de_isi2 n_isinstance n_list boot_list (by decide) n_tuple boot_tuple (by decide) (dv 0))))
theorem sc_is_point : FnScope ["value", "each"] ["value"] (defScope s_is_point) := ⟨rfl, rfl, rfl, by decide +kernel, rfl, by decide +kernel, by decide +kernel⟩
theorem w_is_point (T : Fd K mg "is_point" s_is_point []) (w_is_list : FO P w K mg base 1 "is_list" [] (SpP K 1 φ_is_list)) (w_is_integer : FO P w K mg base 1 "is_integer" [] (SpP K 1 φ_is_integer)) (n_len : mg "len" = none) (n_all : mg "all" = none) : FO P w K mg base 2 "is_point" [] (SpP K 1 φ_is_point) :=
  fo_P T sc_is_point rfl rfl (fun _ _ _ _ _ _ us hl => match us, hl with | [_], _ => rfl) fun _ _ _ _ _ _ _ hr =>
  (dss_one (ds_ret (de_and (ce w_is_list hr (by decide) (da_cons (dv 0) da_nil)) (de_and (de_cmp (op_eqS hr.units) (de_callB c_len n_len boot_len (dv 0)) de_int) (de_one (de_callB c_all n_all boot_all (de_lc (own := [("each", 1)]) rfl sc_is_point.nd (di_any (dv 0)) (blkOk_by (N := ["value", "each"]) (sc := defScope s_is_point) (by decide +kernel)) (fun _ _ _ _ _ => (dg_name (i := 1) sc_is_point.nd)) (fun _ _ _ _ _ => dpts_nil) (fun _ _ _ _ _ => (ce w_is_integer hr (by decide) (da_cons (dv 1) da_nil))))))))))
theorem sc_common : FnScope ["one", "other"] ["one", "other"] (defScope s_common) := ⟨rfl, rfl, rfl, by decide +kernel, rfl, by decide +kernel, by decide +kernel⟩
theorem w_common (T : Fd K mg "common" s_common []) (n_abs : mg "abs" = none) : FO P w K mg base 1 "common" [] (SpP K 2 φ_common) :=
  fo_P T sc_common rfl rfl (fun _ _ _ _ _ _ us hl => match us, hl with | [_, _], _ => rfl) fun _ _ _ _ _ _ _ hr =>
  (dss_cons (ds_par (i := 0) (j := 1) rfl sc_common.nd (de_callB c_abs n_abs boot_abs (dv 0)) (de_callB c_abs n_abs boot_abs (dv 1)))
  (dss_cons (ds_while big PassesOwn.never (dt_cmp (op_neS hr.units) (dv 1) de_int)
  (dss_one (ds_par (i := 0) (j := 1) rfl sc_common.nd (dv 1) (de_op op_modD (dv 0) (dv 1)))))
  (dss_one (ds_ret (dv 0)))))
theorem sc_ways_in : FnScope ["word", "ways", "letter", "times", "p", "q"] ["word"] (defScope s_ways_in) := ⟨rfl, rfl, rfl, by decide +kernel, rfl, by decide +kernel, by decide +kernel⟩
theorem w_ways_in (T : Fd K mg "ways_in" s_ways_in []) (n_reversed : mg "reversed" = none) (n_tuple : mg "tuple" = none) (c_A : GC K mg "A" k_A) : FO P w K mg base 1 "ways_in" [] (SpP K 1 φ_ways_in) :=
  fo_P T sc_ways_in rfl rfl (fun _ _ _ _ _ _ us hl => match us, hl with | [_], _ => rfl) fun _ _ _ _ _ _ _ hr =>
  (dss_cons (ds_set (i := 1) sc_ways_in.nd (de_lst (da_cons (de_tup (da_cons de_int (da_cons de_int da_nil))) (da_cons (de_tup (da_cons de_int (da_cons de_int da_nil))) da_nil))))
  (dss_cons (ds_for PassesOwn.never rfl (di_rev n_reversed (dv 0)) (dg_tup rfl (dgs_cons (dg_name (i := 2) sc_ways_in.nd) (dgs_cons (dg_name (i := 3) sc_ways_in.nd) dgs_nil)))
  (dss_one (ds_setLc (i := 1) (own := [("p", 4), ("q", 5)]) rfl sc_ways_in.nd (di_any (dv 1)) (blkOk_by (N := ["word", "ways", "letter", "times", "p", "q"]) (sc := defScope s_ways_in) (by decide +kernel)) (fun _ _ _ _ _ => (dg_tup rfl (dgs_cons (dg_name (i := 4) sc_ways_in.nd) (dgs_cons (dg_name (i := 5) sc_ways_in.nd) dgs_nil)))) (fun _ _ _ _ _ => dpts_nil) (fun _ _ _ _ _ => (de_if (dt_cmp (op_eqS hr.units) (dv 2) (de_gc c_A)) (de_tup (da_cons (de_op op_addD (dv 4) (de_op op_mulD (dv 3) (dv 5))) (da_cons (dv 5) da_nil))) (de_tup (da_cons (dv 4) (da_cons (de_op op_addD (dv 5) (de_op op_mulD (dv 3) (dv 4))) da_nil))))))))
  (dss_one (ds_ret (de_callTy c_tuple n_tuple boot_tuple (dv 1))))))
theorem sc_is_slant : FnScope ["value"] ["value"] (defScope s_is_slant) := ⟨rfl, rfl, rfl, by decide +kernel, rfl, by decide +kernel, by decide +kernel⟩
theorem w_is_slant (T : Fd K mg "is_slant" s_is_slant []) (w_is_point : FO P w K mg base 2 "is_point" [] (SpP K 1 φ_is_point)) (w_common : FO P w K mg base 1 "common" [] (SpP K 2 φ_common)) : FO P w K mg base 3 "is_slant" [] (SpP K 1 φ_is_slant) :=
  fo_P T sc_is_slant rfl rfl (fun _ _ _ _ _ _ us hl => match us, hl with | [_], _ => rfl) fun _ _ _ _ _ _ _ hr =>
  (dss_one (ds_ret (de_and (ce w_is_point hr (by decide) (da_cons (dv 0) da_nil)) (de_and (de_cmp op_geD (de_ix (dv 0) de_int) de_int) (de_and (de_cmp op_geD (de_ix (dv 0) de_int) de_int) (de_one (de_cmp (op_eqS hr.units) (ce w_common hr (by decide) (da_cons (de_ix (dv 0) de_int) (da_cons (de_ix (dv 0) de_int) da_nil))) de_int)))))))
theorem sc_path_in : FnScope ["slant", "p", "q", "found", "times"] ["slant"] (defScope s_path_in) := ⟨rfl, rfl, rfl, by decide +kernel, rfl, by decide +kernel, by decide +kernel⟩
theorem w_path_in (T : Fd K mg "path_in" s_path_in []) (n_tuple : mg "tuple" = none) (c_A : GC K mg "A" k_A) (c_B : GC K mg "B" k_B) : FO P w K mg base 1 "path_in" [] (SpP K 1 φ_path_in) :=
  fo_P T sc_path_in rfl rfl (fun _ _ _ _ _ _ us hl => match us, hl with | [_], _ => rfl) fun _ _ _ _ _ _ _ hr =>
  (dss_cons (ds_asg (dv 0) (dg_tup rfl (dgs_cons (dg_name (i := 1) sc_path_in.nd) (dgs_cons (dg_name (i := 2) sc_path_in.nd) dgs_nil))))
  (dss_cons (ds_set (i := 3) sc_path_in.nd (de_lst da_nil))
  (dss_cons (ds_while big PassesOwn.never (dt_cmp (op_neS hr.units) (dv 1) (dv 2))
  (dss_one (ds_if (dt_cmp op_gtD (dv 1) (dv 2))
  (dss_cons (ds_set (i := 4) sc_path_in.nd (de_op op_fdivD (de_op op_subD (dv 1) de_int) (dv 2)))
  (dss_cons (ds_expr (de_m PySem.F.slot_list_append PySem.F.type_list_append m_append (dv 3) (da_cons (de_tup (da_cons (de_gc c_A) (da_cons (dv 4) da_nil))) da_nil)))
  (dss_one (ds_set (i := 1) sc_path_in.nd (de_op op_subD (dv 1) (de_op op_mulD (dv 4) (dv 2)))))))
  (dss_cons (ds_set (i := 4) sc_path_in.nd (de_op op_fdivD (de_op op_subD (dv 2) de_int) (dv 1)))
  (dss_cons (ds_expr (de_m PySem.F.slot_list_append PySem.F.type_list_append m_append (dv 3) (da_cons (de_tup (da_cons (de_gc c_B) (da_cons (dv 4) da_nil))) da_nil)))
  (dss_one (ds_set (i := 2) sc_path_in.nd (de_op op_subD (dv 2) (de_op op_mulD (dv 4) (dv 1))))))))))
  (dss_one (ds_ret (de_callTy c_tuple n_tuple boot_tuple (dv 3)))))))
end
end W
end

section
set_option Elab.async false
set_option linter.all false
set_option maxRecDepth 100000
set_option maxHeartbeats 4000000

namespace W
open DL PySem PySem.Spec PyProof.Rows L2 StX
section
variable {P : Program} {w : World} {K : PySem.W.Frag} {mg : Str → Option Value} {base : Heap}
theorem sc_added : FnScope ["one", "other"] ["one", "other"] (defScope s_added) := ⟨rfl, rfl, rfl, by decide +kernel, rfl, by decide +kernel, by decide +kernel⟩
theorem w_added (T : Fd K mg "added" s_added []) : FO P w K mg base 1 "added" [] (SpP K 2 φ_added) :=
  fo_P T sc_added rfl rfl (fun _ _ _ _ _ _ us hl => match us, hl with | [_, _], _ => rfl) fun _ _ _ _ _ _ _ hr =>
  (dss_one (ds_ret (de_tup (da_cons (de_op op_addD (de_ix (dv 0) de_int) (de_ix (dv 1) de_int)) (da_cons (de_op op_addD (de_ix (dv 0) de_int) (de_ix (dv 1) de_int)) da_nil)))))
theorem sc_slant_in : FnScope ["word", "flatter", "steeper"] ["word"] (defScope s_slant_in) := ⟨rfl, rfl, rfl, by decide +kernel, rfl, by decide +kernel, by decide +kernel⟩
theorem w_slant_in (T : Fd K mg "slant_in" s_slant_in []) (w_ways_in : FO P w K mg base 1 "ways_in" [] (SpP K 1 φ_ways_in)) (w_added : FO P w K mg base 1 "added" [] (SpP K 2 φ_added)) : FO P w K mg base 2 "slant_in" [] (SpP K 1 φ_slant_in) :=
  fo_P T sc_slant_in rfl rfl (fun _ _ _ _ _ _ us hl => match us, hl with | [_], _ => rfl) fun _ _ _ _ _ _ _ hr =>
  (dss_cons (ds_asg (ce w_ways_in hr (by decide) (da_cons (dv 0) da_nil)) (dg_tup rfl (dgs_cons (dg_name (i := 1) sc_slant_in.nd) (dgs_cons (dg_name (i := 2) sc_slant_in.nd) dgs_nil))))
  (dss_one (ds_ret (ce w_added hr (by decide) (da_cons (dv 1) (da_cons (dv 2) da_nil))))))
theorem sc_letters_in : FnScope ["word", "_", "times"] ["word"] (defScope s_letters_in) := ⟨rfl, rfl, rfl, by decide +kernel, rfl, by decide +kernel, by decide +kernel⟩
theorem w_letters_in (T : Fd K mg "letters_in" s_letters_in []) (n_sum : mg "sum" = none) : FO P w K mg base 1 "letters_in" [] (SpP K 1 φ_letters_in) :=
  fo_P T sc_letters_in rfl rfl (fun _ _ _ _ _ _ us hl => match us, hl with | [_], _ => rfl) fun _ _ _ _ _ _ _ hr =>
  (dss_one (ds_ret (de_callB c_sum n_sum boot_sum (de_lc (own := [("_", 1), ("times", 2)]) rfl sc_letters_in.nd (di_any (dv 0)) (blkOk_by (N := ["word", "_", "times"]) (sc := defScope s_letters_in) (by decide +kernel)) (fun _ _ _ _ _ => (dg_tup rfl (dgs_cons (dg_name (i := 1) sc_letters_in.nd) (dgs_cons (dg_name (i := 2) sc_letters_in.nd) dgs_nil)))) (fun _ _ _ _ _ => dpts_nil) (fun _ _ _ _ _ => (dv 2))))))
theorem sc_is_run : FnScope ["value"] ["value"] (defScope s_is_run) := ⟨rfl, rfl, rfl, by decide +kernel, rfl, by decide +kernel, by decide +kernel⟩
theorem w_is_run (T : Fd K mg "is_run" s_is_run []) (w_is_list : FO P w K mg base 1 "is_list" [] (SpP K 1 φ_is_list)) (w_is_within : FO P w K mg base 2 "is_within" [] (SpP K 3 φ_is_within)) (n_len : mg "len" = none) (n_isinstance : mg "isinstance" = none) (n_str : mg "str" = none) (c_B : GC K mg "B" k_B) (c_A : GC K mg "A" k_A) (c_MOST_TIMES : GC K mg "MOST_TIMES" k_MOST_TIMES) : FO P w K mg base 3 "is_run" [] (SpP K 1 φ_is_run) :=
  fo_P T sc_is_run rfl rfl (fun _ _ _ _ _ _ us hl => match us, hl with | [_], _ => rfl) fun _ _ _ _ _ _ _ hr =>
  (dss_cons (ds_if (DW.dt (dw_or (dt_not (dt_val (ce w_is_list hr (by decide) (da_cons (dv 0) da_nil)))) (dw_or (dt_cmp (op_neS hr.units) (de_callB c_len n_len boot_len (dv 0)) de_int) (dw_or1 (dt_not (dt_val (de_isi n_isinstance n_str boot_str (by decide) (de_ix (dv 0) de_int))))))))
  (dss_one (ds_ret de_bl))
  dss_nil)
  (dss_one (ds_ret (de_and (de_cmp (op_inS hr.u65) (de_ix (dv 0) de_int) (de_tup (da_cons (de_gc c_A) (da_cons (de_gc c_B) da_nil)))) (de_one (ce w_is_within hr (by decide) (da_cons (de_ix (dv 0) de_int) (da_cons de_int (da_cons (de_gc c_MOST_TIMES) da_nil)))))))))
theorem sc_is_path : FnScope ["value", "one", "other", "run"] ["value"] (defScope s_is_path) := ⟨rfl, rfl, rfl, by decide +kernel, rfl, by decide +kernel, by decide +kernel⟩
theorem w_is_path (T : Fd K mg "is_path" s_is_path []) (w_is_list : FO P w K mg base 1 "is_list" [] (SpP K 1 φ_is_list)) (w_is_run : FO P w K mg base 3 "is_run" [] (SpP K 1 φ_is_run)) (n_len : mg "len" = none) (n_all : mg "all" = none) (n_zip : mg "zip" = none) (c_MOST_RUNS : GC K mg "MOST_RUNS" k_MOST_RUNS) : FO P w K mg base 4 "is_path" [] (SpP K 1 φ_is_path) :=
  fo_P T sc_is_path rfl rfl (fun _ _ _ _ _ _ us hl => match us, hl with | [_], _ => rfl) fun _ _ _ _ _ _ _ hr =>
  (dss_cons (ds_if (DW.dt (dw_or (dt_not (dt_val (ce w_is_list hr (by decide) (da_cons (dv 0) da_nil)))) (dw_or (dt_cmp op_gtD (de_callB c_len n_len boot_len (dv 0)) (de_gc c_MOST_RUNS)) (dw_or1 (dt_not (dt_val (de_callB c_all n_all boot_all (de_lc (own := [("run", 3)]) rfl sc_is_path.nd (di_any (dv 0)) (blkOk_by (N := ["value", "one", "other", "run"]) (sc := defScope s_is_path) (by decide +kernel)) (fun _ _ _ _ _ => (dg_name (i := 3) sc_is_path.nd)) (fun _ _ _ _ _ => dpts_nil) (fun _ _ _ _ _ => (ce w_is_run hr (by decide) (da_cons (dv 3) da_nil)))))))))))
  (dss_one (ds_ret de_bl))
  dss_nil)
  (dss_one (ds_ret (de_callB c_all n_all boot_all (de_lc (own := [("one", 1), ("other", 2)]) rfl sc_is_path.nd (di_zip n_zip (dv 0) (de_sl (dv 0) (do_some de_int) do_none)) (blkOk_by (N := ["value", "one", "other", "run"]) (sc := defScope s_is_path) (by decide +kernel)) (fun _ _ _ _ _ => (dg_tup rfl (dgs_cons (dg_name (i := 1) sc_is_path.nd) (dgs_cons (dg_name (i := 2) sc_is_path.nd) dgs_nil)))) (fun _ _ _ _ _ => dpts_nil) (fun _ _ _ _ _ => (de_cmp (op_neS hr.units) (de_ix (dv 1) de_int) (de_ix (dv 2) de_int))))))))
theorem sc_is_name : FnScope ["value"] ["value"] (defScope s_is_name) := ⟨rfl, rfl, rfl, by decide +kernel, rfl, by decide +kernel, by decide +kernel⟩
theorem w_is_name (T : Fd K mg "is_name" s_is_name []) (w_is_path : FO P w K mg base 4 "is_path" [] (SpP K 1 φ_is_path)) (n_isinstance : mg "isinstance" = none) (n_str : mg "str" = none) (c_NORTH : GC K mg "NORTH" k_NORTH) (c_EAST : GC K mg "EAST" k_EAST) : FO P w K mg base 5 "is_name" [] (SpP K 1 φ_is_name) :=
  fo_P T sc_is_name rfl rfl (fun _ _ _ _ _ _ us hl => match us, hl with | [_], _ => rfl) fun _ _ _ _ _ _ _ hr =>
  (dss_cons (ds_if (dt_val (de_isi n_isinstance n_str boot_str (by decide) (dv 0)))
  (dss_one (ds_ret (de_cmp (op_inS hr.u65) (dv 0) (de_tup (da_cons (de_gc c_EAST) (da_cons (de_gc c_NORTH) da_nil))))))
  dss_nil)
  (dss_one (ds_ret (ce w_is_path hr (by decide) (da_cons (dv 0) da_nil)))))
theorem sc_path_at : FnScope ["value", "run"] ["value"] (defScope s_path_at) := ⟨rfl, rfl, rfl, by decide +kernel, rfl, by decide +kernel, by decide +kernel⟩
theorem w_path_at (T : Fd K mg "path_at" s_path_at []) (n_tuple : mg "tuple" = none) : FO P w K mg base 1 "path_at" [] (SpP K 1 φ_path_at) :=
  fo_P T sc_path_at rfl rfl (fun _ _ _ _ _ _ us hl => match us, hl with | [_], _ => rfl) fun _ _ _ _ _ _ _ hr =>
  (dss_one (ds_ret (de_callTy c_tuple n_tuple boot_tuple (de_lc (own := [("run", 1)]) rfl sc_path_at.nd (di_any (dv 0)) (blkOk_by (N := ["value", "run"]) (sc := defScope s_path_at) (by decide +kernel)) (fun _ _ _ _ _ => (dg_name (i := 1) sc_path_at.nd)) (fun _ _ _ _ _ => dpts_nil) (fun _ _ _ _ _ => (de_callTy c_tuple n_tuple boot_tuple (dv 1)))))))
theorem sc_name_at : FnScope ["value"] ["value"] (defScope s_name_at) := ⟨rfl, rfl, rfl, by decide +kernel, rfl, by decide +kernel, by decide +kernel⟩
theorem w_name_at (T : Fd K mg "name_at" s_name_at []) (w_path_at : FO P w K mg base 1 "path_at" [] (SpP K 1 φ_path_at)) (n_isinstance : mg "isinstance" = none) (n_str : mg "str" = none) : FO P w K mg base 2 "name_at" [] (SpP K 1 φ_name_at) :=
  fo_P T sc_name_at rfl rfl (fun _ _ _ _ _ _ us hl => match us, hl with | [_], _ => rfl) fun _ _ _ _ _ _ _ hr =>
  (dss_one (ds_ret (de_if (dt_val (de_isi n_isinstance n_str boot_str (by decide) (dv 0))) (dv 0) (ce w_path_at hr (by decide) (da_cons (dv 0) da_nil)))))
end
end W
end

section
set_option Elab.async false
set_option linter.all false
set_option maxRecDepth 100000
set_option maxHeartbeats 4000000

namespace W
open DL PySem PySem.Spec PyProof.Rows L2 StX
section
variable {P : Program} {w : World} {K : PySem.W.Frag} {mg : Str → Option Value} {base : Heap}
theorem sc_runs_of : FnScope ["runs", "found", "letter", "times"] ["runs"] (defScope s_runs_of) := ⟨rfl, rfl, rfl, by decide +kernel, rfl, by decide +kernel, by decide +kernel⟩
theorem w_runs_of (T : Fd K mg "runs_of" s_runs_of []) (n_tuple : mg "tuple" = none) : FO P w K mg base 1 "runs_of" [] (SpP K 1 φ_runs_of) :=
  fo_P T sc_runs_of rfl rfl (fun _ _ _ _ _ _ us hl => match us, hl with | [_], _ => rfl) fun _ _ _ _ _ _ _ hr =>
  (dss_cons (ds_set (i := 1) sc_runs_of.nd (de_lst da_nil))
  (dss_cons (ds_for PassesOwn.never rfl (di_any (dv 0)) (dg_tup rfl (dgs_cons (dg_name (i := 2) sc_runs_of.nd) (dgs_cons (dg_name (i := 3) sc_runs_of.nd) dgs_nil)))
  (dss_one (ds_if (DW.dt (dw_and (dt_cmp op_gtD (dv 3) de_int) (dw_and (dt_cmp (op_neS hr.units) (dv 1) (de_lst da_nil)) (dw_and1 (dt_cmp (op_eqS hr.units) (de_ix (de_ix (dv 1) (de_neg de_int)) de_int) (dv 2))))))
  (dss_one (ds_item (de_tup (da_cons (dv 2) (da_cons (de_op op_addD (de_ix (de_ix (dv 1) (de_neg de_int)) de_int) (dv 3)) da_nil))) (dv 1) (de_neg de_int)))
  (dss_one (ds_if (dt_cmp op_gtD (dv 3) de_int)
  (dss_one (ds_expr (de_m PySem.F.slot_list_append PySem.F.type_list_append m_append (dv 1) (da_cons (de_tup (da_cons (dv 2) (da_cons (dv 3) da_nil))) da_nil))))
  dss_nil)))))
  (dss_one (ds_ret (de_callTy c_tuple n_tuple boot_tuple (dv 1))))))
theorem sc_least_block : FnScope ["runs", "many"] ["runs"] (defScope s_least_block) := ⟨rfl, rfl, rfl, by decide +kernel, rfl, by decide +kernel, by decide +kernel⟩
theorem w_least_block (T : Fd K mg "least_block" s_least_block []) (n_range : mg "range" = none) (n_len : mg "len" = none) : FO P w K mg base 1 "least_block" [] (SpP K 1 φ_least_block) :=
  fo_P T sc_least_block rfl rfl (fun _ _ _ _ _ _ us hl => match us, hl with | [_], _ => rfl) fun _ _ _ _ _ _ _ hr =>
  (dss_cons (ds_for PassesOwn.never rfl (di_range2 n_range de_int (de_op op_addD (de_callB c_len n_len boot_len (dv 0)) de_int)) (dg_name (i := 1) sc_least_block.nd)
  (dss_one (ds_if (DW.dt (dw_and (dt_cmp (op_eqS hr.units) (de_op op_modD (de_callB c_len n_len boot_len (dv 0)) (dv 1)) de_int) (dw_and1 (dt_cmp (op_eqS hr.units) (dv 0) (de_op op_mulD (de_sl (dv 0) do_none (do_some (dv 1))) (de_op op_fdivD (de_callB c_len n_len boot_len (dv 0)) (dv 1)))))))
  (dss_one (ds_ret (de_sl (dv 0) do_none (do_some (dv 1)))))
  dss_nil)))
  (dss_one (ds_ret (dv 0))))
theorem sc_drawn_in : FnScope ["head", "period", "left", "block", "letter", "times", "last", "drawn"] ["head", "period"] (defScope s_drawn_in) := ⟨rfl, rfl, rfl, by decide +kernel, rfl, by decide +kernel, by decide +kernel⟩
theorem w_drawn_in (T : Fd K mg "drawn_in" s_drawn_in []) (w_runs_of : FO P w K mg base 1 "runs_of" [] (SpP K 1 φ_runs_of)) (n_min : mg "min" = none) (n_tuple : mg "tuple" = none) : FO P w K mg base 2 "drawn_in" [] (SpP K 2 φ_drawn_in) :=
  fo_P T sc_drawn_in rfl rfl (fun _ _ _ _ _ _ us hl => match us, hl with | [_, _], _ => rfl) fun _ _ _ _ _ _ _ hr =>
  (dss_cons (ds_par (i := 2) (j := 3) rfl sc_drawn_in.nd (de_lst (da_star (dv 0) da_nil)) (de_lst (da_star (dv 1) da_nil)))
  (dss_cons (ds_while big PassesOwn.never (DW.dt (dw_and (dt_cmp (op_neS hr.units) (dv 2) (de_lst da_nil)) (dw_and1 (dt_cmp (op_eqS hr.units) (de_ix (de_ix (dv 2) (de_neg de_int)) de_int) (de_ix (de_ix (dv 3) (de_neg de_int)) de_int)))))
  (dss_cons (ds_asg (de_m0 PySem.F.slot_list_pop PySem.F.type_list_pop m_pop (dv 2)) (dg_tup rfl (dgs_cons (dg_name (i := 4) sc_drawn_in.nd) (dgs_cons (dg_name (i := 5) sc_drawn_in.nd) dgs_nil))))
  (dss_cons (ds_set (i := 6) sc_drawn_in.nd (de_ix (de_m0 PySem.F.slot_list_pop PySem.F.type_list_pop m_pop (dv 3)) de_int))
  (dss_cons (ds_set (i := 7) sc_drawn_in.nd (de_callB2 c_min2 n_min boot_min (dv 5) (dv 6)))
  (dss_cons (ds_set (i := 3) sc_drawn_in.nd (de_lst (da_star (ce w_runs_of hr (by decide) (da_cons (de_lst (da_cons (de_tup (da_cons (dv 4) (da_cons (dv 7) da_nil))) (da_star (dv 3) (da_cons (de_tup (da_cons (dv 4) (da_cons (de_op op_subD (dv 6) (dv 7)) da_nil))) da_nil)))) da_nil)) da_nil)))
  (dss_one (ds_if (dt_cmp (op_neS hr.units) (dv 5) (dv 6))
  (dss_cons (ds_set (i := 2) sc_drawn_in.nd (de_if (dt_cmp op_gtD (dv 5) (dv 7)) (de_lst (da_star (dv 2) (da_cons (de_tup (da_cons (dv 4) (da_cons (de_op op_subD (dv 5) (dv 7)) da_nil))) da_nil))) (dv 2)))
  (dss_one ds_break))
  dss_nil)))))))
  (dss_one (ds_ret (de_tup (da_cons (de_callTy c_tuple n_tuple boot_tuple (dv 2)) (da_cons (de_callTy c_tuple n_tuple boot_tuple (dv 3)) da_nil)))))))
theorem sc_shortened_in : FnScope ["head", "period", "letter", "first", "last", "middle", "both"] ["head", "period"] (defScope s_shortened_in) := ⟨rfl, rfl, rfl, by decide +kernel, rfl, by decide +kernel, by decide +kernel⟩
theorem w_shortened_in (T : Fd K mg "shortened_in" s_shortened_in []) (w_runs_of : FO P w K mg base 1 "runs_of" [] (SpP K 1 φ_runs_of)) (w_drawn_in : FO P w K mg base 2 "drawn_in" [] (SpP K 2 φ_drawn_in)) (w_least_block : FO P w K mg base 1 "least_block" [] (SpP K 1 φ_least_block)) (n_len : mg "len" = none) : FO P w K mg base 3 "shortened_in" [] (SpP K 2 φ_shortened_in) :=
  fo_P T sc_shortened_in rfl rfl (fun _ _ _ _ _ _ us hl => match us, hl with | [_, _], _ => rfl) fun _ _ _ _ _ _ _ hr =>
  (dss_cons (ds_if (dt_cmp (op_eqS hr.units) (de_callB c_len n_len boot_len (dv 1)) de_int)
  (dss_cons (ds_set (i := 2) sc_shortened_in.nd (de_ix (de_ix (dv 1) de_int) de_int))
  (dss_one (ds_ret (de_tup (da_cons (de_if (DW.dt (dw_and (dt_cmp (op_neS hr.units) (dv 0) (de_tup da_nil)) (dw_and1 (dt_cmp (op_eqS hr.units) (de_ix (de_ix (dv 0) (de_neg de_int)) de_int) (dv 2))))) (de_sl (dv 0) do_none (do_some (de_neg de_int))) (dv 0)) (da_cons (de_tup (da_cons (de_tup (da_cons (dv 2) (da_cons de_int da_nil))) da_nil)) da_nil))))))
  dss_nil)
  (dss_cons (ds_par (i := 3) (j := 4) rfl sc_shortened_in.nd (de_ix (dv 1) de_int) (de_ix (dv 1) (de_neg de_int)))
  (dss_cons (ds_if (dt_cmp (op_eqS hr.units) (de_ix (dv 3) de_int) (de_ix (dv 4) de_int))
  (dss_cons (ds_par (i := 5) (j := 6) rfl sc_shortened_in.nd (de_sl (dv 1) (do_some de_int) (do_some (de_neg de_int))) (de_tup (da_cons (de_ix (dv 4) de_int) (da_cons (de_op op_addD (de_ix (dv 4) de_int) (de_ix (dv 3) de_int)) da_nil))))
  (dss_one (ds_par (i := 0) (j := 1) rfl sc_shortened_in.nd (ce w_runs_of hr (by decide) (da_cons (de_lst (da_star (dv 0) (da_cons (dv 3) da_nil))) da_nil)) (de_tup (da_star (dv 5) (da_cons (dv 6) da_nil))))))
  dss_nil)
  (dss_one (ds_ret (ce w_drawn_in hr (by decide) (da_cons (dv 0) (da_cons (ce w_least_block hr (by decide) (da_cons (dv 1) da_nil)) da_nil))))))))
theorem sc_is_north : FnScope ["head", "period"] ["head", "period"] (defScope s_is_north) := ⟨rfl, rfl, rfl, by decide +kernel, rfl, by decide +kernel, by decide +kernel⟩
theorem w_is_north (T : Fd K mg "is_north" s_is_north []) (c_B : GC K mg "B" k_B) : FO P w K mg base 1 "is_north" [] (SpP K 2 φ_is_north) :=
  fo_P T sc_is_north rfl rfl (fun _ _ _ _ _ _ us hl => match us, hl with | [_, _], _ => rfl) fun _ _ _ _ _ _ _ hr =>
  (dss_one (ds_ret (de_and (de_cmp (op_eqS hr.units) (dv 0) (de_tup da_nil)) (de_one (de_cmp (op_eqS hr.units) (dv 1) (de_tup (da_cons (de_tup (da_cons (de_gc c_B) (da_cons de_int da_nil))) da_nil)))))))
theorem sc_rest_behind : FnScope ["head", "period", "path", "runs", "at", "left", "letter", "times", "todo", "mine", "many", "rest"] ["head", "period", "path"] (defScope s_rest_behind) := ⟨rfl, rfl, rfl, by decide +kernel, rfl, by decide +kernel, by decide +kernel⟩
theorem w_rest_behind (T : Fd K mg "rest_behind" s_rest_behind []) (w_shortened_in : FO P w K mg base 3 "shortened_in" [] (SpP K 2 φ_shortened_in)) (w_runs_of : FO P w K mg base 1 "runs_of" [] (SpP K 1 φ_runs_of)) (n_len : mg "len" = none) : FO P w K mg base 4 "rest_behind" [] (SpP K 3 φ_rest_behind) :=
  fo_P T sc_rest_behind rfl rfl (fun _ _ _ _ _ _ us hl => match us, hl with | [_, _, _], _ => rfl) fun _ _ _ _ _ _ _ hr =>
  (dss_cons (ds_par3 (i := 3) (j := 4) (l := 5) rfl sc_rest_behind.nd (de_lst (da_star (dv 0) da_nil)) de_int de_int)
  (dss_cons (ds_for PassesOwn.never rfl (di_any (dv 2)) (dg_tup rfl (dgs_cons (dg_name (i := 6) sc_rest_behind.nd) (dgs_cons (dg_name (i := 7) sc_rest_behind.nd) dgs_nil)))
  (dss_cons (ds_set (i := 8) sc_rest_behind.nd (dv 7))
  (dss_one (ds_while big PassesOwn.never (dt_cmp op_gtD (dv 8) de_int)
  (dss_cons (ds_if (dt_cmp (op_eqS hr.units) (dv 4) (de_callB c_len n_len boot_len (dv 3)))
  (dss_one (ds_expr (de_m PySem.F.slot_list_extend PySem.F.type_list_extend m_extend (dv 3) (da_cons (dv 1) da_nil))))
  dss_nil)
  (dss_cons (ds_asg (de_ix (dv 3) (dv 4)) (dg_tup rfl (dgs_cons (dg_name (i := 9) sc_rest_behind.nd) (dgs_cons (dg_name (i := 10) sc_rest_behind.nd) dgs_nil))))
  (dss_cons (ds_if (dt_cmp (op_neS hr.units) (dv 9) (dv 6))
  (dss_one (ds_ret (dv 6)))
  dss_nil)
  (dss_one (ds_if (DW.dt (dw_and (dt_cmp (op_eqS hr.units) (de_callB c_len n_len boot_len (dv 1)) de_int) (dw_and1 (dt_cmp op_geD (dv 4) (de_callB c_len n_len boot_len (dv 0))))))
  (dss_one (ds_set (i := 8) sc_rest_behind.nd de_int))
  (dss_one (ds_if (dt_cmp op_leD (de_op op_subD (dv 10) (dv 5)) (dv 8))
  (dss_one (ds_par3 (i := 8) (j := 4) (l := 5) rfl sc_rest_behind.nd (de_op op_subD (dv 8) (de_op op_subD (dv 10) (dv 5))) (de_op op_addD (dv 4) de_int) de_int))
  (dss_one (ds_par (i := 5) (j := 8) rfl sc_rest_behind.nd (de_op op_addD (dv 5) (dv 8)) de_int)))))))))))))
  (dss_cons (ds_set (i := 11) sc_rest_behind.nd (de_lst (da_star (de_sl (dv 3) (do_some (dv 4)) do_none) da_nil)))
  (dss_cons (ds_if (dt_cmp op_gtD (dv 5) de_int)
  (dss_one (ds_set (i := 11) sc_rest_behind.nd (de_lst (da_cons (de_tup (da_cons (de_ix (de_ix (dv 11) de_int) de_int) (da_cons (de_op op_subD (de_ix (de_ix (dv 11) de_int) de_int) (dv 5)) da_nil))) (da_star (de_sl (dv 11) (do_some de_int) do_none) da_nil)))))
  dss_nil)
  (dss_one (ds_ret (de_if (dt_cmp (op_eqS hr.units) (de_callB c_len n_len boot_len (dv 1)) de_int) (ce w_shortened_in hr (by decide) (da_cons (ce w_runs_of hr (by decide) (da_cons (dv 11) da_nil)) (da_cons (dv 1) da_nil))) (de_tup (da_cons (ce w_runs_of hr (by decide) (da_cons (dv 11) da_nil)) (da_cons (dv 1) da_nil))))))))))
theorem sc_is_beyond_in : FnScope ["name", "head", "period", "rest", "ahead", "again", "first"] ["name", "head", "period"] (defScope s_is_beyond_in) := ⟨rfl, rfl, rfl, by decide +kernel, rfl, by decide +kernel, by decide +kernel⟩
theorem w_is_beyond_in (T : Fd K mg "is_beyond_in" s_is_beyond_in []) (w_is_north : FO P w K mg base 1 "is_north" [] (SpP K 2 φ_is_north)) (w_rest_behind : FO P w K mg base 4 "rest_behind" [] (SpP K 3 φ_rest_behind)) (n_isinstance : mg "isinstance" = none) (n_str : mg "str" = none) (c_NORTH : GC K mg "NORTH" k_NORTH) (c_EAST : GC K mg "EAST" k_EAST) (c_B : GC K mg "B" k_B) (c_A : GC K mg "A" k_A) : FO P w K mg base 5 "is_beyond_in" [] (SpP K 3 φ_is_beyond_in) :=
  fo_P T sc_is_beyond_in rfl rfl (fun _ _ _ _ _ _ us hl => match us, hl with | [_, _, _], _ => rfl) fun _ _ _ _ _ _ _ hr =>
  (dss_cons (ds_if (dt_cmp (op_inS hr.u65) (dv 0) (de_tup (da_cons (de_gc c_EAST) (da_cons (de_gc c_NORTH) da_nil))))
  (dss_one (ds_ret (de_and (de_cmp (op_eqS hr.units) (dv 0) (de_gc c_NORTH)) (de_one (de_not (ce w_is_north hr (by decide) (da_cons (dv 1) (da_cons (dv 2) da_nil))))))))
  dss_nil)
  (dss_cons (ds_set (i := 3) sc_is_beyond_in.nd (ce w_rest_behind hr (by decide) (da_cons (dv 1) (da_cons (dv 2) (da_cons (dv 0) da_nil)))))
  (dss_cons (ds_if (dt_val (de_isi n_isinstance n_str boot_str (by decide) (dv 3)))
  (dss_one (ds_ret (de_cmp (op_eqS hr.units) (dv 3) (de_gc c_B))))
  dss_nil)
  (dss_cons (ds_asg (dv 3) (dg_tup rfl (dgs_cons (dg_name (i := 4) sc_is_beyond_in.nd) (dgs_cons (dg_name (i := 5) sc_is_beyond_in.nd) dgs_nil))))
  (dss_cons (ds_set (i := 6) sc_is_beyond_in.nd (de_ix (de_ix (de_tup (da_star (dv 4) (da_star (dv 5) da_nil))) de_int) de_int))
  (dss_one (ds_ret (de_and (de_cmp (op_eqS hr.units) (dv 6) (de_gc c_A)) (de_one (de_cmp (op_neS hr.units) (dv 3) (de_tup (da_cons (de_tup (da_cons (de_tup (da_cons (de_gc c_A) (da_cons de_int da_nil))) da_nil)) (da_cons (de_tup (da_cons (de_tup (da_cons (de_gc c_B) (da_cons de_int da_nil))) da_nil)) da_nil)))))))))))))
theorem sc_machine_of : FnScope ["path", "a", "b", "c", "d", "letter", "times"] ["path"] (defScope s_machine_of) := ⟨rfl, rfl, rfl, by decide +kernel, rfl, by decide +kernel, by decide +kernel⟩
theorem w_machine_of (T : Fd K mg "machine_of" s_machine_of []) (c_B : GC K mg "B" k_B) : FO P w K mg base 1 "machine_of" [] (SpP K 1 φ_machine_of) :=
  fo_P T sc_machine_of rfl rfl (fun _ _ _ _ _ _ us hl => match us, hl with | [_], _ => rfl) fun _ _ _ _ _ _ _ hr =>
  (dss_cons (ds_asg (de_tup (da_cons de_int (da_cons de_int (da_cons de_int (da_cons de_int da_nil))))) (dg_tup rfl (dgs_cons (dg_name (i := 1) sc_machine_of.nd) (dgs_cons (dg_name (i := 2) sc_machine_of.nd) (dgs_cons (dg_name (i := 3) sc_machine_of.nd) (dgs_cons (dg_name (i := 4) sc_machine_of.nd) dgs_nil))))))
  (dss_cons (ds_for PassesOwn.never rfl (di_any (dv 0)) (dg_tup rfl (dgs_cons (dg_name (i := 5) sc_machine_of.nd) (dgs_cons (dg_name (i := 6) sc_machine_of.nd) dgs_nil)))
  (dss_one (ds_if (dt_cmp (op_eqS hr.units) (dv 5) (de_gc c_B))
  (dss_one (ds_par (i := 2) (j := 4) rfl sc_machine_of.nd (de_op op_addD (dv 2) (de_op op_mulD (dv 6) (dv 1))) (de_op op_addD (dv 4) (de_op op_mulD (dv 6) (dv 3)))))
  (dss_one (ds_par (i := 1) (j := 3) rfl sc_machine_of.nd (de_op op_addD (dv 1) (de_op op_mulD (dv 6) (dv 2))) (de_op op_addD (dv 3) (de_op op_mulD (dv 6) (dv 4))))))))
  (dss_one (ds_ret (de_tup (da_cons (dv 1) (da_cons (dv 2) (da_cons (dv 3) (da_cons (dv 4) da_nil)))))))))
end
end W
end

section
set_option Elab.async false
set_option linter.all false
set_option maxRecDepth 100000
set_option maxHeartbeats 4000000

namespace W
open DL PySem PySem.Spec PyProof.Rows L2 StX
section
variable {P : Program} {w : World} {K : PySem.W.Frag} {mg : Str → Option Value} {base : Heap}
theorem sc_equation_of : FnScope ["head", "period", "a", "b", "c", "d", "first", "second", "third", "fourth", "middle", "found", "by", "number"] ["head", "period"] (defScope s_equation_of) := ⟨rfl, rfl, rfl, by decide +kernel, rfl, by decide +kernel, by decide +kernel⟩
theorem w_equation_of (T : Fd K mg "equation_of" s_equation_of []) (w_machine_of : FO P w K mg base 1 "machine_of" [] (SpP K 1 φ_machine_of)) (w_common : FO P w K mg base 1 "common" [] (SpP K 2 φ_common)) (n_tuple : mg "tuple" = none) : FO P w K mg base 2 "equation_of" [] (SpP K 2 φ_equation_of) :=
  fo_P T sc_equation_of rfl rfl (fun _ _ _ _ _ _ us hl => match us, hl with | [_, _], _ => rfl) fun _ _ _ _ _ _ _ hr =>
  (dss_cons (ds_asg (ce w_machine_of hr (by decide) (da_cons (dv 0) da_nil)) (dg_tup rfl (dgs_cons (dg_name (i := 2) sc_equation_of.nd) (dgs_cons (dg_name (i := 3) sc_equation_of.nd) (dgs_cons (dg_name (i := 4) sc_equation_of.nd) (dgs_cons (dg_name (i := 5) sc_equation_of.nd) dgs_nil))))))
  (dss_cons (ds_asg (ce w_machine_of hr (by decide) (da_cons (dv 1) da_nil)) (dg_tup rfl (dgs_cons (dg_name (i := 6) sc_equation_of.nd) (dgs_cons (dg_name (i := 7) sc_equation_of.nd) (dgs_cons (dg_name (i := 8) sc_equation_of.nd) (dgs_cons (dg_name (i := 9) sc_equation_of.nd) dgs_nil))))))
  (dss_cons (ds_set (i := 10) sc_equation_of.nd (de_op op_subD (dv 9) (dv 6)))
  (dss_cons (ds_set (i := 11) sc_equation_of.nd (de_tup (da_cons (de_op op_subD (de_op op_subD (de_op op_mulD (de_op op_mulD (dv 8) (dv 5)) (dv 5)) (de_op op_mulD (de_op op_mulD (dv 10) (dv 4)) (dv 5))) (de_op op_mulD (de_op op_mulD (dv 7) (dv 4)) (dv 4))) (da_cons (de_op op_addD (de_op op_subD (de_op op_mulD (dv 10) (de_op op_addD (de_op op_mulD (dv 2) (dv 5)) (de_op op_mulD (dv 3) (dv 4)))) (de_op op_mulD (de_op op_mulD (de_op op_mulD de_int (dv 8)) (dv 3)) (dv 5))) (de_op op_mulD (de_op op_mulD (de_op op_mulD de_int (dv 7)) (dv 2)) (dv 4))) (da_cons (de_op op_subD (de_op op_subD (de_op op_mulD (de_op op_mulD (dv 8) (dv 3)) (dv 3)) (de_op op_mulD (de_op op_mulD (dv 10) (dv 2)) (dv 3))) (de_op op_mulD (de_op op_mulD (dv 7) (dv 2)) (dv 2))) da_nil)))))
  (dss_cons (ds_set (i := 12) sc_equation_of.nd (ce w_common hr (by decide) (da_cons (ce w_common hr (by decide) (da_cons (de_ix (dv 11) de_int) (da_cons (de_ix (dv 11) de_int) da_nil))) (da_cons (de_ix (dv 11) de_int) da_nil))))
  (dss_cons (ds_set (i := 12) sc_equation_of.nd (de_if (dt_cmp op_gtD (de_ix (dv 11) de_int) de_int) (dv 12) (de_op op_subD de_int (dv 12))))
  (dss_one (ds_ret (de_callTy c_tuple n_tuple boot_tuple (de_lc (own := [("number", 13)]) rfl sc_equation_of.nd (di_any (dv 11)) (blkOk_by (N := ["head", "period", "a", "b", "c", "d", "first", "second", "third", "fourth", "middle", "found", "by", "number"]) (sc := defScope s_equation_of) (by decide +kernel)) (fun _ _ _ _ _ => (dg_name (i := 13) sc_equation_of.nd)) (fun _ _ _ _ _ => dpts_nil) (fun _ _ _ _ _ => (de_op op_fdivD (dv 13) (dv 12)))))))))))))
theorem sc_side_name : FnScope ["head", "letter"] ["head", "letter"] (defScope s_side_name) := ⟨rfl, rfl, rfl, by decide +kernel, rfl, by decide +kernel, by decide +kernel⟩
theorem w_side_name (T : Fd K mg "side_name" s_side_name []) (w_runs_of : FO P w K mg base 1 "runs_of" [] (SpP K 1 φ_runs_of)) (c_B : GC K mg "B" k_B) (c_NORTH : GC K mg "NORTH" k_NORTH) (c_EAST : GC K mg "EAST" k_EAST) : FO P w K mg base 2 "side_name" [] (SpP K 2 φ_side_name) :=
  fo_P T sc_side_name rfl rfl (fun _ _ _ _ _ _ us hl => match us, hl with | [_, _], _ => rfl) fun _ _ _ _ _ _ _ hr =>
  (dss_cons (ds_if (dt_cmp (op_eqS hr.units) (dv 0) (de_tup da_nil))
  (dss_one (ds_ret (de_if (dt_cmp (op_eqS hr.units) (dv 1) (de_gc c_B)) (de_gc c_NORTH) (de_gc c_EAST))))
  dss_nil)
  (dss_one (ds_ret (ce w_runs_of hr (by decide) (da_cons (de_lst (da_star (de_sl (dv 0) do_none (do_some (de_neg de_int))) (da_cons (de_tup (da_cons (de_ix (de_ix (dv 0) (de_neg de_int)) de_int) (da_cons (de_op op_subD (de_ix (de_ix (dv 0) (de_neg de_int)) de_int) de_int) da_nil))) da_nil))) da_nil)))))
theorem sc_name_in : FnScope ["slant"] ["slant"] (defScope s_name_in) := ⟨rfl, rfl, rfl, by decide +kernel, rfl, by decide +kernel, by decide +kernel⟩
theorem w_name_in (T : Fd K mg "name_in" s_name_in []) (w_path_in : FO P w K mg base 1 "path_in" [] (SpP K 1 φ_path_in)) (c_NORTH_SLANT : GC K mg "NORTH_SLANT" k_NORTH_SLANT) (c_EAST_SLANT : GC K mg "EAST_SLANT" k_EAST_SLANT) (c_EAST : GC K mg "EAST" k_EAST) (c_NORTH : GC K mg "NORTH" k_NORTH) : FO P w K mg base 2 "name_in" [] (SpP K 1 φ_name_in) :=
  fo_P T sc_name_in rfl rfl (fun _ _ _ _ _ _ us hl => match us, hl with | [_], _ => rfl) fun _ _ _ _ _ _ _ hr =>
  (dss_cons (ds_if (dt_cmp (op_inS hr.u65) (dv 0) (de_tup (da_cons (de_gc c_EAST_SLANT) (da_cons (de_gc c_NORTH_SLANT) da_nil))))
  (dss_one (ds_ret (de_if (dt_cmp (op_eqS hr.units) (dv 0) (de_gc c_EAST_SLANT)) (de_gc c_EAST) (de_gc c_NORTH))))
  dss_nil)
  (dss_one (ds_ret (ce w_path_in hr (by decide) (da_cons (dv 0) da_nil)))))
theorem sc_slant_by : FnScope ["name"] ["name"] (defScope s_slant_by) := ⟨rfl, rfl, rfl, by decide +kernel, rfl, by decide +kernel, by decide +kernel⟩
theorem w_slant_by (T : Fd K mg "slant_by" s_slant_by []) (w_slant_in : FO P w K mg base 2 "slant_in" [] (SpP K 1 φ_slant_in)) (c_NORTH : GC K mg "NORTH" k_NORTH) (c_EAST : GC K mg "EAST" k_EAST) (c_EAST_SLANT : GC K mg "EAST_SLANT" k_EAST_SLANT) (c_NORTH_SLANT : GC K mg "NORTH_SLANT" k_NORTH_SLANT) : FO P w K mg base 3 "slant_by" [] (SpP K 1 φ_slant_by) :=
  fo_P T sc_slant_by rfl rfl (fun _ _ _ _ _ _ us hl => match us, hl with | [_], _ => rfl) fun _ _ _ _ _ _ _ hr =>
  (dss_cons (ds_if (dt_cmp (op_inS hr.u65) (dv 0) (de_tup (da_cons (de_gc c_EAST) (da_cons (de_gc c_NORTH) da_nil))))
  (dss_one (ds_ret (de_if (dt_cmp (op_eqS hr.units) (dv 0) (de_gc c_EAST)) (de_gc c_EAST_SLANT) (de_gc c_NORTH_SLANT))))
  dss_nil)
  (dss_one (ds_ret (ce w_slant_in hr (by decide) (da_cons (dv 0) da_nil)))))
theorem sc_need_name : FnScope ["value", "part"] ["value", "part"] (defScope s_need_name) := ⟨rfl, rfl, rfl, by decide +kernel, rfl, by decide +kernel, by decide +kernel⟩
theorem w_need_name (T : Fd K mg "need_name" s_need_name [V.str (mkS [110, 97, 109, 101])]) (w_is_name : FO P w K mg base 5 "is_name" [] (SpP K 1 φ_is_name)) (w_name_at : FO P w K mg base 2 "name_at" [] (SpP K 1 φ_name_at)) : FO P w K mg base 6 "need_name" [(.str [110, 97, 109, 101])] (SpP K 2 φ_need_name) :=
  fo_P1 T sc_need_name rfl rfl (c := 1) rfl (fun _ _ _ _ _ _ _ us its h1 h2 => match us, its, h1, h2 with | [_], [_], _, _ => ⟨_, rfl, rfl⟩) fun _ _ _ _ _ _ _ hr =>
  (dss_cons (ds_if (dt_not (dt_val (ce w_is_name hr (by decide) (da_cons (dv 0) da_nil))))
  (dss_one ds_never)
  dss_nil)
  (dss_one (ds_ret (ce w_name_at hr (by decide) (da_cons (dv 0) da_nil)))))
theorem sc_need_endless : FnScope ["head", "period"] ["head", "period"] (defScope s_need_endless) := ⟨rfl, rfl, rfl, by decide +kernel, rfl, by decide +kernel, by decide +kernel⟩
theorem w_need_endless (T : Fd K mg "need_endless" s_need_endless []) (w_is_path : FO P w K mg base 4 "is_path" [] (SpP K 1 φ_is_path)) (w_shortened_in : FO P w K mg base 3 "shortened_in" [] (SpP K 2 φ_shortened_in)) (w_path_at : FO P w K mg base 1 "path_at" [] (SpP K 1 φ_path_at)) (n_len : mg "len" = none) : FO P w K mg base 5 "need_endless" [] (SpP K 2 φ_need_endless) :=
  fo_P T sc_need_endless rfl rfl (fun _ _ _ _ _ _ us hl => match us, hl with | [_, _], _ => rfl) fun _ _ _ _ _ _ _ hr =>
  (dss_cons (ds_if (dt_not (dt_val (ce w_is_path hr (by decide) (da_cons (dv 0) da_nil))))
  (dss_one ds_never)
  dss_nil)
  (dss_cons (ds_if (DW.dt (dw_or (dt_not (dt_val (ce w_is_path hr (by decide) (da_cons (dv 1) da_nil)))) (dw_or1 (dt_cmp (op_eqS hr.units) (de_callB c_len n_len boot_len (dv 1)) de_int))))
  (dss_one ds_never)
  dss_nil)
  (dss_one (ds_ret (ce w_shortened_in hr (by decide) (da_cons (ce w_path_at hr (by decide) (da_cons (dv 0) da_nil)) (da_cons (ce w_path_at hr (by decide) (da_cons (dv 1) da_nil)) da_nil)))))))
theorem sc_name_of : FnScope ["way"] ["way"] (defScope s_name_of) := ⟨rfl, rfl, rfl, by decide +kernel, rfl, by decide +kernel, by decide +kernel⟩
theorem w_name_of (T : Fd K mg "name_of" s_name_of []) (w_is_slant : FO P w K mg base 3 "is_slant" [] (SpP K 1 φ_is_slant)) (w_name_in : FO P w K mg base 2 "name_in" [] (SpP K 1 φ_name_in)) (n_tuple : mg "tuple" = none) : FO P w K mg base 4 "name_of" [] (SpP K 1 φ_name_of) :=
  fo_P T sc_name_of rfl rfl (fun _ _ _ _ _ _ us hl => match us, hl with | [_], _ => rfl) fun _ _ _ _ _ _ _ hr =>
  (dss_cons (ds_if (dt_not (dt_val (ce w_is_slant hr (by decide) (da_cons (dv 0) da_nil))))
  (dss_one ds_never)
  dss_nil)
  (dss_one (ds_ret (ce w_name_in hr (by decide) (da_cons (de_callTy c_tuple n_tuple boot_tuple (dv 0)) da_nil)))))
theorem sc_way_of : FnScope ["name", "told", "found", "number"] ["name"] (defScope s_way_of) := ⟨rfl, rfl, rfl, by decide +kernel, rfl, by decide +kernel, by decide +kernel⟩
theorem w_way_of (T : Fd K mg "way_of" s_way_of []) (w_need_name : FO P w K mg base 6 "need_name" [(.str [110, 97, 109, 101])] (SpP K 2 φ_need_name)) (w_slant_by : FO P w K mg base 3 "slant_by" [] (SpP K 1 φ_slant_by)) (n_len : mg "len" = none) (n_max : mg "max" = none) (n_int : mg "int" = none) (c_MOST_TOLD : GC K mg "MOST_TOLD" k_MOST_TOLD) (c_MOST_NUMBER : GC K mg "MOST_NUMBER" k_MOST_NUMBER) : FO P w K mg base 7 "way_of" [] (SpP K 1 φ_way_of) :=
  fo_P T sc_way_of rfl rfl (fun _ _ _ _ _ _ us hl => match us, hl with | [_], _ => rfl) fun _ _ _ _ _ _ _ hr =>
  (dss_cons (ds_set (i := 1) sc_way_of.nd (ce w_need_name hr (by decide) (da_cons (dv 0) da_nil)))
  (dss_cons (ds_if (dt_cmp op_gtD (de_callB c_len n_len boot_len (dv 1)) (de_gc c_MOST_TOLD))
  (dss_one ds_never)
  dss_nil)
  (dss_cons (ds_set (i := 2) sc_way_of.nd (ce w_slant_by hr (by decide) (da_cons (dv 1) da_nil)))
  (dss_cons (ds_if (dt_cmp op_gtD (de_callB c_max n_max boot_max (de_lc (own := [("number", 3)]) rfl sc_way_of.nd (di_any (dv 2)) (blkOk_by (N := ["name", "told", "found", "number"]) (sc := defScope s_way_of) (by decide +kernel)) (fun _ _ _ _ _ => (dg_name (i := 3) sc_way_of.nd)) (fun _ _ _ _ _ => dpts_nil) (fun _ _ _ _ _ => (de_callTy c_int n_int boot_int (dv 3))))) (de_gc c_MOST_NUMBER))
  (dss_one ds_never)
  dss_nil)
  (dss_one (ds_ret (dv 2)))))))
end
end W
end

section
set_option Elab.async false
set_option linter.all false
set_option maxRecDepth 100000
set_option maxHeartbeats 4000000

namespace W
open DL PySem PySem.Spec PyProof.Rows L2 StX
section
variable {P : Program} {w : World} {K : PySem.W.Frag} {mg : Str → Option Value} {base : Heap}
theorem sc_shortened : FnScope ["head", "period"] ["head", "period"] (defScope s_shortened) := ⟨rfl, rfl, rfl, by decide +kernel, rfl, by decide +kernel, by decide +kernel⟩
theorem w_shortened (T : Fd K mg "shortened" s_shortened []) (w_need_endless : FO P w K mg base 5 "need_endless" [] (SpP K 2 φ_need_endless)) : FO P w K mg base 6 "shortened" [] (SpP K 2 φ_shortened) :=
  fo_P T sc_shortened rfl rfl (fun _ _ _ _ _ _ us hl => match us, hl with | [_, _], _ => rfl) fun _ _ _ _ _ _ _ hr =>
  (dss_one (ds_ret (ce w_need_endless hr (by decide) (da_cons (dv 0) (da_cons (dv 1) da_nil)))))
theorem sc_limit_of : FnScope ["head", "period", "told", "found", "top", "bottom", "by"] ["head", "period"] (defScope s_limit_of) := ⟨rfl, rfl, rfl, by decide +kernel, rfl, by decide +kernel, by decide +kernel⟩
theorem w_limit_of (T : Fd K mg "limit_of" s_limit_of []) (w_need_endless : FO P w K mg base 5 "need_endless" [] (SpP K 2 φ_need_endless)) (w_side_name : FO P w K mg base 2 "side_name" [] (SpP K 2 φ_side_name)) (w_letters_in : FO P w K mg base 1 "letters_in" [] (SpP K 1 φ_letters_in)) (w_equation_of : FO P w K mg base 2 "equation_of" [] (SpP K 2 φ_equation_of)) (w_common : FO P w K mg base 1 "common" [] (SpP K 2 φ_common)) (w_is_beyond_in : FO P w K mg base 5 "is_beyond_in" [] (SpP K 3 φ_is_beyond_in)) (w_path_in : FO P w K mg base 1 "path_in" [] (SpP K 1 φ_path_in)) (n_len : mg "len" = none) (c_SLANT : GC K mg "SLANT" k_SLANT) (c_MOST_LETTERS : GC K mg "MOST_LETTERS" k_MOST_LETTERS) (c_ROOT : GC K mg "ROOT" k_ROOT) : FO P w K mg base 6 "limit_of" [] (SpP K 2 φ_limit_of) :=
  fo_P T sc_limit_of rfl rfl (fun _ _ _ _ _ _ us hl => match us, hl with | [_, _], _ => rfl) fun _ _ _ _ _ _ _ hr =>
  (dss_cons (ds_set (i := 2) sc_limit_of.nd (ce w_need_endless hr (by decide) (da_cons (dv 0) (da_cons (dv 1) da_nil))))
  (dss_cons (ds_if (dt_cmp (op_eqS hr.units) (de_callB c_len n_len boot_len (de_ix (dv 2) de_int)) de_int)
  (dss_one (ds_ret (de_tup (da_cons (de_gc c_SLANT) (da_cons (ce w_side_name hr (by decide) (da_cons (de_ix (dv 2) de_int) (da_cons (de_ix (de_ix (de_ix (dv 2) de_int) de_int) de_int) da_nil))) da_nil)))))
  dss_nil)
  (dss_cons (ds_if (dt_cmp op_gtD (de_op op_addD (ce w_letters_in hr (by decide) (da_cons (de_ix (dv 2) de_int) da_nil)) (ce w_letters_in hr (by decide) (da_cons (de_ix (dv 2) de_int) da_nil))) (de_gc c_MOST_LETTERS))
  (dss_one ds_never)
  dss_nil)
  (dss_cons (ds_set (i := 3) sc_limit_of.nd (ce w_equation_of hr (by decide) (da_cons (de_ix (dv 2) de_int) (da_cons (de_ix (dv 2) de_int) da_nil))))
  (dss_cons (ds_par (i := 4) (j := 5) rfl sc_limit_of.nd (de_op op_subD de_int (de_ix (dv 3) de_int)) (de_op op_mulD de_int (de_ix (dv 3) de_int)))
  (dss_cons (ds_if (dt_cmp op_leD (dv 4) de_int)
  (dss_one (ds_ret (de_tup (da_cons (de_gc c_ROOT) (da_cons (dv 3) (da_cons de_bl da_nil))))))
  dss_nil)
  (dss_cons (ds_set (i := 6) sc_limit_of.nd (ce w_common hr (by decide) (da_cons (dv 4) (da_cons (dv 5) da_nil))))
  (dss_one (ds_ret (de_tup (da_cons (de_gc c_ROOT) (da_cons (dv 3) (da_cons (de_not (ce w_is_beyond_in hr (by decide) (da_cons (ce w_path_in hr (by decide) (da_cons (de_tup (da_cons (de_op op_fdivD (dv 5) (dv 6)) (da_cons (de_op op_fdivD (dv 4) (dv 6)) da_nil))) da_nil)) (da_cons (de_ix (dv 2) de_int) (da_cons (de_ix (dv 2) de_int) da_nil))))) da_nil)))))))))))))
theorem sc_is_beyond : FnScope ["name", "head", "period", "told", "short"] ["name", "head", "period"] (defScope s_is_beyond) := ⟨rfl, rfl, rfl, by decide +kernel, rfl, by decide +kernel, by decide +kernel⟩
theorem w_is_beyond (T : Fd K mg "is_beyond" s_is_beyond []) (w_need_name : FO P w K mg base 6 "need_name" [(.str [110, 97, 109, 101])] (SpP K 2 φ_need_name)) (w_need_endless : FO P w K mg base 5 "need_endless" [] (SpP K 2 φ_need_endless)) (w_is_beyond_in : FO P w K mg base 5 "is_beyond_in" [] (SpP K 3 φ_is_beyond_in)) : FO P w K mg base 7 "is_beyond" [] (SpP K 3 φ_is_beyond) :=
  fo_P T sc_is_beyond rfl rfl (fun _ _ _ _ _ _ us hl => match us, hl with | [_, _, _], _ => rfl) fun _ _ _ _ _ _ _ hr =>
  (dss_cons (ds_set (i := 3) sc_is_beyond.nd (ce w_need_name hr (by decide) (da_cons (dv 0) da_nil)))
  (dss_cons (ds_set (i := 4) sc_is_beyond.nd (ce w_need_endless hr (by decide) (da_cons (dv 1) (da_cons (dv 2) da_nil))))
  (dss_one (ds_ret (ce w_is_beyond_in hr (by decide) (da_cons (dv 3) (da_cons (de_ix (dv 4) de_int) (da_cons (de_ix (dv 4) de_int) da_nil))))))))
theorem sc__law_pen : FnScope ["script", "cell"] ["script"] (defScope s__law_pen) := ⟨rfl, rfl, rfl, by decide +kernel, rfl, by decide +kernel, by decide +kernel⟩
theorem w__law_pen (T : Fd K mg "_law_pen" s__law_pen []) (n_int : mg "int" = none) : FO P w K mg base 1 "_law_pen" [] (SpP K 1 φ__law_pen) :=
  fo_P T sc__law_pen rfl rfl (fun _ _ _ _ _ _ us hl => match us, hl with | [_], _ => rfl) fun _ _ _ _ _ _ _ hr =>
  (dss_one (ds_ret (de_lst (da_cons (de_lc (own := [("cell", 1)]) rfl sc__law_pen.nd (di_any (de_sl (dv 0) do_none (do_some de_int))) (blkOk_by (N := ["script", "cell"]) (sc := defScope s__law_pen) (by decide +kernel)) (fun _ _ _ _ _ => (dg_name (i := 1) sc__law_pen.nd)) (fun _ _ _ _ _ => dpts_nil) (fun _ _ _ _ _ => (de_callTy c_int n_int boot_int (dv 1)))) (da_cons de_int (da_cons de_int da_nil))))))
theorem sc__law_draw : FnScope ["pen", "many", "rest", "turn", "cell", "mixed"] ["pen", "many"] (defScope s__law_draw) := ⟨rfl, rfl, rfl, by decide +kernel, rfl, by decide +kernel, by decide +kernel⟩
theorem w__law_draw (T : Fd K mg "_law_draw" s__law_draw []) (n_int : mg "int" = none) (n_len : mg "len" = none) (n_abs : mg "abs" = none) : FO P w K mg base 1 "_law_draw" [] (SpI K 2 φ__law_draw) :=
  fo_I T sc__law_draw rfl rfl (fun _ _ _ _ _ _ us hl => match us, hl with | [_, _], _ => rfl) fun _ _ _ _ _ _ _ hr =>
  (dss_cons (ds_if (dt_cmp op_gtD (de_ix (dv 0) de_int) de_int)
  (dss_cons (ds_set (i := 2) sc__law_draw.nd (de_callTy c_int n_int boot_int (de_ix (dv 0) de_int)))
  (dss_cons (ds_item (de_op op_fdivD (dv 2) (dv 1)) (dv 0) de_int)
  (dss_one (ds_ret (de_op op_modD (de_callTy c_int n_int boot_int (dv 2)) (dv 1))))))
  dss_nil)
  (dss_cons (ds_set (i := 3) sc__law_draw.nd (de_ix (dv 0) de_int))
  (dss_cons (ds_item (de_op op_addD (dv 3) de_int) (dv 0) de_int)
  (dss_cons (ds_set (i := 4) sc__law_draw.nd (de_if (dt_cmp (op_eqS hr.units) (de_ix (dv 0) de_int) (de_lst da_nil)) (de_op op_addD (de_op op_mulD de_int (dv 3)) de_int) (de_ix (de_ix (dv 0) de_int) (de_op op_modD (de_callTy c_int n_int boot_int (dv 3)) (de_callB c_len n_len boot_len (de_ix (dv 0) de_int))))))
  (dss_cons (ds_if (DW.dt (dw_and (dt_cmp op_ltD (dv 3) (de_callB c_len n_len boot_len (de_ix (dv 0) de_int))) (dw_and1 (dt_cmp op_geD (de_callB c_abs n_abs boot_abs (dv 4)) (de_op op_powD de_int de_int)))))
  (dss_cons (ds_set (i := 2) sc__law_draw.nd (de_op op_addD (de_op op_mulD de_int (de_op op_subD (de_callB c_abs n_abs boot_abs (dv 4)) (de_op op_powD de_int de_int))) (de_callTy c_int n_int boot_int (de_cmp op_ltD (dv 4) de_int))))
  (dss_cons (ds_item (de_op op_fdivD (dv 2) (dv 1)) (dv 0) de_int)
  (dss_one (ds_ret (de_op op_modD (de_callTy c_int n_int boot_int (dv 2)) (dv 1))))))
  dss_nil)
  (dss_cons (ds_set (i := 5) sc__law_draw.nd (de_op op_modD (de_callTy c_int n_int boot_int (de_op op_powD (de_op op_addD (de_op op_addD (de_op op_modD (de_callTy c_int n_int boot_int (dv 4)) de_int) (de_op op_mulD de_int (dv 3))) de_int) de_int)) de_int))
  (dss_cons (ds_set (i := 5) sc__law_draw.nd (de_op op_modD (de_callTy c_int n_int boot_int (de_op op_powD (de_op op_addD (de_op op_addD (de_op op_mulD (dv 5) (de_op op_addD (de_op op_mulD de_int (dv 3)) de_int)) (de_op op_mulD (de_op op_mulD de_int (dv 3)) (dv 3))) de_int) de_int)) de_int))
  (dss_one (ds_ret (de_op op_modD (de_callTy c_int n_int boot_int (de_op op_fdivD (dv 5) de_int)) (dv 1)))))))))))
theorem sc__law_pick : FnScope ["pen", "some"] ["pen", "some"] (defScope s__law_pick) := ⟨rfl, rfl, rfl, by decide +kernel, rfl, by decide +kernel, by decide +kernel⟩
theorem w__law_pick (T : Fd K mg "_law_pick" s__law_pick []) (w__law_draw : FO P w K mg base 1 "_law_draw" [] (SpI K 2 φ__law_draw)) (n_len : mg "len" = none) : FO P w K mg base 2 "_law_pick" [] (SpI K 2 φ__law_pick) :=
  fo_I T sc__law_pick rfl rfl (fun _ _ _ _ _ _ us hl => match us, hl with | [_, _], _ => rfl) fun _ _ _ _ _ _ _ hr =>
  (dss_one (ds_ret (de_ix (dv 1) (ceI w__law_draw hr (by decide) (dv 0) (da_cons (de_callB c_len n_len boot_len (dv 1)) da_nil)))))
theorem sc__law_common : FnScope ["one", "other"] ["one", "other"] (defScope s__law_common) := ⟨rfl, rfl, rfl, by decide +kernel, rfl, by decide +kernel, by decide +kernel⟩
theorem w__law_common (T : Fd K mg "_law_common" s__law_common []) (n_int : mg "int" = none) : FO P w K mg base 1 "_law_common" [] (SpP K 2 φ__law_common) :=
  fo_P T sc__law_common rfl rfl (fun _ _ _ _ _ _ us hl => match us, hl with | [_, _], _ => rfl) fun _ _ _ _ _ _ _ hr =>
  (dss_cons (ds_while big PassesOwn.never (dt_cmp op_gtD (dv 1) de_int)
  (dss_one (ds_par (i := 0) (j := 1) rfl sc__law_common.nd (dv 1) (de_op op_modD (de_callTy c_int n_int boot_int (dv 0)) (dv 1)))))
  (dss_one (ds_ret (dv 0))))
theorem sc__law_low : FnScope ["p", "q", "both"] ["p", "q"] (defScope s__law_low) := ⟨rfl, rfl, rfl, by decide +kernel, rfl, by decide +kernel, by decide +kernel⟩
theorem w__law_low (T : Fd K mg "_law_low" s__law_low []) (w__law_common : FO P w K mg base 1 "_law_common" [] (SpP K 2 φ__law_common)) (n_int : mg "int" = none) : FO P w K mg base 2 "_law_low" [] (SpP K 2 φ__law_low) :=
  fo_P T sc__law_low rfl rfl (fun _ _ _ _ _ _ us hl => match us, hl with | [_, _], _ => rfl) fun _ _ _ _ _ _ _ hr =>
  (dss_cons (ds_set (i := 2) sc__law_low.nd (ce w__law_common hr (by decide) (da_cons (dv 0) (da_cons (dv 1) da_nil))))
  (dss_one (ds_ret (de_tup (da_cons (de_op op_fdivD (de_callTy c_int n_int boot_int (dv 0)) (dv 2)) (da_cons (de_op op_fdivD (de_callTy c_int n_int boot_int (dv 1)) (dv 2)) da_nil))))))
end
end W
end

section
set_option Elab.async false
set_option linter.all false
set_option maxRecDepth 100000
set_option maxHeartbeats 4000000

namespace W
open DL PySem PySem.Spec PyProof.Rows L2 StX
section
variable {P : Program} {w : World} {K : PySem.W.Frag} {mg : Str → Option Value} {base : Heap}
theorem sc__law_slant : FnScope ["pen", "top", "kind", "p", "q", "turn", "most", "pair"] ["pen", "top"] (defScope s__law_slant) := ⟨rfl, rfl, rfl, by decide +kernel, rfl, by decide +kernel, by decide +kernel⟩
theorem w__law_slant (T : Fd K mg "_law_slant" s__law_slant []) (w__law_draw : FO P w K mg base 1 "_law_draw" [] (SpI K 2 φ__law_draw)) (w__law_low : FO P w K mg base 2 "_law_low" [] (SpP K 2 φ__law_low)) (n_range : mg "range" = none) : FO P w K mg base 3 "_law_slant" [] (SpI K 2 φ__law_slant) :=
  fo_I T sc__law_slant rfl rfl (fun _ _ _ _ _ _ us hl => match us, hl with | [_, _], _ => rfl) fun _ _ _ _ _ _ _ hr =>
  (dss_cons (ds_set (i := 2) sc__law_slant.nd (ceI w__law_draw hr (by decide) (dv 0) (da_cons de_int da_nil)))
  (dss_cons (ds_if (dt_cmp (op_eqS hr.units) (dv 2) de_int)
  (dss_cons (ds_asg (de_tup (da_cons de_int (da_cons de_int da_nil))) (dg_tup rfl (dgs_cons (dg_name (i := 3) sc__law_slant.nd) (dgs_cons (dg_name (i := 4) sc__law_slant.nd) dgs_nil))))
  (dss_cons (ds_for PassesOwn.never rfl (di_range n_range (ceI w__law_draw hr (by decide) (dv 0) (da_cons de_int da_nil))) (dg_name (i := 5) sc__law_slant.nd)
  (dss_one (ds_par (i := 3) (j := 4) rfl sc__law_slant.nd (de_op op_addD (dv 3) (dv 4)) (dv 3))))
  (dss_one (ds_ret (de_if (dt_cmp (op_eqS hr.units) (ceI w__law_draw hr (by decide) (dv 0) (da_cons de_int da_nil)) de_int) (de_tup (da_cons (dv 3) (da_cons (dv 4) da_nil))) (de_tup (da_cons (dv 4) (da_cons (dv 3) da_nil))))))))
  dss_nil)
  (dss_cons (ds_set (i := 6) sc__law_slant.nd (de_ix (de_lst (da_cons de_int (da_cons de_int (da_cons (de_op op_powD de_int de_int) (da_cons (dv 1) da_nil))))) (de_op op_subD (dv 2) de_int)))
  (dss_cons (ds_set (i := 7) sc__law_slant.nd (ce w__law_low hr (by decide) (da_cons (de_op op_addD de_int (ceI w__law_draw hr (by decide) (dv 0) (da_cons (dv 6) da_nil))) (da_cons (de_op op_addD de_int (de_if (dt_cmp op_gtD (ceI w__law_draw hr (by decide) (dv 0) (da_cons de_int da_nil)) de_int) (ceI w__law_draw hr (by decide) (dv 0) (da_cons (dv 6) da_nil)) (ceI w__law_draw hr (by decide) (dv 0) (da_cons de_int da_nil)))) da_nil))))
  (dss_one (ds_ret (de_if (dt_cmp (op_eqS hr.units) (ceI w__law_draw hr (by decide) (dv 0) (da_cons de_int da_nil)) de_int) (dv 7) (de_tup (da_cons (de_ix (dv 7) de_int) (da_cons (de_ix (dv 7) de_int) da_nil))))))))))
theorem sc__law_back : FnScope ["text", "p", "q", "letter"] ["text"] (defScope s__law_back) := ⟨rfl, rfl, rfl, by decide +kernel, rfl, by decide +kernel, by decide +kernel⟩
theorem w__law_back (T : Fd K mg "_law_back" s__law_back []) : FO P w K mg base 1 "_law_back" [] (SpP K 1 φ__law_back) :=
  fo_P T sc__law_back rfl rfl (fun _ _ _ _ _ _ us hl => match us, hl with | [_], _ => rfl) fun _ _ _ _ _ _ _ hr =>
  (dss_cons (ds_asg (de_tup (da_cons de_int (da_cons de_int da_nil))) (dg_tup rfl (dgs_cons (dg_name (i := 1) sc__law_back.nd) (dgs_cons (dg_name (i := 2) sc__law_back.nd) dgs_nil))))
  (dss_cons (ds_for PassesOwn.never rfl (di_any (de_revS (dv 0))) (dg_name (i := 3) sc__law_back.nd)
  (dss_one (ds_asg (de_if (dt_cmp (op_eqS hr.units) (dv 3) (de_str (s := [97]))) (de_tup (da_cons (de_op op_addD (dv 1) (dv 2)) (da_cons (dv 2) da_nil))) (de_tup (da_cons (dv 1) (da_cons (de_op op_addD (dv 2) (dv 1)) da_nil)))) (dg_tup rfl (dgs_cons (dg_name (i := 1) sc__law_back.nd) (dgs_cons (dg_name (i := 2) sc__law_back.nd) dgs_nil))))))
  (dss_one (ds_ret (de_tup (da_cons (dv 1) (da_cons (dv 2) da_nil)))))))
theorem sc__law_name : FnScope ["letters", "found", "letter"] ["letters"] (defScope s__law_name) := ⟨rfl, rfl, rfl, by decide +kernel, rfl, by decide +kernel, by decide +kernel⟩
theorem w__law_name (T : Fd K mg "_law_name" s__law_name []) (n_tuple : mg "tuple" = none) : FO P w K mg base 1 "_law_name" [] (SpP K 1 φ__law_name) :=
  fo_P T sc__law_name rfl rfl (fun _ _ _ _ _ _ us hl => match us, hl with | [_], _ => rfl) fun _ _ _ _ _ _ _ hr =>
  (dss_cons (ds_set (i := 1) sc__law_name.nd (de_lst da_nil))
  (dss_cons (ds_for PassesOwn.never rfl (di_any (dv 0)) (dg_name (i := 2) sc__law_name.nd)
  (dss_one (ds_if (DW.dt (dw_and (dt_cmp (op_neS hr.units) (dv 1) (de_lst da_nil)) (dw_and1 (dt_cmp (op_eqS hr.units) (de_ix (de_ix (dv 1) (de_neg de_int)) de_int) (dv 2)))))
  (dss_one (ds_item (de_tup (da_cons (dv 2) (da_cons (de_op op_addD (de_ix (de_ix (dv 1) (de_neg de_int)) de_int) de_int) da_nil))) (dv 1) (de_neg de_int)))
  (dss_one (ds_expr (de_m PySem.F.slot_list_append PySem.F.type_list_append m_append (dv 1) (da_cons (de_tup (da_cons (dv 2) (da_cons de_int da_nil))) da_nil)))))))
  (dss_one (ds_ret (de_callTy c_tuple n_tuple boot_tuple (dv 1))))))
theorem sc__law_letters : FnScope ["name", "letter", "many"] ["name"] (defScope s__law_letters) := ⟨rfl, rfl, rfl, by decide +kernel, rfl, by decide +kernel, by decide +kernel⟩
theorem w__law_letters (T : Fd K mg "_law_letters" s__law_letters []) : FO P w K mg base 1 "_law_letters" [] (SpP K 1 φ__law_letters) :=
  fo_P T sc__law_letters rfl rfl (fun _ _ _ _ _ _ us hl => match us, hl with | [_], _ => rfl) fun _ _ _ _ _ _ _ hr =>
  (dss_one (ds_ret (de_join (de_lc (own := [("letter", 1), ("many", 2)]) rfl sc__law_letters.nd (di_any (dv 0)) (blkOk_by (N := ["name", "letter", "many"]) (sc := defScope s__law_letters) (by decide +kernel)) (fun _ _ _ _ _ => (dg_tup rfl (dgs_cons (dg_name (i := 1) sc__law_letters.nd) (dgs_cons (dg_name (i := 2) sc__law_letters.nd) dgs_nil)))) (fun _ _ _ _ _ => dpts_nil) (fun _ _ _ _ _ => (de_op op_mulD (dv 1) (dv 2)))))))
theorem sc__law_text : FnScope ["pen", "most", "turn"] ["pen", "most"] (defScope s__law_text) := ⟨rfl, rfl, rfl, by decide +kernel, rfl, by decide +kernel, by decide +kernel⟩
theorem w__law_text (T : Fd K mg "_law_text" s__law_text []) (w__law_draw : FO P w K mg base 1 "_law_draw" [] (SpI K 2 φ__law_draw)) (w__law_pick : FO P w K mg base 2 "_law_pick" [] (SpI K 2 φ__law_pick)) (n_range : mg "range" = none) : FO P w K mg base 3 "_law_text" [] (SpI K 2 φ__law_text) :=
  fo_I T sc__law_text rfl rfl (fun _ _ _ _ _ _ us hl => match us, hl with | [_, _], _ => rfl) fun _ _ _ _ _ _ _ hr =>
  (dss_one (ds_ret (de_join (de_lc (own := [("turn", 2)]) rfl sc__law_text.nd (di_range n_range (ceI w__law_draw hr (by decide) (dv 0) (da_cons (de_op op_addD (dv 1) de_int) da_nil))) (blkOk_by (N := ["pen", "most", "turn"]) (sc := defScope s__law_text) (by decide +kernel)) (fun _ _ _ _ _ => (dg_name (i := 2) sc__law_text.nd)) (fun _ _ _ _ _ => dpts_nil) (fun _ _ _ _ _ => (ceI w__law_pick hr (by decide) (dv 0) (da_cons (de_str (s := [97, 98])) da_nil)))))))
theorem sc__law_above : FnScope ["one", "other"] ["one", "other"] (defScope s__law_above) := ⟨rfl, rfl, rfl, by decide +kernel, rfl, by decide +kernel, by decide +kernel⟩
theorem w__law_above (T : Fd K mg "_law_above" s__law_above []) : FO P w K mg base 1 "_law_above" [] (SpP K 2 φ__law_above) :=
  fo_P T sc__law_above rfl rfl (fun _ _ _ _ _ _ us hl => match us, hl with | [_, _], _ => rfl) fun _ _ _ _ _ _ _ hr =>
  (dss_one (ds_ret (de_cmp op_gtD (de_op op_mulD (de_ix (dv 0) de_int) (de_ix (dv 1) de_int)) (de_op op_mulD (de_ix (dv 1) de_int) (de_ix (dv 0) de_int)))))
theorem sc__law_begin : FnScope ["head", "period", "many", "found", "again"] ["head", "period", "many"] (defScope s__law_begin) := ⟨rfl, rfl, rfl, by decide +kernel, rfl, by decide +kernel, by decide +kernel⟩
theorem w__law_begin (T : Fd K mg "_law_begin" s__law_begin []) (w__law_letters : FO P w K mg base 1 "_law_letters" [] (SpP K 1 φ__law_letters)) (n_len : mg "len" = none) : FO P w K mg base 2 "_law_begin" [] (SpP K 3 φ__law_begin) :=
  fo_P T sc__law_begin rfl rfl (fun _ _ _ _ _ _ us hl => match us, hl with | [_, _, _], _ => rfl) fun _ _ _ _ _ _ _ hr =>
  (dss_cons (ds_set (i := 3) sc__law_begin.nd (de_sl (ce w__law_letters hr (by decide) (da_cons (dv 0) da_nil)) do_none (do_some (dv 2))))
  (dss_cons (ds_set (i := 4) sc__law_begin.nd (ce w__law_letters hr (by decide) (da_cons (dv 1) da_nil)))
  (dss_cons (ds_while big PassesOwn.never (dt_cmp op_ltD (de_callB c_len n_len boot_len (dv 3)) (dv 2))
  (dss_one (ds_set (i := 3) sc__law_begin.nd (de_op op_addD (dv 3) (dv 4)))))
  (dss_one (ds_ret (de_sl (dv 3) do_none (do_some (dv 2))))))))
theorem sc__law_coprime : FnScope ["numbers", "both", "number"] ["numbers"] (defScope s__law_coprime) := ⟨rfl, rfl, rfl, by decide +kernel, rfl, by decide +kernel, by decide +kernel⟩
theorem w__law_coprime (T : Fd K mg "_law_coprime" s__law_coprime []) (w__law_common : FO P w K mg base 1 "_law_common" [] (SpP K 2 φ__law_common)) (n_abs : mg "abs" = none) (n_tuple : mg "tuple" = none) (n_int : mg "int" = none) : FO P w K mg base 2 "_law_coprime" [] (SpP K 1 φ__law_coprime) :=
  fo_P T sc__law_coprime rfl rfl (fun _ _ _ _ _ _ us hl => match us, hl with | [_], _ => rfl) fun _ _ _ _ _ _ _ hr =>
  (dss_cons (ds_set (i := 1) sc__law_coprime.nd (ce w__law_common hr (by decide) (da_cons (ce w__law_common hr (by decide) (da_cons (de_callB c_abs n_abs boot_abs (de_ix (dv 0) de_int)) (da_cons (de_callB c_abs n_abs boot_abs (de_ix (dv 0) de_int)) da_nil))) (da_cons (de_callB c_abs n_abs boot_abs (de_ix (dv 0) de_int)) da_nil))))
  (dss_cons (ds_set (i := 1) sc__law_coprime.nd (de_if (dt_cmp op_gtD (de_ix (dv 0) de_int) de_int) (dv 1) (de_op op_subD de_int (dv 1))))
  (dss_one (ds_ret (de_callTy c_tuple n_tuple boot_tuple (de_lc (own := [("number", 2)]) rfl sc__law_coprime.nd (di_any (dv 0)) (blkOk_by (N := ["numbers", "both", "number"]) (sc := defScope s__law_coprime) (by decide +kernel)) (fun _ _ _ _ _ => (dg_name (i := 2) sc__law_coprime.nd)) (fun _ _ _ _ _ => dpts_nil) (fun _ _ _ _ _ => (de_op op_fdivD (de_callTy c_int n_int boot_int (dv 2)) (dv 1)))))))))
end
end W
end

section
set_option Elab.async false
set_option linter.all false
set_option maxRecDepth 100000
set_option maxHeartbeats 4000000

namespace W
open DL PySem PySem.Spec PyProof.Rows L2 StX
section
variable {P : Program} {w : World} {K : PySem.W.Frag} {mg : Str → Option Value} {base : Heap}
theorem sc__law_ahead : FnScope ["letter", "numbers", "a", "b", "c"] ["letter", "numbers"] (defScope s__law_ahead) := ⟨rfl, rfl, rfl, by decide +kernel, rfl, by decide +kernel, by decide +kernel⟩
theorem w__law_ahead (T : Fd K mg "_law_ahead" s__law_ahead []) (w__law_coprime : FO P w K mg base 2 "_law_coprime" [] (SpP K 1 φ__law_coprime)) : FO P w K mg base 3 "_law_ahead" [] (SpP K 2 φ__law_ahead) :=
  fo_P T sc__law_ahead rfl rfl (fun _ _ _ _ _ _ us hl => match us, hl with | [_, _], _ => rfl) fun _ _ _ _ _ _ _ hr =>
  (dss_cons (ds_asg (dv 1) (dg_tup rfl (dgs_cons (dg_name (i := 2) sc__law_ahead.nd) (dgs_cons (dg_name (i := 3) sc__law_ahead.nd) (dgs_cons (dg_name (i := 4) sc__law_ahead.nd) dgs_nil)))))
  (dss_cons (ds_if (dt_cmp (op_eqS hr.units) (dv 0) (de_str (s := [98])))
  (dss_one (ds_ret (ce w__law_coprime hr (by decide) (da_cons (de_tup (da_cons (dv 2) (da_cons (de_op op_subD (dv 3) (de_op op_mulD de_int (dv 2))) (da_cons (de_op op_addD (de_op op_subD (dv 2) (dv 3)) (dv 4)) da_nil)))) da_nil))))
  dss_nil)
  (dss_one (ds_ret (ce w__law_coprime hr (by decide) (da_cons (de_tup (da_cons (de_op op_addD (de_op op_subD (dv 2) (dv 3)) (dv 4)) (da_cons (de_op op_subD (dv 3) (de_op op_mulD de_int (dv 4))) (da_cons (dv 4) da_nil)))) da_nil))))))
theorem sc__law_is_above_root : FnScope ["slant", "numbers", "is_greater", "p", "q", "a", "b", "c", "sign", "is_right"] ["slant", "numbers", "is_greater"] (defScope s__law_is_above_root) := ⟨rfl, rfl, rfl, by decide +kernel, rfl, by decide +kernel, by decide +kernel⟩
theorem w__law_is_above_root (T : Fd K mg "_law_is_above_root" s__law_is_above_root []) : FO P w K mg base 1 "_law_is_above_root" [] (SpP K 3 φ__law_is_above_root) :=
  fo_P T sc__law_is_above_root rfl rfl (fun _ _ _ _ _ _ us hl => match us, hl with | [_, _, _], _ => rfl) fun _ _ _ _ _ _ _ hr =>
  (dss_cons (ds_asg (de_tup (da_cons (dv 0) (da_cons (dv 1) da_nil))) (dg_tup rfl (dgs_cons (dg_tup rfl (dgs_cons (dg_name (i := 3) sc__law_is_above_root.nd) (dgs_cons (dg_name (i := 4) sc__law_is_above_root.nd) dgs_nil))) (dgs_cons (dg_tup rfl (dgs_cons (dg_name (i := 5) sc__law_is_above_root.nd) (dgs_cons (dg_name (i := 6) sc__law_is_above_root.nd) (dgs_cons (dg_name (i := 7) sc__law_is_above_root.nd) dgs_nil)))) dgs_nil))))
  (dss_cons (ds_if (dt_cmp (op_eqS hr.units) (dv 3) de_int)
  (dss_one (ds_ret de_bl))
  dss_nil)
  (dss_cons (ds_set (i := 8) sc__law_is_above_root.nd (de_op op_addD (de_op op_addD (de_op op_mulD (de_op op_mulD (dv 5) (dv 4)) (dv 4)) (de_op op_mulD (de_op op_mulD (dv 6) (dv 3)) (dv 4))) (de_op op_mulD (de_op op_mulD (dv 7) (dv 3)) (dv 3))))
  (dss_cons (ds_set (i := 9) sc__law_is_above_root.nd (de_cmp op_gtD (de_op op_addD (de_op op_mulD (de_op op_mulD de_int (dv 5)) (dv 4)) (de_op op_mulD (dv 6) (dv 3))) de_int))
  (dss_cons (ds_if (dt_val (dv 2))
  (dss_one (ds_ret (de_and (dv 9) (de_one (de_cmp op_gtD (dv 8) de_int)))))
  dss_nil)
  (dss_one (ds_ret (de_or (dv 9) (de_one (de_cmp op_ltD (dv 8) de_int))))))))))
theorem sc__law_is_square : FnScope ["number", "found"] ["number"] (defScope s__law_is_square) := ⟨rfl, rfl, rfl, by decide +kernel, rfl, by decide +kernel, by decide +kernel⟩
theorem w__law_is_square (T : Fd K mg "_law_is_square" s__law_is_square []) (n_int : mg "int" = none) : FO P w K mg base 1 "_law_is_square" [] (SpP K 1 φ__law_is_square) :=
  fo_P T sc__law_is_square rfl rfl (fun _ _ _ _ _ _ us hl => match us, hl with | [_], _ => rfl) fun _ _ _ _ _ _ _ hr =>
  (dss_cons (ds_set (i := 1) sc__law_is_square.nd (dv 0))
  (dss_cons (ds_while big PassesOwn.never (dt_cmp op_gtD (de_op op_mulD (dv 1) (dv 1)) (dv 0))
  (dss_one (ds_set (i := 1) sc__law_is_square.nd (de_op op_fdivD (de_callTy c_int n_int boot_int (de_op op_addD (dv 1) (de_op op_fdivD (dv 0) (dv 1)))) de_int))))
  (dss_one (ds_ret (de_cmp (op_eqS hr.units) (de_op op_mulD (dv 1) (dv 1)) (dv 0))))))
theorem sc_law : FnScope ["script", "pen", "lap", "head", "period", "told", "short", "spot", "is_slant_v", "begin", "some", "letter", "slant", "name", "beyond", "due", "a", "b", "c", "other", "swap", "about", "many"] ["script"] (defScope s_law) := ⟨rfl, rfl, rfl, by decide +kernel, rfl, by decide +kernel, by decide +kernel⟩
theorem d_law (w__law_pen : FO P w K mg base 1 "_law_pen" [] (SpP K 1 φ__law_pen)) (w__law_text : FO P w K mg base 3 "_law_text" [] (SpI K 2 φ__law_text)) (w__law_pick : FO P w K mg base 2 "_law_pick" [] (SpI K 2 φ__law_pick)) (w_limit_of : FO P w K mg base 6 "limit_of" [] (SpP K 2 φ_limit_of)) (w__law_name : FO P w K mg base 1 "_law_name" [] (SpP K 1 φ__law_name)) (w_shortened : FO P w K mg base 6 "shortened" [] (SpP K 2 φ_shortened)) (w__law_begin : FO P w K mg base 2 "_law_begin" [] (SpP K 3 φ__law_begin)) (w__law_draw : FO P w K mg base 1 "_law_draw" [] (SpI K 2 φ__law_draw)) (w__law_back : FO P w K mg base 1 "_law_back" [] (SpP K 1 φ__law_back)) (w__law_slant : FO P w K mg base 3 "_law_slant" [] (SpI K 2 φ__law_slant)) (w_name_of : FO P w K mg base 4 "name_of" [] (SpP K 1 φ_name_of)) (w_is_beyond : FO P w K mg base 7 "is_beyond" [] (SpP K 3 φ_is_beyond)) (w__law_above : FO P w K mg base 1 "_law_above" [] (SpP K 2 φ__law_above)) (w_way_of : FO P w K mg base 7 "way_of" [] (SpP K 1 φ_way_of)) (w__law_is_above_root : FO P w K mg base 1 "_law_is_above_root" [] (SpP K 3 φ__law_is_above_root)) (w__law_coprime : FO P w K mg base 2 "_law_coprime" [] (SpP K 1 φ__law_coprime)) (w__law_is_square : FO P w K mg base 1 "_law_is_square" [] (SpP K 1 φ__law_is_square)) (w__law_ahead : FO P w K mg base 3 "_law_ahead" [] (SpP K 2 φ__law_ahead)) (n_range : mg "range" = none) (n_len : mg "len" = none) : ∀ (f : Addr) (cdv : Value) (A : Around) (outer : List Env) (s : Shared) (H : Hp) (E : XK), Room 7 (A.deeper (PyProof.Rows.envOfC "law" (defScope s_law) s.heap.objs.size f cdv)) → DSs (cxOf CX0 P w K mg base ["script", "pen", "lap", "head", "period", "told", "short", "spot", "is_slant_v", "begin", "some", "letter", "slant", "name", "beyond", "due", "a", "b", "c", "other", "swap", "about", "many"] "law" (defScope s_law) f cdv A outer s H E).nox (defBody s_law) g_law :=
  fun _ _ _ _ _ _ _ hr =>
  (dss_cons (ds_set (i := 1) sc_law.nd (ce w__law_pen hr (by decide) (da_cons (dv 0) da_nil)))
  (dss_cons (ds_for PassesOwn.never rfl (di_range n_range de_int) (dg_name (i := 2) sc_law.nd)
  (dss_cons (ds_par (i := 3) (j := 4) rfl sc_law.nd (ceI w__law_text hr (by decide) (dv 1) (da_cons de_int da_nil)) (de_op op_addD (ceI w__law_text hr (by decide) (dv 1) (da_cons de_int da_nil)) (ceI w__law_pick hr (by decide) (dv 1) (da_cons (de_lst (da_cons (de_str (s := [97])) (da_cons (de_str (s := [98])) da_nil))) da_nil))))
  (dss_cons (ds_set (i := 5) sc_law.nd (ce w_limit_of hr (by decide) (da_cons (ce w__law_name hr (by decide) (da_cons (dv 3) da_nil)) (da_cons (ce w__law_name hr (by decide) (da_cons (dv 4) da_nil)) da_nil))))
  (dss_cons (ds_set (i := 6) sc_law.nd (ce w_shortened hr (by decide) (da_cons (ce w__law_name hr (by decide) (da_cons (dv 3) da_nil)) (da_cons (ce w__law_name hr (by decide) (da_cons (dv 4) da_nil)) da_nil))))
  (dss_cons (ds_if (DW.dt (dw_or (dt_cmp (op_neS hr.units) (ce w__law_begin hr (by decide) (da_cons (de_ix (dv 6) de_int) (da_cons (de_ix (dv 6) de_int) (da_cons de_int da_nil)))) (de_sl (de_op op_addD (dv 3) (de_op op_mulD (dv 4) de_int)) do_none (do_some de_int))) (dw_or (dt_cmp (op_neS hr.units) (ce w_shortened hr (by decide) (da_cons (de_ix (dv 6) de_int) (da_cons (de_ix (dv 6) de_int) da_nil))) (dv 6)) (dw_or1 (dt_cmp (op_neS hr.units) (ce w_limit_of hr (by decide) (da_cons (de_ix (dv 6) de_int) (da_cons (de_ix (dv 6) de_int) da_nil))) (dv 5))))))
  (dss_one (ds_ret de_bl))
  dss_nil)
  (dss_cons (ds_set (i := 7) sc_law.nd (ceI w__law_draw hr (by decide) (dv 1) (da_cons (de_callB c_len n_len boot_len (dv 4)) da_nil)))
  (dss_cons (ds_if (DW.dt (dw_or (dt_cmp (op_neS hr.units) (ce w_shortened hr (by decide) (da_cons (ce w__law_name hr (by decide) (da_cons (de_op op_addD (dv 3) (de_sl (dv 4) do_none (do_some (dv 7)))) da_nil)) (da_cons (ce w__law_name hr (by decide) (da_cons (de_op op_addD (de_sl (dv 4) (do_some (dv 7)) do_none) (de_sl (dv 4) do_none (do_some (dv 7)))) da_nil)) da_nil))) (dv 6)) (dw_or1 (dt_cmp (op_neS hr.units) (ce w_shortened hr (by decide) (da_cons (ce w__law_name hr (by decide) (da_cons (de_op op_addD (dv 3) (dv 4)) da_nil)) (da_cons (ce w__law_name hr (by decide) (da_cons (de_op op_mulD (dv 4) de_int) da_nil)) da_nil))) (dv 6)))))
  (dss_one (ds_ret de_bl))
  dss_nil)
  (dss_cons (ds_set (i := 8) sc_law.nd (de_or (de_cmp op_notInC (de_str (s := [97])) (dv 4)) (de_one (de_cmp op_notInC (de_str (s := [98])) (dv 4)))))
  (dss_cons (ds_if (dt_cmp (op_neS hr.units) (de_cmp (op_eqS hr.units) (de_ix (dv 5) de_int) (de_str (s := [115, 108, 97, 110, 116]))) (dv 8))
  (dss_one (ds_ret de_bl))
  dss_nil)
  (dss_cons (ds_set (i := 9) sc_law.nd (de_sl (de_op op_addD (dv 3) (de_op op_mulD (dv 4) de_int)) do_none (do_some (de_op op_addD de_int (ceI w__law_draw hr (by decide) (dv 1) (da_cons de_int da_nil))))))
  (dss_cons (ds_set (i := 10) sc_law.nd (de_op op_addD (de_op op_addD (de_lc (own := [("many", 22)]) rfl sc_law.nd (di_range n_range (de_op op_addD (de_callB c_len n_len boot_len (dv 9)) de_int)) (blkOk_by (N := ["script", "pen", "lap", "head", "period", "told", "short", "spot", "is_slant_v", "begin", "some", "letter", "slant", "name", "beyond", "due", "a", "b", "c", "other", "swap", "about", "many"]) (sc := defScope s_law) (by decide +kernel)) (fun _ _ _ _ _ => (dg_name (i := 22) sc_law.nd)) (fun _ _ _ _ _ => dpts_nil) (fun _ _ _ _ _ => (ce w__law_back hr (by decide) (da_cons (de_sl (dv 9) do_none (do_some (dv 22))) da_nil)))) (de_lc (own := [("letter", 11)]) rfl sc_law.nd (di_any (de_str (s := [97, 98]))) (blkOk_by (N := ["script", "pen", "lap", "head", "period", "told", "short", "spot", "is_slant_v", "begin", "some", "letter", "slant", "name", "beyond", "due", "a", "b", "c", "other", "swap", "about", "many"]) (sc := defScope s_law) (by decide +kernel)) (fun _ _ _ _ _ => (dg_name (i := 11) sc_law.nd)) (fun _ _ _ _ _ => dpts_nil) (fun _ _ _ _ _ => (ce w__law_back hr (by decide) (da_cons (de_op op_addD (dv 9) (dv 11)) da_nil))))) (de_lst (da_cons (de_tup (da_cons de_int (da_cons de_int da_nil))) (da_cons (de_tup (da_cons de_int (da_cons de_int da_nil))) (da_cons (ceI w__law_slant hr (by decide) (dv 1) (da_cons (de_op op_powD de_int de_int) da_nil)) (da_cons (ceI w__law_slant hr (by decide) (dv 1) (da_cons de_int da_nil)) da_nil)))))))
  (dss_cons (ds_for PassesOwn.never rfl (di_any (dv 10)) (dg_name (i := 12) sc_law.nd)
  (dss_cons (ds_set (i := 13) sc_law.nd (ce w_name_of hr (by decide) (da_cons (dv 12) da_nil)))
  (dss_cons (ds_set (i := 14) sc_law.nd (ce w_is_beyond hr (by decide) (da_cons (dv 13) (da_cons (ce w__law_name hr (by decide) (da_cons (dv 3) da_nil)) (da_cons (ce w__law_name hr (by decide) (da_cons (dv 4) da_nil)) da_nil)))))
  (dss_one (ds_if (dt_val (dv 8))
  (dss_one (ds_if (dt_cmp (op_neS hr.units) (dv 14) (ce w__law_above hr (by decide) (da_cons (dv 12) (da_cons (ce w_way_of hr (by decide) (da_cons (de_ix (dv 5) de_int) da_nil)) da_nil))))
  (dss_one (ds_ret de_bl))
  dss_nil))
  (dss_one (ds_if (dt_cmp (op_neS hr.units) (dv 14) (ce w__law_is_above_root hr (by decide) (da_cons (dv 12) (da_cons (de_ix (dv 5) de_int) (da_cons (de_ix (dv 5) de_int) da_nil)))))
  (dss_one (ds_ret de_bl))
  dss_nil)))))))
  (dss_cons (ds_if (dt_val (dv 8))
  (dss_cons (ds_set (i := 11) sc_law.nd (de_ix (dv 4) de_int))
  (dss_cons (ds_set (i := 15) sc_law.nd (dv 3))
  (dss_cons (ds_while big PassesOwn.never (DW.dt (dw_and (dt_cmp (op_neS hr.units) (dv 15) (de_str (s := []))) (dw_and1 (dt_cmp (op_eqS hr.units) (de_ix (dv 15) (de_neg de_int)) (dv 11)))))
  (dss_one (ds_set (i := 15) sc_law.nd (de_sl (dv 15) do_none (do_some (de_neg de_int))))))
  (dss_cons (ds_if (DW.dt (dw_or (DW.dt (dw_and (dt_cmp (op_eqS hr.units) (dv 15) (de_str (s := []))) (dw_and1 (dt_cmp (op_neS hr.units) (de_ix (dv 5) de_int) (de_if (dt_cmp (op_eqS hr.units) (dv 11) (de_str (s := [98]))) (de_str (s := [110, 111, 114, 116, 104])) (de_str (s := [101, 97, 115, 116]))))))) (dw_or1 (DW.dt (dw_and (dt_cmp (op_neS hr.units) (dv 15) (de_str (s := []))) (dw_and1 (dt_cmp (op_neS hr.units) (de_ix (dv 5) de_int) (ce w__law_name hr (by decide) (da_cons (de_sl (dv 15) do_none (do_some (de_neg de_int))) da_nil)))))))))
  (dss_one (ds_ret de_bl))
  dss_nil)
  (dss_one ds_continue)))))
  dss_nil)
  (dss_cons (ds_asg (de_ix (dv 5) de_int) (dg_tup rfl (dgs_cons (dg_name (i := 16) sc_law.nd) (dgs_cons (dg_name (i := 17) sc_law.nd) (dgs_cons (dg_name (i := 18) sc_law.nd) dgs_nil)))))
  (dss_cons (ds_if (DW.dt (dw_or (dt_cmp op_ltD (dv 16) de_int) (dw_or (dt_cmp (op_neS hr.units) (ce w__law_coprime hr (by decide) (da_cons (de_ix (dv 5) de_int) da_nil)) (de_ix (dv 5) de_int)) (dw_or (dt_cmp op_leD (de_op op_subD (de_op op_mulD (dv 17) (dv 17)) (de_op op_mulD (de_op op_mulD de_int (dv 16)) (dv 18))) de_int) (dw_or1 (dt_val (ce w__law_is_square hr (by decide) (da_cons (de_op op_subD (de_op op_mulD (dv 17) (dv 17)) (de_op op_mulD (de_op op_mulD de_int (dv 16)) (dv 18))) da_nil))))))))
  (dss_one (ds_ret de_bl))
  dss_nil)
  (dss_cons (ds_for PassesOwn.never rfl (di_any (de_str (s := [97, 98]))) (dg_name (i := 11) sc_law.nd)
  (dss_cons (ds_set (i := 19) sc_law.nd (ce w_limit_of hr (by decide) (da_cons (ce w__law_name hr (by decide) (da_cons (de_op op_addD (dv 11) (dv 3)) da_nil)) (da_cons (ce w__law_name hr (by decide) (da_cons (dv 4) da_nil)) da_nil))))
  (dss_one (ds_if (DW.dt (dw_or (dt_cmp (op_neS hr.units) (de_ix (dv 19) de_int) (de_str (s := [114, 111, 111, 116]))) (dw_or1 (dt_cmp (op_neS hr.units) (de_ix (dv 19) de_int) (ce w__law_ahead hr (by decide) (da_cons (dv 11) (da_cons (de_ix (dv 5) de_int) da_nil)))))))
  (dss_one (ds_ret de_bl))
  dss_nil))))
  (dss_cons (ds_set (i := 20) sc_law.nd (de_dic2 (a1 := [97]) (b1 := [98]) (a2 := [98]) (b2 := [97])))
  (dss_cons (ds_set (i := 21) sc_law.nd (ce w_limit_of hr (by decide) (da_cons (ce w__law_name hr (by decide) (da_cons (de_lc (own := [("letter", 11)]) rfl sc_law.nd (di_any (dv 3)) (blkOk_by (N := ["script", "pen", "lap", "head", "period", "told", "short", "spot", "is_slant_v", "begin", "some", "letter", "slant", "name", "beyond", "due", "a", "b", "c", "other", "swap", "about", "many"]) (sc := defScope s_law) (by decide +kernel)) (fun _ _ _ _ _ => (dg_name (i := 11) sc_law.nd)) (fun _ _ _ _ _ => dpts_nil) (fun _ _ _ _ _ => (de_dget hr.u1 (dv 20) (dv 11)))) da_nil)) (da_cons (ce w__law_name hr (by decide) (da_cons (de_lc (own := [("letter", 11)]) rfl sc_law.nd (di_any (dv 4)) (blkOk_by (N := ["script", "pen", "lap", "head", "period", "told", "short", "spot", "is_slant_v", "begin", "some", "letter", "slant", "name", "beyond", "due", "a", "b", "c", "other", "swap", "about", "many"]) (sc := defScope s_law) (by decide +kernel)) (fun _ _ _ _ _ => (dg_name (i := 11) sc_law.nd)) (fun _ _ _ _ _ => dpts_nil) (fun _ _ _ _ _ => (de_dget hr.u1 (dv 20) (dv 11)))) da_nil)) da_nil))))
  (dss_one (ds_if (dt_cmp (op_neS hr.units) (de_ix (dv 21) de_int) (ce w__law_coprime hr (by decide) (da_cons (de_tup (da_cons (dv 18) (da_cons (dv 17) (da_cons (dv 16) da_nil)))) da_nil)))
  (dss_one (ds_ret de_bl))
  dss_nil))))))))))))))))))))
  (dss_one (ds_ret (de_cmp (op_eqS hr.units) (ce w_limit_of hr (by decide) (da_cons (de_tup da_nil) (da_cons (de_tup (da_cons (de_tup (da_cons (de_str (s := [98])) (da_cons de_int da_nil))) (da_cons (de_tup (da_cons (de_str (s := [97])) (da_cons de_int da_nil))) da_nil))) da_nil))) (de_tup (da_cons (de_str (s := [114, 111, 111, 116])) (da_cons (de_tup (da_cons de_int (da_cons (de_neg de_int) (da_cons (de_neg de_int) da_nil)))) (da_cons de_bl da_nil)))))))))
end
end W
end

section
set_option Elab.async false
set_option linter.all false
set_option maxRecDepth 100000
set_option maxHeartbeats 0
namespace W
open DL PySem PySem.Spec PyProof.Rows L2 StX
def d__is_integer : He.DefD := ⟨("is_integer", none), "is_integer", "is_integer", defArgs s_is_integer, defBody s_is_integer, defScope s_is_integer, [], []⟩
def d__is_within : He.DefD := ⟨("is_within", none), "is_within", "is_within", defArgs s_is_within, defBody s_is_within, defScope s_is_within, [], []⟩
def d__is_list : He.DefD := ⟨("is_list", none), "is_list", "is_list", defArgs s_is_list, defBody s_is_list, defScope s_is_list, [], []⟩
def d__is_point : He.DefD := ⟨("is_point", none), "is_point", "is_point", defArgs s_is_point, defBody s_is_point, defScope s_is_point, [], []⟩
def d__common : He.DefD := ⟨("common", none), "common", "common", defArgs s_common, defBody s_common, defScope s_common, [], []⟩
def d__ways_in : He.DefD := ⟨("ways_in", none), "ways_in", "ways_in", defArgs s_ways_in, defBody s_ways_in, defScope s_ways_in, [], []⟩
def d__is_slant : He.DefD := ⟨("is_slant", none), "is_slant", "is_slant", defArgs s_is_slant, defBody s_is_slant, defScope s_is_slant, [], []⟩
def d__path_in : He.DefD := ⟨("path_in", none), "path_in", "path_in", defArgs s_path_in, defBody s_path_in, defScope s_path_in, [], []⟩
def d__added : He.DefD := ⟨("added", none), "added", "added", defArgs s_added, defBody s_added, defScope s_added, [], []⟩
def d__slant_in : He.DefD := ⟨("slant_in", none), "slant_in", "slant_in", defArgs s_slant_in, defBody s_slant_in, defScope s_slant_in, [], []⟩
def d__letters_in : He.DefD := ⟨("letters_in", none), "letters_in", "letters_in", defArgs s_letters_in, defBody s_letters_in, defScope s_letters_in, [], []⟩
def d__is_run : He.DefD := ⟨("is_run", none), "is_run", "is_run", defArgs s_is_run, defBody s_is_run, defScope s_is_run, [], []⟩
def d__is_path : He.DefD := ⟨("is_path", none), "is_path", "is_path", defArgs s_is_path, defBody s_is_path, defScope s_is_path, [], []⟩
def d__is_name : He.DefD := ⟨("is_name", none), "is_name", "is_name", defArgs s_is_name, defBody s_is_name, defScope s_is_name, [], []⟩
def d__path_at : He.DefD := ⟨("path_at", none), "path_at", "path_at", defArgs s_path_at, defBody s_path_at, defScope s_path_at, [], []⟩
def d__name_at : He.DefD := ⟨("name_at", none), "name_at", "name_at", defArgs s_name_at, defBody s_name_at, defScope s_name_at, [], []⟩
def d__runs_of : He.DefD := ⟨("runs_of", none), "runs_of", "runs_of", defArgs s_runs_of, defBody s_runs_of, defScope s_runs_of, [], []⟩
def d__least_block : He.DefD := ⟨("least_block", none), "least_block", "least_block", defArgs s_least_block, defBody s_least_block, defScope s_least_block, [], []⟩
def d__drawn_in : He.DefD := ⟨("drawn_in", none), "drawn_in", "drawn_in", defArgs s_drawn_in, defBody s_drawn_in, defScope s_drawn_in, [], []⟩
def d__shortened_in : He.DefD := ⟨("shortened_in", none), "shortened_in", "shortened_in", defArgs s_shortened_in, defBody s_shortened_in, defScope s_shortened_in, [], []⟩
def d__is_north : He.DefD := ⟨("is_north", none), "is_north", "is_north", defArgs s_is_north, defBody s_is_north, defScope s_is_north, [], []⟩
def d__rest_behind : He.DefD := ⟨("rest_behind", none), "rest_behind", "rest_behind", defArgs s_rest_behind, defBody s_rest_behind, defScope s_rest_behind, [], []⟩
def d__is_beyond_in : He.DefD := ⟨("is_beyond_in", none), "is_beyond_in", "is_beyond_in", defArgs s_is_beyond_in, defBody s_is_beyond_in, defScope s_is_beyond_in, [], []⟩
def d__machine_of : He.DefD := ⟨("machine_of", none), "machine_of", "machine_of", defArgs s_machine_of, defBody s_machine_of, defScope s_machine_of, [], []⟩
def d__equation_of : He.DefD := ⟨("equation_of", none), "equation_of", "equation_of", defArgs s_equation_of, defBody s_equation_of, defScope s_equation_of, [], []⟩
def d__side_name : He.DefD := ⟨("side_name", none), "side_name", "side_name", defArgs s_side_name, defBody s_side_name, defScope s_side_name, [], []⟩
def d__name_in : He.DefD := ⟨("name_in", none), "name_in", "name_in", defArgs s_name_in, defBody s_name_in, defScope s_name_in, [], []⟩
def d__slant_by : He.DefD := ⟨("slant_by", none), "slant_by", "slant_by", defArgs s_slant_by, defBody s_slant_by, defScope s_slant_by, [], []⟩
def d__need_name : He.DefD := ⟨("need_name", none), "need_name", "need_name", defArgs s_need_name, defBody s_need_name, defScope s_need_name, [.str (mkS [110, 97, 109, 101])], []⟩
def d__need_endless : He.DefD := ⟨("need_endless", none), "need_endless", "need_endless", defArgs s_need_endless, defBody s_need_endless, defScope s_need_endless, [], []⟩
def d__name_of : He.DefD := ⟨("name_of", none), "name_of", "name_of", defArgs s_name_of, defBody s_name_of, defScope s_name_of, [], []⟩
def d__way_of : He.DefD := ⟨("way_of", none), "way_of", "way_of", defArgs s_way_of, defBody s_way_of, defScope s_way_of, [], []⟩
def d__shortened : He.DefD := ⟨("shortened", none), "shortened", "shortened", defArgs s_shortened, defBody s_shortened, defScope s_shortened, [], []⟩
def d__limit_of : He.DefD := ⟨("limit_of", none), "limit_of", "limit_of", defArgs s_limit_of, defBody s_limit_of, defScope s_limit_of, [], []⟩
def d__is_beyond : He.DefD := ⟨("is_beyond", none), "is_beyond", "is_beyond", defArgs s_is_beyond, defBody s_is_beyond, defScope s_is_beyond, [], []⟩
def d___law_pen : He.DefD := ⟨("_law_pen", none), "_law_pen", "_law_pen", defArgs s__law_pen, defBody s__law_pen, defScope s__law_pen, [], []⟩
def d___law_draw : He.DefD := ⟨("_law_draw", none), "_law_draw", "_law_draw", defArgs s__law_draw, defBody s__law_draw, defScope s__law_draw, [], []⟩
def d___law_pick : He.DefD := ⟨("_law_pick", none), "_law_pick", "_law_pick", defArgs s__law_pick, defBody s__law_pick, defScope s__law_pick, [], []⟩
def d___law_common : He.DefD := ⟨("_law_common", none), "_law_common", "_law_common", defArgs s__law_common, defBody s__law_common, defScope s__law_common, [], []⟩
def d___law_low : He.DefD := ⟨("_law_low", none), "_law_low", "_law_low", defArgs s__law_low, defBody s__law_low, defScope s__law_low, [], []⟩
def d___law_slant : He.DefD := ⟨("_law_slant", none), "_law_slant", "_law_slant", defArgs s__law_slant, defBody s__law_slant, defScope s__law_slant, [], []⟩
def d___law_back : He.DefD := ⟨("_law_back", none), "_law_back", "_law_back", defArgs s__law_back, defBody s__law_back, defScope s__law_back, [], []⟩
def d___law_name : He.DefD := ⟨("_law_name", none), "_law_name", "_law_name", defArgs s__law_name, defBody s__law_name, defScope s__law_name, [], []⟩
def d___law_letters : He.DefD := ⟨("_law_letters", none), "_law_letters", "_law_letters", defArgs s__law_letters, defBody s__law_letters, defScope s__law_letters, [], []⟩
def d___law_text : He.DefD := ⟨("_law_text", none), "_law_text", "_law_text", defArgs s__law_text, defBody s__law_text, defScope s__law_text, [], []⟩
def d___law_above : He.DefD := ⟨("_law_above", none), "_law_above", "_law_above", defArgs s__law_above, defBody s__law_above, defScope s__law_above, [], []⟩
def d___law_begin : He.DefD := ⟨("_law_begin", none), "_law_begin", "_law_begin", defArgs s__law_begin, defBody s__law_begin, defScope s__law_begin, [], []⟩
def d___law_coprime : He.DefD := ⟨("_law_coprime", none), "_law_coprime", "_law_coprime", defArgs s__law_coprime, defBody s__law_coprime, defScope s__law_coprime, [], []⟩
def d___law_ahead : He.DefD := ⟨("_law_ahead", none), "_law_ahead", "_law_ahead", defArgs s__law_ahead, defBody s__law_ahead, defScope s__law_ahead, [], []⟩
def d___law_is_above_root : He.DefD := ⟨("_law_is_above_root", none), "_law_is_above_root", "_law_is_above_root", defArgs s__law_is_above_root, defBody s__law_is_above_root, defScope s__law_is_above_root, [], []⟩
def d___law_is_square : He.DefD := ⟨("_law_is_square", none), "_law_is_square", "_law_is_square", defArgs s__law_is_square, defBody s__law_is_square, defScope s__law_is_square, [], []⟩
def d__law : He.DefD := ⟨("law", none), "law", "law", defArgs s_law, defBody s_law, defScope s_law, [], []⟩
def fn0 : List He.DefD := [d__is_integer, d__is_within, d__is_list, d__is_point, d__common, d__ways_in, d__is_slant, d__path_in, d__added, d__slant_in, d__letters_in, d__is_run, d__is_path, d__is_name, d__path_at, d__name_at, d__runs_of, d__least_block, d__drawn_in, d__shortened_in, d__is_north, d__rest_behind, d__is_beyond_in, d__machine_of, d__equation_of]
def fn1 : List He.DefD := [d__side_name, d__name_in, d__slant_by, d__need_name, d__need_endless, d__name_of, d__way_of, d__shortened, d__limit_of, d__is_beyond, d___law_pen, d___law_draw, d___law_pick, d___law_common, d___law_low, d___law_slant, d___law_back, d___law_name, d___law_letters, d___law_text, d___law_above, d___law_begin, d___law_coprime, d___law_ahead, d___law_is_above_root]
def fn2 : List He.DefD := [d___law_is_square, d__law]
def fn : List He.DefD := fn0 ++ fn1 ++ fn2
def fa0 : List He.Fa := [.glo "is_integer", .glo "is_within", .glo "is_list", .glo "is_point", .glo "common", .glo "ways_in", .glo "is_slant", .glo "path_in", .glo "added", .glo "slant_in", .glo "letters_in", .glo "is_run", .glo "is_path", .glo "is_name", .glo "path_at", .glo "name_at", .glo "runs_of", .glo "least_block", .glo "drawn_in", .glo "shortened_in", .glo "is_north", .glo "rest_behind", .glo "is_beyond_in", .glo "machine_of", .glo "equation_of"]
def fa1 : List He.Fa := [.glo "side_name", .glo "name_in", .glo "slant_by", .glo "need_name", .glo "need_endless", .glo "name_of", .glo "way_of", .glo "shortened", .glo "limit_of", .glo "is_beyond", .glo "_law_pen", .glo "_law_draw", .glo "_law_pick", .glo "_law_common", .glo "_law_low", .glo "_law_slant", .glo "_law_back", .glo "_law_name", .glo "_law_letters", .glo "_law_text", .glo "_law_above", .glo "_law_begin", .glo "_law_coprime", .glo "_law_ahead", .glo "_law_is_above_root"]
def fa2 : List He.Fa := [.glo "_law_is_square", .glo "law", .free "abs", .free "all", .free "bool", .free "int", .free "isinstance", .free "len", .free "list", .free "max", .free "min", .free "range", .free "reversed", .free "str", .free "sum", .free "tuple", .free "zip", .str "A" (mkS [97]), .str "B" (mkS [98]), .int "MOST_TIMES" 1000000000000, .int "MOST_RUNS" 20000, .str "NORTH" (mkS [110, 111, 114, 116, 104]), .str "EAST" (mkS [101, 97, 115, 116]), .glo "NORTH_SLANT", .glo "EAST_SLANT"]
def fa3 : List He.Fa := [.int "MOST_TOLD" 300, .int "MOST_NUMBER" 1000000000000000000000000000000000000000000000000000000000000, .str "SLANT" (mkS [115, 108, 97, 110, 116]), .int "MOST_LETTERS" 80, .str "ROOT" (mkS [114, 111, 111, 116])]
def fa : List He.Fa := fa0 ++ fa1 ++ fa2 ++ fa3
def loose0 : List Str := ["MirrorError", "BadWay", "BadWord", "Misfit", "TooMany", "is_integer", "is_within", "is_list", "is_point", "common", "A", "B", "ways_in", "EAST_SLANT", "NORTH_SLANT", "MOST_NUMBER", "is_slant", "path_in", "added", "slant_in", "letters_in", "EAST", "NORTH", "SLANT", "ROOT"]
def loose1 : List Str := ["MOST_RUNS", "MOST_TIMES", "MOST_LETTERS", "MOST_TOLD", "is_run", "is_path", "is_name", "path_at", "name_at", "runs_of", "least_block", "drawn_in", "shortened_in", "is_north", "rest_behind", "is_beyond_in", "machine_of", "equation_of", "side_name", "name_in", "slant_by", "need_name", "need_endless", "name_of", "way_of"]
def loose2 : List Str := ["shortened", "limit_of", "is_beyond", "_law_pen", "_law_draw", "_law_pick", "_law_common", "_law_low", "_law_slant", "_law_back", "_law_name", "_law_letters", "_law_text", "_law_above", "_law_begin", "_law_coprime", "_law_ahead", "_law_is_above_root", "_law_is_square"]
def loose : List Str := loose0 ++ loose1 ++ loose2
def ex (K : PySem.W.Frag) : Bool := He.tupB K "NORTH_SLANT" [.int (0), .int (1)] && He.tupB K "EAST_SLANT" [.int (1), .int (0)]
abbrev AlY : Type := He.AlD × Bool
def obsY (n : Nat) (g : Addr → Option Obj) : AlY := (He.obsDG n fa fn g, ex (He.frG g (He.asD g n)))
abbrev hk : PySem.W.Hook where
  α := AlY
  obs := fun s => obsY 4 s.heap.get?
  val := fun _ => (He.valD fn, true)
  says := fun _ h => ∃ K : PySem.W.Frag, K.In h ∧ He.SaysD fa fn K ∧ ex K = true
  of := fun _ _ e => ⟨_, He.frG_in, congrArg Prod.fst e, congrArg Prod.snd e⟩
  keeps := fun _ _ _ ⟨K, hK, c⟩ k => ⟨K, PySem.W.Frag.In.keeps hK k, c⟩
def ob (s : PySem.W.SharedT) : AlY := obsY 4 (HandSHeadRun.getT s)
theorem ob_eq (s : PySem.W.SharedT) : ob s = hk.obs s.abs := by
  have e : HandSHeadRun.getT s = s.abs.heap.get? := funext (HandSHeadRun.getT_eq s)
  show obsY 4 (HandSHeadRun.getT s) = obsY 4 s.abs.heap.get?
  rw [e]
abbrev Rw : PySem.W.OpenRow := PySem.W.OpenLaw.row PySem.Challenge.rw_whichways_k60_whole_limits_are_roots_of
theorem run (w : World) : HandSHeadRun.RunEq Rw (PySem.W.view Rw.prog [75]) hk ob 6000 loose w := by
  intro os
  kernel_rfl
section
variable {P : Program} {w : World} {K : PySem.W.Frag} {mg : Str → Option Value} {base : Heap} {h : Heap}
theorem fd_of {d : He.DefD} {st : Stmt} (X : K.In h) (G : h.Ns mainGlobals mg) (c : He.SaysD fa fn K) (i j : Nat) (x : Str) (hi : fn[i]? = some d) (hj : fa[j]? = some (.glo x)) (h1 : d.at_ = (x, none)) (h2 : d.name = x) (h3 : d.qual = x) (h4 : d.params = defArgs st) (h5 : d.body = defBody st) (h6 : d.scope = defScope st) (dvs : List V) (h7 : d.dvs K = dvs) (h8 : d.kws K = []) : Fd K mg x st dvs := by
  obtain ⟨fd, F⟩ := c.def_ i hi
  rw [h1, h2, h3, h4, h5, h6, h7, h8] at F
  exact ⟨_, fd, He.glo_ok X G (c.fact j hj), F⟩
theorem f_is_integer (X : K.In h) (G : h.Ns mainGlobals mg) (c : He.SaysD fa fn K) : Fd K mg "is_integer" s_is_integer [] := fd_of (d := d__is_integer) X G c 0 0 "is_integer" rfl rfl rfl rfl rfl rfl rfl rfl [] rfl rfl
theorem f_is_within (X : K.In h) (G : h.Ns mainGlobals mg) (c : He.SaysD fa fn K) : Fd K mg "is_within" s_is_within [] := fd_of (d := d__is_within) X G c 1 1 "is_within" rfl rfl rfl rfl rfl rfl rfl rfl [] rfl rfl
theorem f_is_list (X : K.In h) (G : h.Ns mainGlobals mg) (c : He.SaysD fa fn K) : Fd K mg "is_list" s_is_list [] := fd_of (d := d__is_list) X G c 2 2 "is_list" rfl rfl rfl rfl rfl rfl rfl rfl [] rfl rfl
theorem f_is_point (X : K.In h) (G : h.Ns mainGlobals mg) (c : He.SaysD fa fn K) : Fd K mg "is_point" s_is_point [] := fd_of (d := d__is_point) X G c 3 3 "is_point" rfl rfl rfl rfl rfl rfl rfl rfl [] rfl rfl
theorem f_common (X : K.In h) (G : h.Ns mainGlobals mg) (c : He.SaysD fa fn K) : Fd K mg "common" s_common [] := fd_of (d := d__common) X G c 4 4 "common" rfl rfl rfl rfl rfl rfl rfl rfl [] rfl rfl
theorem f_ways_in (X : K.In h) (G : h.Ns mainGlobals mg) (c : He.SaysD fa fn K) : Fd K mg "ways_in" s_ways_in [] := fd_of (d := d__ways_in) X G c 5 5 "ways_in" rfl rfl rfl rfl rfl rfl rfl rfl [] rfl rfl
theorem f_is_slant (X : K.In h) (G : h.Ns mainGlobals mg) (c : He.SaysD fa fn K) : Fd K mg "is_slant" s_is_slant [] := fd_of (d := d__is_slant) X G c 6 6 "is_slant" rfl rfl rfl rfl rfl rfl rfl rfl [] rfl rfl
theorem f_path_in (X : K.In h) (G : h.Ns mainGlobals mg) (c : He.SaysD fa fn K) : Fd K mg "path_in" s_path_in [] := fd_of (d := d__path_in) X G c 7 7 "path_in" rfl rfl rfl rfl rfl rfl rfl rfl [] rfl rfl
theorem f_added (X : K.In h) (G : h.Ns mainGlobals mg) (c : He.SaysD fa fn K) : Fd K mg "added" s_added [] := fd_of (d := d__added) X G c 8 8 "added" rfl rfl rfl rfl rfl rfl rfl rfl [] rfl rfl
theorem f_slant_in (X : K.In h) (G : h.Ns mainGlobals mg) (c : He.SaysD fa fn K) : Fd K mg "slant_in" s_slant_in [] := fd_of (d := d__slant_in) X G c 9 9 "slant_in" rfl rfl rfl rfl rfl rfl rfl rfl [] rfl rfl
theorem f_letters_in (X : K.In h) (G : h.Ns mainGlobals mg) (c : He.SaysD fa fn K) : Fd K mg "letters_in" s_letters_in [] := fd_of (d := d__letters_in) X G c 10 10 "letters_in" rfl rfl rfl rfl rfl rfl rfl rfl [] rfl rfl
theorem f_is_run (X : K.In h) (G : h.Ns mainGlobals mg) (c : He.SaysD fa fn K) : Fd K mg "is_run" s_is_run [] := fd_of (d := d__is_run) X G c 11 11 "is_run" rfl rfl rfl rfl rfl rfl rfl rfl [] rfl rfl
theorem f_is_path (X : K.In h) (G : h.Ns mainGlobals mg) (c : He.SaysD fa fn K) : Fd K mg "is_path" s_is_path [] := fd_of (d := d__is_path) X G c 12 12 "is_path" rfl rfl rfl rfl rfl rfl rfl rfl [] rfl rfl
theorem f_is_name (X : K.In h) (G : h.Ns mainGlobals mg) (c : He.SaysD fa fn K) : Fd K mg "is_name" s_is_name [] := fd_of (d := d__is_name) X G c 13 13 "is_name" rfl rfl rfl rfl rfl rfl rfl rfl [] rfl rfl
theorem f_path_at (X : K.In h) (G : h.Ns mainGlobals mg) (c : He.SaysD fa fn K) : Fd K mg "path_at" s_path_at [] := fd_of (d := d__path_at) X G c 14 14 "path_at" rfl rfl rfl rfl rfl rfl rfl rfl [] rfl rfl
theorem f_name_at (X : K.In h) (G : h.Ns mainGlobals mg) (c : He.SaysD fa fn K) : Fd K mg "name_at" s_name_at [] := fd_of (d := d__name_at) X G c 15 15 "name_at" rfl rfl rfl rfl rfl rfl rfl rfl [] rfl rfl
theorem f_runs_of (X : K.In h) (G : h.Ns mainGlobals mg) (c : He.SaysD fa fn K) : Fd K mg "runs_of" s_runs_of [] := fd_of (d := d__runs_of) X G c 16 16 "runs_of" rfl rfl rfl rfl rfl rfl rfl rfl [] rfl rfl
theorem f_least_block (X : K.In h) (G : h.Ns mainGlobals mg) (c : He.SaysD fa fn K) : Fd K mg "least_block" s_least_block [] := fd_of (d := d__least_block) X G c 17 17 "least_block" rfl rfl rfl rfl rfl rfl rfl rfl [] rfl rfl
theorem f_drawn_in (X : K.In h) (G : h.Ns mainGlobals mg) (c : He.SaysD fa fn K) : Fd K mg "drawn_in" s_drawn_in [] := fd_of (d := d__drawn_in) X G c 18 18 "drawn_in" rfl rfl rfl rfl rfl rfl rfl rfl [] rfl rfl
theorem f_shortened_in (X : K.In h) (G : h.Ns mainGlobals mg) (c : He.SaysD fa fn K) : Fd K mg "shortened_in" s_shortened_in [] := fd_of (d := d__shortened_in) X G c 19 19 "shortened_in" rfl rfl rfl rfl rfl rfl rfl rfl [] rfl rfl
theorem f_is_north (X : K.In h) (G : h.Ns mainGlobals mg) (c : He.SaysD fa fn K) : Fd K mg "is_north" s_is_north [] := fd_of (d := d__is_north) X G c 20 20 "is_north" rfl rfl rfl rfl rfl rfl rfl rfl [] rfl rfl
theorem f_rest_behind (X : K.In h) (G : h.Ns mainGlobals mg) (c : He.SaysD fa fn K) : Fd K mg "rest_behind" s_rest_behind [] := fd_of (d := d__rest_behind) X G c 21 21 "rest_behind" rfl rfl rfl rfl rfl rfl rfl rfl [] rfl rfl
theorem f_is_beyond_in (X : K.In h) (G : h.Ns mainGlobals mg) (c : He.SaysD fa fn K) : Fd K mg "is_beyond_in" s_is_beyond_in [] := fd_of (d := d__is_beyond_in) X G c 22 22 "is_beyond_in" rfl rfl rfl rfl rfl rfl rfl rfl [] rfl rfl
theorem f_machine_of (X : K.In h) (G : h.Ns mainGlobals mg) (c : He.SaysD fa fn K) : Fd K mg "machine_of" s_machine_of [] := fd_of (d := d__machine_of) X G c 23 23 "machine_of" rfl rfl rfl rfl rfl rfl rfl rfl [] rfl rfl
theorem f_equation_of (X : K.In h) (G : h.Ns mainGlobals mg) (c : He.SaysD fa fn K) : Fd K mg "equation_of" s_equation_of [] := fd_of (d := d__equation_of) X G c 24 24 "equation_of" rfl rfl rfl rfl rfl rfl rfl rfl [] rfl rfl
theorem f_side_name (X : K.In h) (G : h.Ns mainGlobals mg) (c : He.SaysD fa fn K) : Fd K mg "side_name" s_side_name [] := fd_of (d := d__side_name) X G c 25 25 "side_name" rfl rfl rfl rfl rfl rfl rfl rfl [] rfl rfl
theorem f_name_in (X : K.In h) (G : h.Ns mainGlobals mg) (c : He.SaysD fa fn K) : Fd K mg "name_in" s_name_in [] := fd_of (d := d__name_in) X G c 26 26 "name_in" rfl rfl rfl rfl rfl rfl rfl rfl [] rfl rfl
theorem f_slant_by (X : K.In h) (G : h.Ns mainGlobals mg) (c : He.SaysD fa fn K) : Fd K mg "slant_by" s_slant_by [] := fd_of (d := d__slant_by) X G c 27 27 "slant_by" rfl rfl rfl rfl rfl rfl rfl rfl [] rfl rfl
theorem f_need_name (X : K.In h) (G : h.Ns mainGlobals mg) (c : He.SaysD fa fn K) : Fd K mg "need_name" s_need_name [V.str (mkS [110, 97, 109, 101])] := fd_of (d := d__need_name) X G c 28 28 "need_name" rfl rfl rfl rfl rfl rfl rfl rfl [V.str (mkS [110, 97, 109, 101])] rfl rfl
theorem f_need_endless (X : K.In h) (G : h.Ns mainGlobals mg) (c : He.SaysD fa fn K) : Fd K mg "need_endless" s_need_endless [] := fd_of (d := d__need_endless) X G c 29 29 "need_endless" rfl rfl rfl rfl rfl rfl rfl rfl [] rfl rfl
theorem f_name_of (X : K.In h) (G : h.Ns mainGlobals mg) (c : He.SaysD fa fn K) : Fd K mg "name_of" s_name_of [] := fd_of (d := d__name_of) X G c 30 30 "name_of" rfl rfl rfl rfl rfl rfl rfl rfl [] rfl rfl
theorem f_way_of (X : K.In h) (G : h.Ns mainGlobals mg) (c : He.SaysD fa fn K) : Fd K mg "way_of" s_way_of [] := fd_of (d := d__way_of) X G c 31 31 "way_of" rfl rfl rfl rfl rfl rfl rfl rfl [] rfl rfl
theorem f_shortened (X : K.In h) (G : h.Ns mainGlobals mg) (c : He.SaysD fa fn K) : Fd K mg "shortened" s_shortened [] := fd_of (d := d__shortened) X G c 32 32 "shortened" rfl rfl rfl rfl rfl rfl rfl rfl [] rfl rfl
theorem f_limit_of (X : K.In h) (G : h.Ns mainGlobals mg) (c : He.SaysD fa fn K) : Fd K mg "limit_of" s_limit_of [] := fd_of (d := d__limit_of) X G c 33 33 "limit_of" rfl rfl rfl rfl rfl rfl rfl rfl [] rfl rfl
theorem f_is_beyond (X : K.In h) (G : h.Ns mainGlobals mg) (c : He.SaysD fa fn K) : Fd K mg "is_beyond" s_is_beyond [] := fd_of (d := d__is_beyond) X G c 34 34 "is_beyond" rfl rfl rfl rfl rfl rfl rfl rfl [] rfl rfl
theorem f__law_pen (X : K.In h) (G : h.Ns mainGlobals mg) (c : He.SaysD fa fn K) : Fd K mg "_law_pen" s__law_pen [] := fd_of (d := d___law_pen) X G c 35 35 "_law_pen" rfl rfl rfl rfl rfl rfl rfl rfl [] rfl rfl
theorem f__law_draw (X : K.In h) (G : h.Ns mainGlobals mg) (c : He.SaysD fa fn K) : Fd K mg "_law_draw" s__law_draw [] := fd_of (d := d___law_draw) X G c 36 36 "_law_draw" rfl rfl rfl rfl rfl rfl rfl rfl [] rfl rfl
theorem f__law_pick (X : K.In h) (G : h.Ns mainGlobals mg) (c : He.SaysD fa fn K) : Fd K mg "_law_pick" s__law_pick [] := fd_of (d := d___law_pick) X G c 37 37 "_law_pick" rfl rfl rfl rfl rfl rfl rfl rfl [] rfl rfl
theorem f__law_common (X : K.In h) (G : h.Ns mainGlobals mg) (c : He.SaysD fa fn K) : Fd K mg "_law_common" s__law_common [] := fd_of (d := d___law_common) X G c 38 38 "_law_common" rfl rfl rfl rfl rfl rfl rfl rfl [] rfl rfl
theorem f__law_low (X : K.In h) (G : h.Ns mainGlobals mg) (c : He.SaysD fa fn K) : Fd K mg "_law_low" s__law_low [] := fd_of (d := d___law_low) X G c 39 39 "_law_low" rfl rfl rfl rfl rfl rfl rfl rfl [] rfl rfl
theorem f__law_slant (X : K.In h) (G : h.Ns mainGlobals mg) (c : He.SaysD fa fn K) : Fd K mg "_law_slant" s__law_slant [] := fd_of (d := d___law_slant) X G c 40 40 "_law_slant" rfl rfl rfl rfl rfl rfl rfl rfl [] rfl rfl
theorem f__law_back (X : K.In h) (G : h.Ns mainGlobals mg) (c : He.SaysD fa fn K) : Fd K mg "_law_back" s__law_back [] := fd_of (d := d___law_back) X G c 41 41 "_law_back" rfl rfl rfl rfl rfl rfl rfl rfl [] rfl rfl
theorem f__law_name (X : K.In h) (G : h.Ns mainGlobals mg) (c : He.SaysD fa fn K) : Fd K mg "_law_name" s__law_name [] := fd_of (d := d___law_name) X G c 42 42 "_law_name" rfl rfl rfl rfl rfl rfl rfl rfl [] rfl rfl
theorem f__law_letters (X : K.In h) (G : h.Ns mainGlobals mg) (c : He.SaysD fa fn K) : Fd K mg "_law_letters" s__law_letters [] := fd_of (d := d___law_letters) X G c 43 43 "_law_letters" rfl rfl rfl rfl rfl rfl rfl rfl [] rfl rfl
theorem f__law_text (X : K.In h) (G : h.Ns mainGlobals mg) (c : He.SaysD fa fn K) : Fd K mg "_law_text" s__law_text [] := fd_of (d := d___law_text) X G c 44 44 "_law_text" rfl rfl rfl rfl rfl rfl rfl rfl [] rfl rfl
theorem f__law_above (X : K.In h) (G : h.Ns mainGlobals mg) (c : He.SaysD fa fn K) : Fd K mg "_law_above" s__law_above [] := fd_of (d := d___law_above) X G c 45 45 "_law_above" rfl rfl rfl rfl rfl rfl rfl rfl [] rfl rfl
theorem f__law_begin (X : K.In h) (G : h.Ns mainGlobals mg) (c : He.SaysD fa fn K) : Fd K mg "_law_begin" s__law_begin [] := fd_of (d := d___law_begin) X G c 46 46 "_law_begin" rfl rfl rfl rfl rfl rfl rfl rfl [] rfl rfl
theorem f__law_coprime (X : K.In h) (G : h.Ns mainGlobals mg) (c : He.SaysD fa fn K) : Fd K mg "_law_coprime" s__law_coprime [] := fd_of (d := d___law_coprime) X G c 47 47 "_law_coprime" rfl rfl rfl rfl rfl rfl rfl rfl [] rfl rfl
theorem f__law_ahead (X : K.In h) (G : h.Ns mainGlobals mg) (c : He.SaysD fa fn K) : Fd K mg "_law_ahead" s__law_ahead [] := fd_of (d := d___law_ahead) X G c 48 48 "_law_ahead" rfl rfl rfl rfl rfl rfl rfl rfl [] rfl rfl
theorem f__law_is_above_root (X : K.In h) (G : h.Ns mainGlobals mg) (c : He.SaysD fa fn K) : Fd K mg "_law_is_above_root" s__law_is_above_root [] := fd_of (d := d___law_is_above_root) X G c 49 49 "_law_is_above_root" rfl rfl rfl rfl rfl rfl rfl rfl [] rfl rfl
theorem f__law_is_square (X : K.In h) (G : h.Ns mainGlobals mg) (c : He.SaysD fa fn K) : Fd K mg "_law_is_square" s__law_is_square [] := fd_of (d := d___law_is_square) X G c 50 50 "_law_is_square" rfl rfl rfl rfl rfl rfl rfl rfl [] rfl rfl
theorem f_law (X : K.In h) (G : h.Ns mainGlobals mg) (c : He.SaysD fa fn K) : Fd K mg "law" s_law [] := fd_of (d := d__law) X G c 51 51 "law" rfl rfl rfl rfl rfl rfl rfl rfl [] rfl rfl
theorem fr_abs (X : K.In h) (G : h.Ns mainGlobals mg) (c : He.SaysD fa fn K) : mg "abs" = none := He.free_ok X G (c.fact 52 (f := .free "abs") rfl)
theorem fr_all (X : K.In h) (G : h.Ns mainGlobals mg) (c : He.SaysD fa fn K) : mg "all" = none := He.free_ok X G (c.fact 53 (f := .free "all") rfl)
theorem fr_bool (X : K.In h) (G : h.Ns mainGlobals mg) (c : He.SaysD fa fn K) : mg "bool" = none := He.free_ok X G (c.fact 54 (f := .free "bool") rfl)
theorem fr_int (X : K.In h) (G : h.Ns mainGlobals mg) (c : He.SaysD fa fn K) : mg "int" = none := He.free_ok X G (c.fact 55 (f := .free "int") rfl)
theorem fr_isinstance (X : K.In h) (G : h.Ns mainGlobals mg) (c : He.SaysD fa fn K) : mg "isinstance" = none := He.free_ok X G (c.fact 56 (f := .free "isinstance") rfl)
theorem fr_len (X : K.In h) (G : h.Ns mainGlobals mg) (c : He.SaysD fa fn K) : mg "len" = none := He.free_ok X G (c.fact 57 (f := .free "len") rfl)
theorem fr_list (X : K.In h) (G : h.Ns mainGlobals mg) (c : He.SaysD fa fn K) : mg "list" = none := He.free_ok X G (c.fact 58 (f := .free "list") rfl)
theorem fr_max (X : K.In h) (G : h.Ns mainGlobals mg) (c : He.SaysD fa fn K) : mg "max" = none := He.free_ok X G (c.fact 59 (f := .free "max") rfl)
theorem fr_min (X : K.In h) (G : h.Ns mainGlobals mg) (c : He.SaysD fa fn K) : mg "min" = none := He.free_ok X G (c.fact 60 (f := .free "min") rfl)
theorem fr_range (X : K.In h) (G : h.Ns mainGlobals mg) (c : He.SaysD fa fn K) : mg "range" = none := He.free_ok X G (c.fact 61 (f := .free "range") rfl)
theorem fr_reversed (X : K.In h) (G : h.Ns mainGlobals mg) (c : He.SaysD fa fn K) : mg "reversed" = none := He.free_ok X G (c.fact 62 (f := .free "reversed") rfl)
theorem fr_str (X : K.In h) (G : h.Ns mainGlobals mg) (c : He.SaysD fa fn K) : mg "str" = none := He.free_ok X G (c.fact 63 (f := .free "str") rfl)
theorem fr_sum (X : K.In h) (G : h.Ns mainGlobals mg) (c : He.SaysD fa fn K) : mg "sum" = none := He.free_ok X G (c.fact 64 (f := .free "sum") rfl)
theorem fr_tuple (X : K.In h) (G : h.Ns mainGlobals mg) (c : He.SaysD fa fn K) : mg "tuple" = none := He.free_ok X G (c.fact 65 (f := .free "tuple") rfl)
theorem fr_zip (X : K.In h) (G : h.Ns mainGlobals mg) (c : He.SaysD fa fn K) : mg "zip" = none := He.free_ok X G (c.fact 66 (f := .free "zip") rfl)
theorem cc_A (X : K.In h) (G : h.Ns mainGlobals mg) (c : He.SaysD fa fn K) : GC K mg "A" k_A := by
  obtain ⟨t, e⟩ := He.str_ok X G (c.fact 67 (f := .str "A" (mkS [97])) rfl)
  exact ⟨_, .str _, e, ⟨t, rfl⟩, fun _ => .str _⟩
theorem cc_B (X : K.In h) (G : h.Ns mainGlobals mg) (c : He.SaysD fa fn K) : GC K mg "B" k_B := by
  obtain ⟨t, e⟩ := He.str_ok X G (c.fact 68 (f := .str "B" (mkS [98])) rfl)
  exact ⟨_, .str _, e, ⟨t, rfl⟩, fun _ => .str _⟩
theorem cc_MOST_TIMES (X : K.In h) (G : h.Ns mainGlobals mg) (c : He.SaysD fa fn K) : GC K mg "MOST_TIMES" k_MOST_TIMES := by
  obtain ⟨t, e⟩ := He.int_ok X G (c.fact 69 (f := .int "MOST_TIMES" 1000000000000) rfl)
  exact ⟨_, .int _, e, ⟨t, rfl⟩, fun _ => .int _⟩
theorem cc_MOST_RUNS (X : K.In h) (G : h.Ns mainGlobals mg) (c : He.SaysD fa fn K) : GC K mg "MOST_RUNS" k_MOST_RUNS := by
  obtain ⟨t, e⟩ := He.int_ok X G (c.fact 70 (f := .int "MOST_RUNS" 20000) rfl)
  exact ⟨_, .int _, e, ⟨t, rfl⟩, fun _ => .int _⟩
theorem cc_NORTH (X : K.In h) (G : h.Ns mainGlobals mg) (c : He.SaysD fa fn K) : GC K mg "NORTH" k_NORTH := by
  obtain ⟨t, e⟩ := He.str_ok X G (c.fact 71 (f := .str "NORTH" (mkS [110, 111, 114, 116, 104])) rfl)
  exact ⟨_, .str _, e, ⟨t, rfl⟩, fun _ => .str _⟩
theorem cc_EAST (X : K.In h) (G : h.Ns mainGlobals mg) (c : He.SaysD fa fn K) : GC K mg "EAST" k_EAST := by
  obtain ⟨t, e⟩ := He.str_ok X G (c.fact 72 (f := .str "EAST" (mkS [101, 97, 115, 116])) rfl)
  exact ⟨_, .str _, e, ⟨t, rfl⟩, fun _ => .str _⟩
theorem cc_NORTH_SLANT (X : K.In h) (G : h.Ns mainGlobals mg) (c : He.SaysD fa fn K) (e : ex K = true) : GC K mg "NORTH_SLANT" k_NORTH_SLANT := ⟨_, L2.V.ref _, He.glo_ok X G (c.fact 73 (f := .glo "NORTH_SLANT") rfl), rfl, fun Hf => .tup (He.tupB_ok (He.ba e).1 Hf) (.cons (.int _) (.cons (.int _) .nil))⟩
theorem cc_EAST_SLANT (X : K.In h) (G : h.Ns mainGlobals mg) (c : He.SaysD fa fn K) (e : ex K = true) : GC K mg "EAST_SLANT" k_EAST_SLANT := ⟨_, L2.V.ref _, He.glo_ok X G (c.fact 74 (f := .glo "EAST_SLANT") rfl), rfl, fun Hf => .tup (He.tupB_ok (He.ba e).2 Hf) (.cons (.int _) (.cons (.int _) .nil))⟩
theorem cc_MOST_TOLD (X : K.In h) (G : h.Ns mainGlobals mg) (c : He.SaysD fa fn K) : GC K mg "MOST_TOLD" k_MOST_TOLD := by
  obtain ⟨t, e⟩ := He.int_ok X G (c.fact 75 (f := .int "MOST_TOLD" 300) rfl)
  exact ⟨_, .int _, e, ⟨t, rfl⟩, fun _ => .int _⟩
theorem cc_MOST_NUMBER (X : K.In h) (G : h.Ns mainGlobals mg) (c : He.SaysD fa fn K) : GC K mg "MOST_NUMBER" k_MOST_NUMBER := by
  obtain ⟨t, e⟩ := He.int_ok X G (c.fact 76 (f := .int "MOST_NUMBER" 1000000000000000000000000000000000000000000000000000000000000) rfl)
  exact ⟨_, .int _, e, ⟨t, rfl⟩, fun _ => .int _⟩
theorem cc_SLANT (X : K.In h) (G : h.Ns mainGlobals mg) (c : He.SaysD fa fn K) : GC K mg "SLANT" k_SLANT := by
  obtain ⟨t, e⟩ := He.str_ok X G (c.fact 77 (f := .str "SLANT" (mkS [115, 108, 97, 110, 116])) rfl)
  exact ⟨_, .str _, e, ⟨t, rfl⟩, fun _ => .str _⟩
theorem cc_MOST_LETTERS (X : K.In h) (G : h.Ns mainGlobals mg) (c : He.SaysD fa fn K) : GC K mg "MOST_LETTERS" k_MOST_LETTERS := by
  obtain ⟨t, e⟩ := He.int_ok X G (c.fact 78 (f := .int "MOST_LETTERS" 80) rfl)
  exact ⟨_, .int _, e, ⟨t, rfl⟩, fun _ => .int _⟩
theorem cc_ROOT (X : K.In h) (G : h.Ns mainGlobals mg) (c : He.SaysD fa fn K) : GC K mg "ROOT" k_ROOT := by
  obtain ⟨t, e⟩ := He.str_ok X G (c.fact 79 (f := .str "ROOT" (mkS [114, 111, 111, 116])) rfl)
  exact ⟨_, .str _, e, ⟨t, rfl⟩, fun _ => .str _⟩
theorem v_is_integer (X : K.In h) (G : h.Ns mainGlobals mg) (c : He.SaysD fa fn K) (e : ex K = true) : FO P w K mg base 1 "is_integer" [] (SpP K 1 φ_is_integer) :=
  w_is_integer (f_is_integer X G c) (fr_isinstance X G c) (fr_int X G c) (fr_bool X G c)
theorem v_is_within (X : K.In h) (G : h.Ns mainGlobals mg) (c : He.SaysD fa fn K) (e : ex K = true) : FO P w K mg base 2 "is_within" [] (SpP K 3 φ_is_within) :=
  w_is_within (f_is_within X G c) (v_is_integer X G c e)
theorem v_is_list (X : K.In h) (G : h.Ns mainGlobals mg) (c : He.SaysD fa fn K) (e : ex K = true) : FO P w K mg base 1 "is_list" [] (SpP K 1 φ_is_list) :=
  w_is_list (f_is_list X G c) (fr_isinstance X G c) (fr_list X G c) (fr_tuple X G c)
theorem v_is_point (X : K.In h) (G : h.Ns mainGlobals mg) (c : He.SaysD fa fn K) (e : ex K = true) : FO P w K mg base 2 "is_point" [] (SpP K 1 φ_is_point) :=
  w_is_point (f_is_point X G c) (v_is_list X G c e) (v_is_integer X G c e) (fr_len X G c) (fr_all X G c)
theorem v_common (X : K.In h) (G : h.Ns mainGlobals mg) (c : He.SaysD fa fn K) (e : ex K = true) : FO P w K mg base 1 "common" [] (SpP K 2 φ_common) :=
  w_common (f_common X G c) (fr_abs X G c)
theorem v_ways_in (X : K.In h) (G : h.Ns mainGlobals mg) (c : He.SaysD fa fn K) (e : ex K = true) : FO P w K mg base 1 "ways_in" [] (SpP K 1 φ_ways_in) :=
  w_ways_in (f_ways_in X G c) (fr_reversed X G c) (fr_tuple X G c) (cc_A X G c)
theorem v_is_slant (X : K.In h) (G : h.Ns mainGlobals mg) (c : He.SaysD fa fn K) (e : ex K = true) : FO P w K mg base 3 "is_slant" [] (SpP K 1 φ_is_slant) :=
  w_is_slant (f_is_slant X G c) (v_is_point X G c e) (v_common X G c e)
theorem v_path_in (X : K.In h) (G : h.Ns mainGlobals mg) (c : He.SaysD fa fn K) (e : ex K = true) : FO P w K mg base 1 "path_in" [] (SpP K 1 φ_path_in) :=
  w_path_in (f_path_in X G c) (fr_tuple X G c) (cc_A X G c) (cc_B X G c)
theorem v_added (X : K.In h) (G : h.Ns mainGlobals mg) (c : He.SaysD fa fn K) (e : ex K = true) : FO P w K mg base 1 "added" [] (SpP K 2 φ_added) :=
  w_added (f_added X G c)
theorem v_slant_in (X : K.In h) (G : h.Ns mainGlobals mg) (c : He.SaysD fa fn K) (e : ex K = true) : FO P w K mg base 2 "slant_in" [] (SpP K 1 φ_slant_in) :=
  w_slant_in (f_slant_in X G c) (v_ways_in X G c e) (v_added X G c e)
theorem v_letters_in (X : K.In h) (G : h.Ns mainGlobals mg) (c : He.SaysD fa fn K) (e : ex K = true) : FO P w K mg base 1 "letters_in" [] (SpP K 1 φ_letters_in) :=
  w_letters_in (f_letters_in X G c) (fr_sum X G c)
theorem v_is_run (X : K.In h) (G : h.Ns mainGlobals mg) (c : He.SaysD fa fn K) (e : ex K = true) : FO P w K mg base 3 "is_run" [] (SpP K 1 φ_is_run) :=
  w_is_run (f_is_run X G c) (v_is_list X G c e) (v_is_within X G c e) (fr_len X G c) (fr_isinstance X G c) (fr_str X G c) (cc_B X G c) (cc_A X G c) (cc_MOST_TIMES X G c)
theorem v_is_path (X : K.In h) (G : h.Ns mainGlobals mg) (c : He.SaysD fa fn K) (e : ex K = true) : FO P w K mg base 4 "is_path" [] (SpP K 1 φ_is_path) :=
  w_is_path (f_is_path X G c) (v_is_list X G c e) (v_is_run X G c e) (fr_len X G c) (fr_all X G c) (fr_zip X G c) (cc_MOST_RUNS X G c)
theorem v_is_name (X : K.In h) (G : h.Ns mainGlobals mg) (c : He.SaysD fa fn K) (e : ex K = true) : FO P w K mg base 5 "is_name" [] (SpP K 1 φ_is_name) :=
  w_is_name (f_is_name X G c) (v_is_path X G c e) (fr_isinstance X G c) (fr_str X G c) (cc_NORTH X G c) (cc_EAST X G c)
theorem v_path_at (X : K.In h) (G : h.Ns mainGlobals mg) (c : He.SaysD fa fn K) (e : ex K = true) : FO P w K mg base 1 "path_at" [] (SpP K 1 φ_path_at) :=
  w_path_at (f_path_at X G c) (fr_tuple X G c)
theorem v_name_at (X : K.In h) (G : h.Ns mainGlobals mg) (c : He.SaysD fa fn K) (e : ex K = true) : FO P w K mg base 2 "name_at" [] (SpP K 1 φ_name_at) :=
  w_name_at (f_name_at X G c) (v_path_at X G c e) (fr_isinstance X G c) (fr_str X G c)
theorem v_runs_of (X : K.In h) (G : h.Ns mainGlobals mg) (c : He.SaysD fa fn K) (e : ex K = true) : FO P w K mg base 1 "runs_of" [] (SpP K 1 φ_runs_of) :=
  w_runs_of (f_runs_of X G c) (fr_tuple X G c)
theorem v_least_block (X : K.In h) (G : h.Ns mainGlobals mg) (c : He.SaysD fa fn K) (e : ex K = true) : FO P w K mg base 1 "least_block" [] (SpP K 1 φ_least_block) :=
  w_least_block (f_least_block X G c) (fr_range X G c) (fr_len X G c)
theorem v_drawn_in (X : K.In h) (G : h.Ns mainGlobals mg) (c : He.SaysD fa fn K) (e : ex K = true) : FO P w K mg base 2 "drawn_in" [] (SpP K 2 φ_drawn_in) :=
  w_drawn_in (f_drawn_in X G c) (v_runs_of X G c e) (fr_min X G c) (fr_tuple X G c)
theorem v_shortened_in (X : K.In h) (G : h.Ns mainGlobals mg) (c : He.SaysD fa fn K) (e : ex K = true) : FO P w K mg base 3 "shortened_in" [] (SpP K 2 φ_shortened_in) :=
  w_shortened_in (f_shortened_in X G c) (v_runs_of X G c e) (v_drawn_in X G c e) (v_least_block X G c e) (fr_len X G c)
theorem v_is_north (X : K.In h) (G : h.Ns mainGlobals mg) (c : He.SaysD fa fn K) (e : ex K = true) : FO P w K mg base 1 "is_north" [] (SpP K 2 φ_is_north) :=
  w_is_north (f_is_north X G c) (cc_B X G c)
theorem v_rest_behind (X : K.In h) (G : h.Ns mainGlobals mg) (c : He.SaysD fa fn K) (e : ex K = true) : FO P w K mg base 4 "rest_behind" [] (SpP K 3 φ_rest_behind) :=
  w_rest_behind (f_rest_behind X G c) (v_shortened_in X G c e) (v_runs_of X G c e) (fr_len X G c)
theorem v_is_beyond_in (X : K.In h) (G : h.Ns mainGlobals mg) (c : He.SaysD fa fn K) (e : ex K = true) : FO P w K mg base 5 "is_beyond_in" [] (SpP K 3 φ_is_beyond_in) :=
  w_is_beyond_in (f_is_beyond_in X G c) (v_is_north X G c e) (v_rest_behind X G c e) (fr_isinstance X G c) (fr_str X G c) (cc_NORTH X G c) (cc_EAST X G c) (cc_B X G c) (cc_A X G c)
theorem v_machine_of (X : K.In h) (G : h.Ns mainGlobals mg) (c : He.SaysD fa fn K) (e : ex K = true) : FO P w K mg base 1 "machine_of" [] (SpP K 1 φ_machine_of) :=
  w_machine_of (f_machine_of X G c) (cc_B X G c)
theorem v_equation_of (X : K.In h) (G : h.Ns mainGlobals mg) (c : He.SaysD fa fn K) (e : ex K = true) : FO P w K mg base 2 "equation_of" [] (SpP K 2 φ_equation_of) :=
  w_equation_of (f_equation_of X G c) (v_machine_of X G c e) (v_common X G c e) (fr_tuple X G c)
theorem v_side_name (X : K.In h) (G : h.Ns mainGlobals mg) (c : He.SaysD fa fn K) (e : ex K = true) : FO P w K mg base 2 "side_name" [] (SpP K 2 φ_side_name) :=
  w_side_name (f_side_name X G c) (v_runs_of X G c e) (cc_B X G c) (cc_NORTH X G c) (cc_EAST X G c)
theorem v_name_in (X : K.In h) (G : h.Ns mainGlobals mg) (c : He.SaysD fa fn K) (e : ex K = true) : FO P w K mg base 2 "name_in" [] (SpP K 1 φ_name_in) :=
  w_name_in (f_name_in X G c) (v_path_in X G c e) (cc_NORTH_SLANT X G c e) (cc_EAST_SLANT X G c e) (cc_EAST X G c) (cc_NORTH X G c)
theorem v_slant_by (X : K.In h) (G : h.Ns mainGlobals mg) (c : He.SaysD fa fn K) (e : ex K = true) : FO P w K mg base 3 "slant_by" [] (SpP K 1 φ_slant_by) :=
  w_slant_by (f_slant_by X G c) (v_slant_in X G c e) (cc_NORTH X G c) (cc_EAST X G c) (cc_EAST_SLANT X G c e) (cc_NORTH_SLANT X G c e)
theorem v_need_name (X : K.In h) (G : h.Ns mainGlobals mg) (c : He.SaysD fa fn K) (e : ex K = true) : FO P w K mg base 6 "need_name" [(.str [110, 97, 109, 101])] (SpP K 2 φ_need_name) :=
  w_need_name (f_need_name X G c) (v_is_name X G c e) (v_name_at X G c e)
theorem v_need_endless (X : K.In h) (G : h.Ns mainGlobals mg) (c : He.SaysD fa fn K) (e : ex K = true) : FO P w K mg base 5 "need_endless" [] (SpP K 2 φ_need_endless) :=
  w_need_endless (f_need_endless X G c) (v_is_path X G c e) (v_shortened_in X G c e) (v_path_at X G c e) (fr_len X G c)
theorem v_name_of (X : K.In h) (G : h.Ns mainGlobals mg) (c : He.SaysD fa fn K) (e : ex K = true) : FO P w K mg base 4 "name_of" [] (SpP K 1 φ_name_of) :=
  w_name_of (f_name_of X G c) (v_is_slant X G c e) (v_name_in X G c e) (fr_tuple X G c)
theorem v_way_of (X : K.In h) (G : h.Ns mainGlobals mg) (c : He.SaysD fa fn K) (e : ex K = true) : FO P w K mg base 7 "way_of" [] (SpP K 1 φ_way_of) :=
  w_way_of (f_way_of X G c) (v_need_name X G c e) (v_slant_by X G c e) (fr_len X G c) (fr_max X G c) (fr_int X G c) (cc_MOST_TOLD X G c) (cc_MOST_NUMBER X G c)
theorem v_shortened (X : K.In h) (G : h.Ns mainGlobals mg) (c : He.SaysD fa fn K) (e : ex K = true) : FO P w K mg base 6 "shortened" [] (SpP K 2 φ_shortened) :=
  w_shortened (f_shortened X G c) (v_need_endless X G c e)
theorem v_limit_of (X : K.In h) (G : h.Ns mainGlobals mg) (c : He.SaysD fa fn K) (e : ex K = true) : FO P w K mg base 6 "limit_of" [] (SpP K 2 φ_limit_of) :=
  w_limit_of (f_limit_of X G c) (v_need_endless X G c e) (v_side_name X G c e) (v_letters_in X G c e) (v_equation_of X G c e) (v_common X G c e) (v_is_beyond_in X G c e) (v_path_in X G c e) (fr_len X G c) (cc_SLANT X G c) (cc_MOST_LETTERS X G c) (cc_ROOT X G c)
theorem v_is_beyond (X : K.In h) (G : h.Ns mainGlobals mg) (c : He.SaysD fa fn K) (e : ex K = true) : FO P w K mg base 7 "is_beyond" [] (SpP K 3 φ_is_beyond) :=
  w_is_beyond (f_is_beyond X G c) (v_need_name X G c e) (v_need_endless X G c e) (v_is_beyond_in X G c e)
theorem v__law_pen (X : K.In h) (G : h.Ns mainGlobals mg) (c : He.SaysD fa fn K) (e : ex K = true) : FO P w K mg base 1 "_law_pen" [] (SpP K 1 φ__law_pen) :=
  w__law_pen (f__law_pen X G c) (fr_int X G c)
theorem v__law_draw (X : K.In h) (G : h.Ns mainGlobals mg) (c : He.SaysD fa fn K) (e : ex K = true) : FO P w K mg base 1 "_law_draw" [] (SpI K 2 φ__law_draw) :=
  w__law_draw (f__law_draw X G c) (fr_int X G c) (fr_len X G c) (fr_abs X G c)
theorem v__law_pick (X : K.In h) (G : h.Ns mainGlobals mg) (c : He.SaysD fa fn K) (e : ex K = true) : FO P w K mg base 2 "_law_pick" [] (SpI K 2 φ__law_pick) :=
  w__law_pick (f__law_pick X G c) (v__law_draw X G c e) (fr_len X G c)
theorem v__law_common (X : K.In h) (G : h.Ns mainGlobals mg) (c : He.SaysD fa fn K) (e : ex K = true) : FO P w K mg base 1 "_law_common" [] (SpP K 2 φ__law_common) :=
  w__law_common (f__law_common X G c) (fr_int X G c)
theorem v__law_low (X : K.In h) (G : h.Ns mainGlobals mg) (c : He.SaysD fa fn K) (e : ex K = true) : FO P w K mg base 2 "_law_low" [] (SpP K 2 φ__law_low) :=
  w__law_low (f__law_low X G c) (v__law_common X G c e) (fr_int X G c)
theorem v__law_slant (X : K.In h) (G : h.Ns mainGlobals mg) (c : He.SaysD fa fn K) (e : ex K = true) : FO P w K mg base 3 "_law_slant" [] (SpI K 2 φ__law_slant) :=
  w__law_slant (f__law_slant X G c) (v__law_draw X G c e) (v__law_low X G c e) (fr_range X G c)
theorem v__law_back (X : K.In h) (G : h.Ns mainGlobals mg) (c : He.SaysD fa fn K) (e : ex K = true) : FO P w K mg base 1 "_law_back" [] (SpP K 1 φ__law_back) :=
  w__law_back (f__law_back X G c)
theorem v__law_name (X : K.In h) (G : h.Ns mainGlobals mg) (c : He.SaysD fa fn K) (e : ex K = true) : FO P w K mg base 1 "_law_name" [] (SpP K 1 φ__law_name) :=
  w__law_name (f__law_name X G c) (fr_tuple X G c)
theorem v__law_letters (X : K.In h) (G : h.Ns mainGlobals mg) (c : He.SaysD fa fn K) (e : ex K = true) : FO P w K mg base 1 "_law_letters" [] (SpP K 1 φ__law_letters) :=
  w__law_letters (f__law_letters X G c)
theorem v__law_text (X : K.In h) (G : h.Ns mainGlobals mg) (c : He.SaysD fa fn K) (e : ex K = true) : FO P w K mg base 3 "_law_text" [] (SpI K 2 φ__law_text) :=
  w__law_text (f__law_text X G c) (v__law_draw X G c e) (v__law_pick X G c e) (fr_range X G c)
theorem v__law_above (X : K.In h) (G : h.Ns mainGlobals mg) (c : He.SaysD fa fn K) (e : ex K = true) : FO P w K mg base 1 "_law_above" [] (SpP K 2 φ__law_above) :=
  w__law_above (f__law_above X G c)
theorem v__law_begin (X : K.In h) (G : h.Ns mainGlobals mg) (c : He.SaysD fa fn K) (e : ex K = true) : FO P w K mg base 2 "_law_begin" [] (SpP K 3 φ__law_begin) :=
  w__law_begin (f__law_begin X G c) (v__law_letters X G c e) (fr_len X G c)
theorem v__law_coprime (X : K.In h) (G : h.Ns mainGlobals mg) (c : He.SaysD fa fn K) (e : ex K = true) : FO P w K mg base 2 "_law_coprime" [] (SpP K 1 φ__law_coprime) :=
  w__law_coprime (f__law_coprime X G c) (v__law_common X G c e) (fr_abs X G c) (fr_tuple X G c) (fr_int X G c)
theorem v__law_ahead (X : K.In h) (G : h.Ns mainGlobals mg) (c : He.SaysD fa fn K) (e : ex K = true) : FO P w K mg base 3 "_law_ahead" [] (SpP K 2 φ__law_ahead) :=
  w__law_ahead (f__law_ahead X G c) (v__law_coprime X G c e)
theorem v__law_is_above_root (X : K.In h) (G : h.Ns mainGlobals mg) (c : He.SaysD fa fn K) (e : ex K = true) : FO P w K mg base 1 "_law_is_above_root" [] (SpP K 3 φ__law_is_above_root) :=
  w__law_is_above_root (f__law_is_above_root X G c)
theorem v__law_is_square (X : K.In h) (G : h.Ns mainGlobals mg) (c : He.SaysD fa fn K) (e : ex K = true) : FO P w K mg base 1 "_law_is_square" [] (SpP K 1 φ__law_is_square) :=
  w__law_is_square (f__law_is_square X G c) (fr_int X G c)
theorem v_law {f : Addr} {fd : FuncData} (F : FunD K "law" "law" (defArgs s_law) (defBody s_law) (defScope s_law) [] [] f fd) (X : K.In h) (G : h.Ns mainGlobals mg) (c : He.SaysD fa fn K) (e : ex K = true) : FnOk P w K mg base CX0 8 f fd ["script"] (SpP K 1 φ_law) :=
  fn_P F sc_law (d_law (v__law_pen X G c e) (v__law_text X G c e) (v__law_pick X G c e) (v_limit_of X G c e) (v__law_name X G c e) (v_shortened X G c e) (v__law_begin X G c e) (v__law_draw X G c e) (v__law_back X G c e) (v__law_slant X G c e) (v_name_of X G c e) (v_is_beyond X G c e) (v__law_above X G c e) (v_way_of X G c e) (v__law_is_above_root X G c e) (v__law_coprime X G c e) (v__law_is_square X G c e) (v__law_ahead X G c e) (fr_range X G c) (fr_len X G c) f)
theorem all {f : Addr} (X : K.In h) (G : h.Ns mainGlobals mg) (hfa : mg ("law" : Str) = some (.ref f)) (c : He.SaysD fa fn K) (e : ex K = true) :
    ∃ fd : FuncData, (∀ (s : Shared) (v : Value), BindsTo s fd ⟨[v], []⟩ [("script", v)]) ∧ ∀ base : Heap, K.In base → base.Ns mainGlobals mg → FnOk P w K mg base CX0 8 f fd ["script"] (SpP K 1 φ_law) := by
  obtain ⟨f', fd, h1, F⟩ := f_law X G c
  have e1 := hfa.symm.trans h1
  cases e1
  have b := FunD.bindsA (ps := ["script"]) F fun _ _ _ _ _ _ us hl => match us, hl with | [_], _ => rfl
  exact ⟨fd, fun s v => b s [v] rfl, fun base _ _ => v_law F X G c e⟩
end
end W
end

section
set_option Elab.async false
namespace DL
open PySem L2 StX
theorem ints_rp {K : PySem.W.Frag} {H : Hp} : ∀ ns : List Int, RpA K H (ns.map .int) (ns.map .int)
  | [] => .nil
  | i :: ns => .cons (.int i) (ints_rp ns)
end DL
end

section
set_option Elab.async false
set_option linter.all false
set_option maxRecDepth 100000
set_option maxHeartbeats 0
open PySem PySem.W PySem.Calls PyProof.Rows
theorem PySem.Challenge.cw_whichways_k60_whole_limits_are_roots_of_holds : PySem.Challenge.rw_whichways_k60_whole_limits_are_roots_of.Holds := by
  w_on; o_law
  refine HandSHeadRun.head_any (r := OpenLaw.row PySem.Challenge.rw_whichways_k60_whole_limits_are_roots_of) (q := view (OpenLaw.row PySem.Challenge.rw_whichways_k60_whole_limits_are_roots_of).prog [75]) (H := W.hk) (ob := W.ob) (M := 6000) (loose := W.loose) (d := HandSHeadRun.topDef (OpenLaw.row PySem.Challenge.rw_whichways_k60_whole_limits_are_roots_of).prog 75) (kwd := []) W.ob_eq
    (by kernel_rfl) (fun s => by kernel_rfl) W.run (by kernel_rfl) (by kernel_rfl) (by kernel_rfl) (by rfl) (by first | assumption | decide +kernel) (by decide +kernel) ⟨rfl, rfl, rfl, rfl, rfl, by decide +kernel⟩ ?hw ?hc
  case hw => w_witness2
  case hc =>
    refine L2.walk_ofE (l := PySem.Challenge.rw_whichways_k60_whole_limits_are_roots_of) (n := 63) (k := 8) (x := "script") (CX := L2.CX0) rfl (by decide) (by kernel_rfl) ⟨rfl, by decide, by decide⟩ ?F (fun _ _ _ _ z => z)
    intro w mg fa h Y G hmg0
    obtain ⟨K, KX, c, e⟩ := Y
    have hmg : mg ("law" : PySem.Str) = some (.ref fa) := by
      have e : (HandSHeadRun.topDef (OpenLaw.row PySem.Challenge.rw_whichways_k60_whole_limits_are_roots_of).prog 75).name = ("law" : PySem.Str) := by kernel_rfl
      rw [← e]
      exact hmg0
    obtain ⟨fd, hb, hF⟩ := W.all (P := (PySem.Challenge.rw_whichways_k60_whole_limits_are_roots_of).prog) (w := w) KX G hmg c e
    refine ⟨K, fd, DL.SpP K 1 W.φ_law, KX, hb, fun H a ns hl _ hS => ⟨H, [.fls (ns.map .int)], .val (.bl true), [], DL.Le.refl _, rfl, .cons (.fls hS (DL.ints_rp ns)) .nil, W.law_true ns hl, fun v H' Hf' _ _ _ _ r => ?_⟩, hF⟩
    cases r
    rfl
end
