import PyProof.Rows.All
import Wide.All
import OpenK.AllK
import Wide.FinOn
import HandS.ForMost
import HandS.ForExc
import HandS.ExcInit
import HandS.IsInst
import KE.KSuper
import HandS.ClsMeth
import PySem.Challenge.RW_alwaysso_k00_errors_and_papers_kept
import KE.KTypeName
import HandS.Text
import HandS.Conv
import HandS.MakeKwOnly
import HandS.SlotsOwn
import PyProof.InstNe
import HandS.Style
import HandS.TupAny
import HandS.Star
import KE.SortData
import HandS.Dict
import PyProof.ReprRoads
import HandS.Zip
import HandS.ExcSuper
import HandS.MakeKw
import HandS.ExcOwn
import HandS.ExcField
import HandS.ExcValue
import KE.KExcIs
import KE.KEqNest
import PyProof.ReprLen
import PyProof.FitsInt
set_option Elab.async false
set_option linter.all false
set_option maxRecDepth 100000
-- part DL1
set_option maxHeartbeats 4000000
/-! a layer of values as trees over the readings of the hand layer -/
namespace DL
open PySem L2

/-! ### values as trees -/
inductive D where
  | non | bl (b : Bool) | int (i : Int) | str (x : Str)
  | lst (xs : List D) | tup (xs : List D)
  | obj (c : Str) (ns : List Str) (ds : List D)
  /-- an exception of an own class below ValueError, its attributes -/
  | exc (C : Addr) (ns : List Str) (ds : List D)
  /-- a dict whose keys are ints and texts | tuples of such -/
  | dik (ks : List Key) (vs : List D)
  | dic (ks : List (List Key)) (vs : List D)
  | opq (v : V)
  | well

structure Wd where
  K : PySem.W.Frag
  cls : Str → Option Addr
  /-- what draws, if there is such a list -/
  pw : Option Addr

def keyD : Key → D
  | .inl i => .int i
  | .inr x => .str x
def keyT (ks : List Key) : D := .tup (ks.map keyD)

mutual
def Den (W : Wd) (F : Hp) : D → V → Prop
  | .non, v => v = .non
  | .bl b, v => v = .bl b
  | .int i, v => v = .int i
  | .str x, v => v = .str x
  | .lst ds, v => ∃ a xs, v = .ref a ∧ SqL W.K F a xs ∧ DenL W F ds xs
  | .tup ds, v => ∃ a xs, v = .ref a ∧ F a = some (.tup xs) ∧ DenL W F ds xs
  | .obj c ns ds, v => ∃ a C dx gs, v = .ref a ∧ F a = some (.ins C dx gs) ∧ W.cls c = some C ∧ gs.map (·.1) = ns ∧ DenL W F ds (gs.map (·.2))
  | .exc C ns ds, v => ∃ a gs, v = .ref a ∧ ((F a = some (exo a C none) ∧ gs = []) ∨ ∃ dx, F a = some (exo a C (some dx)) ∧ F dx = some (exd dx gs)) ∧ gs.map (·.1) = ns ∧ DenL W F ds (gs.map (·.2))
  | .dik ks vs, v => ∃ (a : Addr) (kvs : List (Key × V)), v = .ref a ∧ F a = some (.dK kvs) ∧ kvs.map (·.1) = ks ∧ DenL W F vs (kvs.map (·.2))
  | .dic ks vs, v => ∃ (a : Addr) (kvs : List (List Key × V)), v = .ref a ∧ F a = some (.dT kvs) ∧ kvs.map (·.1) = ks ∧ DenL W F vs (kvs.map (·.2))
  | .opq u, v => v = u
  | .well, v => ∃ p, W.pw = some p ∧ v = .ref p
def DenL (W : Wd) (F : Hp) : List D → List V → Prop
  | [], xs => xs = []
  | d :: ds, xs => ∃ x r, xs = x :: r ∧ Den W F d x ∧ DenL W F ds r
end

theorem same_sqL {K : PySem.W.Frag} {F F' : Hp} {a : Addr} {xs : List V} (e : Same F F') (h : SqL K F a xs) : SqL K F' a xs := e.seq h
theorem sqT_of {K : PySem.W.Frag} {F F' : Hp} {a : Addr} {xs : List V} (e : Same F F') (h : F a = some (.tup xs)) : SqT K F' a xs := .inl (.inl (e _ _ h))
theorem same_sqT {K : PySem.W.Frag} {F F' : Hp} {a : Addr} {xs : List V} (e : Same F F') (h : SqT K F a xs) : SqT K F' a xs := by
  rcases h with (h | ⟨o, h⟩) | h
  · exact .inl (.inl (e _ _ h))
  · exact .inl (.inr ⟨o, e _ _ h⟩)
  · exact .inr h
mutual
theorem Den.mono {W : Wd} {F F' : Hp} (e : Same F F') : ∀ {d : D} {v : V}, Den W F d v → Den W F' d v
  | .non, _, h => h
  | .bl _, _, h => h
  | .int _, _, h => h
  | .str _, _, h => h
  | .lst ds, _, ⟨a, xs, ev, hs, hd⟩ => ⟨a, xs, ev, same_sqL e hs, DenL.mono e hd⟩
  | .tup ds, _, ⟨a, xs, ev, hs, hd⟩ => ⟨a, xs, ev, e _ _ hs, DenL.mono e hd⟩
  | .obj c ns ds, _, ⟨a, C, dx, gs, ev, hf, hc, hn, hd⟩ => ⟨a, C, dx, gs, ev, e _ _ hf, hc, hn, DenL.mono e hd⟩
  | .exc C ns ds, _, ⟨a, gs, ev, hf, hn, hd⟩ => ⟨a, gs, ev, hf.elim (fun h => .inl ⟨e _ _ h.1, h.2⟩) (fun ⟨dx, h1, h2⟩ => .inr ⟨dx, e _ _ h1, e _ _ h2⟩), hn, DenL.mono e hd⟩
  | .dik ks vs, _, ⟨a, kvs, ev, hf, hn, hd⟩ => ⟨a, kvs, ev, e _ _ hf, hn, DenL.mono e hd⟩
  | .dic ks vs, _, ⟨a, kvs, ev, hf, hn, hd⟩ => ⟨a, kvs, ev, e _ _ hf, hn, DenL.mono e hd⟩
  | .opq _, _, h => h
  | .well, _, h => h
theorem DenL.mono {W : Wd} {F F' : Hp} (e : Same F F') : ∀ {ds : List D} {xs : List V}, DenL W F ds xs → DenL W F' ds xs
  | [], _, h => h
  | _ :: _, _, ⟨x, r, ev, h1, h2⟩ => ⟨x, r, ev, Den.mono e h1, DenL.mono e h2⟩
end
theorem DenL.nil {W : Wd} {F : Hp} : DenL W F [] [] := rfl
theorem DenL.cons {W : Wd} {F : Hp} {d : D} {ds : List D} {x : V} {xs : List V} (h : Den W F d x) (t : DenL W F ds xs) : DenL W F (d :: ds) (x :: xs) := ⟨x, xs, rfl, h, t⟩
theorem DenL.length {W : Wd} {F : Hp} : ∀ {ds : List D} {xs : List V}, DenL W F ds xs → ds.length = xs.length
  | [], _, h => by cases h; rfl
  | _ :: ds, _, ⟨x, r, ev, _, h2⟩ => by subst ev; rw [List.length_cons, List.length_cons, DenL.length h2]
theorem DenL.append {W : Wd} {F : Hp} : ∀ {ds es : List D} {xs ys : List V}, DenL W F ds xs → DenL W F es ys → DenL W F (ds ++ es) (xs ++ ys)
  | [], _, _, _, h, t => by cases h; exact t
  | _ :: ds, _, _, _, ⟨x, r, ev, h1, h2⟩, t => by subst ev; exact ⟨x, _, rfl, h1, DenL.append h2 t⟩
theorem DenL.get {W : Wd} {F : Hp} : ∀ {ds : List D} {xs : List V} {i : Nat} {d : D}, DenL W F ds xs → ds[i]? = some d → ∃ x, xs[i]? = some x ∧ Den W F d x
  | _ :: _, _, 0, d, ⟨x, r, ev, h1, _⟩, e => by subst ev; cases e; exact ⟨x, rfl, h1⟩
  | _ :: ds, _, i + 1, d, ⟨x, r, ev, _, h2⟩, e => by
    subst ev
    obtain ⟨y, hy, hd⟩ := DenL.get (i := i) (d := d) h2 (by simpa using e)
    exact ⟨y, by simpa using hy, hd⟩
theorem DenL.getV {W : Wd} {F : Hp} {ds : List D} {xs : List V} {i : Nat} {x : V} (h : DenL W F ds xs) (e : xs[i]? = some x) : ∃ d, ds[i]? = some d ∧ Den W F d x := by
  have hl := h.length
  obtain ⟨hi, _⟩ := List.getElem?_eq_some_iff.mp e
  have hd : ds[i]? = some (ds[i]'(by omega)) := List.getElem?_eq_getElem _
  obtain ⟨y, hy, hdy⟩ := h.get hd
  rw [e] at hy; cases hy
  exact ⟨_, hd, hdy⟩
theorem DenL.split {W : Wd} {F : Hp} : ∀ {ds es : List D} {xs : List V}, DenL W F (ds ++ es) xs → ∃ x1 x2, xs = x1 ++ x2 ∧ DenL W F ds x1 ∧ DenL W F es x2
  | [], _, xs, h => ⟨[], xs, rfl, rfl, h⟩
  | _ :: ds, _, _, ⟨x, r, ev, h1, h2⟩ => by
    subst ev
    obtain ⟨x1, x2, e, a, b⟩ := DenL.split (ds := ds) h2
    exact ⟨x :: x1, x2, by rw [e]; rfl, ⟨x, x1, rfl, h1, a⟩, b⟩
theorem DenL.take {W : Wd} {F : Hp} : ∀ {ds : List D} {xs : List V} (n : Nat), DenL W F ds xs → DenL W F (ds.take n) (xs.take n)
  | _, _, 0, _ => rfl
  | [], _, _ + 1, h => by cases h; rfl
  | _ :: _, _, n + 1, ⟨x, r, ev, h1, h2⟩ => by subst ev; exact ⟨x, r.take n, rfl, h1, DenL.take n h2⟩
theorem DenL.drop {W : Wd} {F : Hp} : ∀ {ds : List D} {xs : List V} (n : Nat), DenL W F ds xs → DenL W F (ds.drop n) (xs.drop n)
  | _, _, 0, h => h
  | [], _, _ + 1, h => by cases h; rfl
  | _ :: _, _, n + 1, ⟨x, r, ev, h1, h2⟩ => by subst ev; exact DenL.drop n h2
theorem DenL.set {W : Wd} {F : Hp} {d : D} {x : V} (h : Den W F d x) : ∀ {ds : List D} {xs : List V} (n : Nat), DenL W F ds xs → DenL W F (ds.set n d) (xs.set n x)
  | [], _, _, t => by cases t; rfl
  | _ :: _, _, 0, ⟨y, r, ev, h1, h2⟩ => by subst ev; exact ⟨x, r, rfl, h, h2⟩
  | _ :: _, _, n + 1, ⟨y, r, ev, h1, h2⟩ => by subst ev; exact ⟨y, _, rfl, h1, DenL.set h n h2⟩
theorem denL_ints {W : Wd} {F : Hp} : ∀ (ns : List Int), DenL W F (ns.map D.int) (ns.map V.int)
  | [] => rfl
  | n :: ns => ⟨_, _, rfl, rfl, denL_ints ns⟩
theorem denL_ints_inv {W : Wd} {F : Hp} : ∀ {ns : List Int} {xs : List V}, DenL W F (ns.map D.int) xs → xs = ns.map V.int
  | [], _, h => h
  | n :: ns, _, ⟨x, r, ev, h1, h2⟩ => by
    have h1 : x = .int n := h1
    rw [ev, h1, denL_ints_inv h2]; rfl

/-- an object of one's own: its content stands in H, what is in it is frozen in F -/
def OwnAt (W : Wd) (F H : Hp) (p : Addr) : D → Prop
  | .lst ds => ∃ xs, H p = some (.lst xs) ∧ DenL W F ds xs
  | .obj c ns ds => ∃ C dx gs, H p = some (.ins C dx gs) ∧ W.cls c = some C ∧ gs.map (·.1) = ns ∧ DenL W F ds (gs.map (·.2))
  | .dik ks vs => ∃ kvs : List (Key × V), H p = some (.dK kvs) ∧ kvs.map (·.1) = ks ∧ DenL W F vs (kvs.map (·.2))
  | .dic ks vs => ∃ kvs : List (List Key × V), H p = some (.dT kvs) ∧ kvs.map (·.1) = ks ∧ DenL W F vs (kvs.map (·.2))
  | _ => False
theorem OwnAt.ne {W : Wd} {F H : Hp} {p : Addr} : ∀ {d : D}, OwnAt W F H p d → ∃ o, H p = some o
  | .lst _, ⟨_, h, _⟩ => ⟨_, h⟩
  | .obj _ _ _, ⟨_, _, _, h, _⟩ => ⟨_, h⟩
  | .dik _ _, ⟨_, h, _⟩ => ⟨_, h⟩
  | .dic _ _, ⟨_, h, _⟩ => ⟨_, h⟩
theorem OwnAt.mono {W : Wd} {F F' H H' : Hp} {p : Addr} (e : Same F F') (hp : H' p = H p) : ∀ {d : D}, OwnAt W F H p d → OwnAt W F' H' p d
  | .lst _, ⟨_, h, k⟩ => ⟨_, hp.trans h, DenL.mono e k⟩
  | .obj _ _ _, ⟨_, _, _, h, c, n, k⟩ => ⟨_, _, _, hp.trans h, c, n, DenL.mono e k⟩
  | .dik _ _, ⟨_, h, n, k⟩ => ⟨_, hp.trans h, n, DenL.mono e k⟩
  | .dic _ _, ⟨_, h, n, k⟩ => ⟨_, hp.trans h, n, DenL.mono e k⟩
/-- given up: it is frozen as it stands -/
theorem OwnAt.freeze {W : Wd} {F F' H : Hp} {p : Addr} (e : Same F F') (hp : F' p = H p) : ∀ {d : D}, OwnAt W F H p d → Den W F' d (.ref p)
  | .lst _, ⟨_, h, k⟩ => ⟨p, _, rfl, .inl (.inl (hp.trans h)), DenL.mono e k⟩
  | .obj _ _ _, ⟨_, _, _, h, c, n, k⟩ => ⟨p, _, _, _, rfl, hp.trans h, c, n, DenL.mono e k⟩
  | .dik _ _, ⟨_, h, n, k⟩ => ⟨p, _, rfl, hp.trans h, n, DenL.mono e k⟩
  | .dic _ _, ⟨_, h, n, k⟩ => ⟨p, _, rfl, hp.trans h, n, DenL.mono e k⟩

/-- something stands there that is no tuple -/
def nt (x : Option HO) : Prop := x ≠ none ∧ ∀ xs, x ≠ some (.tup xs)
theorem nt_of {x : Option HO} {o : HO} (h : x = some o) (n : ∀ xs, o ≠ .tup xs) : nt x := ⟨(by rw [h]; exact fun q => nomatch q), fun xs z => n xs (Option.some.inj (h.symm.trans z))⟩
theorem nt_eq {x y : Option HO} (h : nt x) (e : ∀ o, x = some o → y = some o) : nt y := by
  cases q : x with
  | none => exact absurd q h.1
  | some o => exact nt_of (e o q) fun xs z => h.2 xs (by rw [q, z])
theorem OwnAt.nt {W : Wd} {F H : Hp} {p : Addr} : ∀ {d : D}, OwnAt W F H p d → nt (H p)
  | .lst _, ⟨_, h, _⟩ => nt_of h fun _ z => nomatch z
  | .obj _ _ _, ⟨_, _, _, h, _⟩ => nt_of h fun _ z => nomatch z
  | .dik _ _, ⟨_, h, _⟩ => nt_of h fun _ z => nomatch z
  | .dic _ _, ⟨_, h, _⟩ => nt_of h fun _ z => nomatch z
/-! ### the state -/
inductive Sl where
  | un | v (d : D) | o (d : D)
structure Ev where
  sl : List Sl
  c : Nat
def Ev.set (ρ : Ev) (i : Nat) (s : Sl) : Ev := ⟨ρ.sl.set i s, ρ.c⟩
def Ev.cnt (ρ : Ev) (c : Nat) : Ev := ⟨ρ.sl, c⟩

structure Bs where
  F0 : Hp
  H0 : Hp
  io : List Addr
  /-- objects of one's own that no slot holds (a comprehension's list) -/
  hid : List (Addr × D)

def SlOk (W : Wd) (B : Bs) (F H : Hp) (x : Option (Option V)) : Sl → Prop
  | .un => True
  | .v d => ∃ u, x = some (some u) ∧ Den W F d u
  | .o d => ∃ p, x = some (some (.ref p)) ∧ F p = none ∧ (B.H0 p = none ∨ p ∈ B.io) ∧ W.pw ≠ some p ∧ OwnAt W F H p d

def WellOk (W : Wd) (B : Bs) (F H : Hp) (c : Nat) : Prop :=
  match W.pw with
  | none => True
  | some p => F p = none ∧ p ∉ B.io ∧ ∃ (pc : Addr) (ns : List Int) (t r : Int), H p = some (.lst [.ref pc, .int t, .int r]) ∧ SqL W.K F pc (ns.map V.int) ∧ 0 ≤ t ∧ t ≤ (c : Int) ∧ 0 ≤ r ∧ ns.length ≤ 60

structure Rel (W : Wd) (B : Bs) (F H : Hp) (σ : St) (ρ : Ev) : Prop where
  ex : Same F H
  len : σ.length = ρ.sl.length
  sl : ∀ (i : Nat) (s : Sl), ρ.sl[i]? = some s → SlOk W B F H σ[i]? s
  inj : ∀ (i j : Nat) (d e : D) (p : Addr), ρ.sl[i]? = some (.o d) → ρ.sl[j]? = some (.o e) → σ[i]? = some (some (.ref p)) → σ[j]? = some (some (.ref p)) → i = j
  well : WellOk W B F H ρ.c
  keep : ∀ a o, B.H0 a = some o → W.pw ≠ some a → a ∉ B.io → H a = some o
  new : ∀ a, nt (B.H0 a) → B.F0 a = none → F a = none
  f0 : Same B.F0 F
  ioH : ∀ a ∈ B.io, nt (H a)
  hid : ∀ q ∈ B.hid, F q.1 = none ∧ B.H0 q.1 = none ∧ W.pw ≠ some q.1 ∧ OwnAt W F H q.1 q.2
  hap : ∀ q ∈ B.hid, ∀ (i : Nat) (e : D), ρ.sl[i]? = some (.o e) → σ[i]? ≠ some (some (.ref q.1))
  hnd : (B.hid.map (·.1)).Nodup

section
variable {W : Wd} {B : Bs} {F F' H H' : Hp} {σ : St} {ρ : Ev}
theorem WellOk.hp {c : Nat} (h : WellOk W B F H c) {p : Addr} (e : W.pw = some p) : H p ≠ none := by
  unfold WellOk at h
  rw [e] at h
  obtain ⟨_, _, _, _, _, _, h, _⟩ := h
  rw [h]; exact fun q => nomatch q
theorem WellOk.nt {c : Nat} (h : WellOk W B F H c) {p : Addr} (e : W.pw = some p) : DL.nt (H p) := by
  unfold WellOk at h
  rw [e] at h
  obtain ⟨_, _, _, _, _, _, h, _⟩ := h
  exact nt_of h fun _ z => nomatch z
theorem WellOk.fp {c : Nat} (h : WellOk W B F H c) {p : Addr} (e : W.pw = some p) : F p = none := by
  unfold WellOk at h
  rw [e] at h
  exact h.1
theorem WellOk.mono {c : Nat} (h : WellOk W B F H c) (e : Same F F') (hw : ∀ p, W.pw = some p → F' p = none ∧ H' p = H p) : WellOk W B F' H' c := by
  unfold WellOk at h ⊢
  cases hp : W.pw with
  | none => trivial
  | some p =>
    rw [hp] at h
    obtain ⟨h1, h2, pc, ns, t, r, h3, h4, h5⟩ := h
    obtain ⟨q1, q2⟩ := hw p hp
    exact ⟨q1, h2, pc, ns, t, r, q2.trans h3, same_sqL e h4, h5⟩
/-- an address that H does not know was not known at the entry -/
theorem Rel.fresh0 (R : Rel W B F H σ ρ) {p : Addr} (h : H p = none) : B.H0 p = none := by
  cases q : B.H0 p with
  | none => rfl
  | some o =>
    by_cases h1 : W.pw = some p
    · exact absurd h (R.well.hp h1)
    · by_cases h2 : p ∈ B.io
      · exact absurd h (R.ioH p h2).1
      · rw [R.keep p o q h1 h2] at h; cases h
theorem Rel.npw (R : Rel W B F H σ ρ) {p : Addr} (h : H p = none) : W.pw ≠ some p := fun e => R.well.hp e h
theorem Rel.fF (R : Rel W B F H σ ρ) {p : Addr} (h : H p = none) : F p = none := R.ex.free h

theorem Rel.ntH (R : Rel W B F H σ ρ) {a : Addr} (h : nt (B.H0 a)) : nt (H a) := by
  by_cases h1 : W.pw = some a
  · exact R.well.nt h1
  · by_cases h2 : a ∈ B.io
    · exact R.ioH a h2
    · exact nt_eq h fun o q => R.keep a o q h1 h2
/-- both heaps grow by new objects alone -/
structure Stp (F H F' H' : Hp) : Prop where
  ff : Same F F'
  hh : Same H H'
  fh : Same F' H'
  new : ∀ a, nt (H a) → F a = none → F' a = none
theorem Stp.refl (h : Same F H) : Stp F H F H := ⟨Same.refl _, Same.refl _, h, fun _ _ h => h⟩
theorem Stp.trans {F1 H1 F2 H2 : Hp} (a : Stp F H F1 H1) (b : Stp F1 H1 F2 H2) : Stp F H F2 H2 :=
  ⟨a.ff.trans b.ff, a.hh.trans b.hh, b.fh, fun p h1 h2 => b.new p (nt_eq h1 fun o q => a.hh _ _ q) (a.new p h1 h2)⟩
theorem same_upd {F : Hp} {p : Addr} {o : HO} (h : F p = none) : Same F (upd F p o) := fun b u e => by
  rw [upd_ne (ne_of_none e h)]; exact e
theorem same_upd2 {p : Addr} {o : HO} (e : Same F H) : Same (upd F p o) (upd H p o) := fun b u h => by
  by_cases hb : b = p
  · subst hb; rw [upd_same] at h ⊢; exact h
  · rw [upd_ne hb] at h ⊢; exact e _ _ h
theorem Stp.one {p : Addr} {o : HO} (e : Same F H) (h : H p = none) : Stp F H (upd F p o) (upd H p o) :=
  ⟨same_upd (e.free h), same_upd h, same_upd2 e, fun a h1 h2 => by
    have : a ≠ p := fun z => by subst z; exact h1.1 h
    rw [upd_ne this]; exact h2⟩
/-- an object that is laid but not frozen (an instance's own dict) -/
theorem Stp.lay {p : Addr} {o : HO} (e : Same F H) (h : H p = none) : Stp F H F (upd H p o) :=
  ⟨Same.refl _, same_upd h, e.trans (same_upd h), fun a _ h2 => h2⟩
theorem Rel.stp (R : Rel W B F H σ ρ) (s : Stp F H F' H') : Rel W B F' H' σ ρ := by
  have hne : ∀ {p : Addr} {o : HO}, H p = some o → H p ≠ none := fun h q => by rw [h] at q; cases q
  refine ⟨s.fh, R.len, fun i sl h => ?_, R.inj, ?_, fun a o h1 h2 h3 => s.hh _ _ (R.keep a o h1 h2 h3), fun a h1 h2 => ?_, R.f0.trans s.ff, fun a ha => ?_, fun q hq => ?_, R.hap, R.hnd⟩
  · have q := R.sl i sl h
    cases sl with
    | un => trivial
    | v d => obtain ⟨u, e, hd⟩ := q; exact ⟨u, e, hd.mono s.ff⟩
    | o d =>
      obtain ⟨p, e, fp, h0, hw, own⟩ := q
      obtain ⟨o, ho⟩ := own.ne
      exact ⟨p, e, s.new p own.nt fp, h0, hw, own.mono s.ff ((s.hh _ _ ho).trans ho.symm)⟩
  · refine R.well.mono s.ff fun p hp => ⟨s.new p (R.well.nt hp) (R.well.fp hp), ?_⟩
    cases q : H p with
    | none => exact absurd q (R.well.hp hp)
    | some o => exact s.hh _ _ q
  · exact s.new a (R.ntH h1) (R.new a h1 h2)
  · exact nt_eq (R.ioH a ha) fun o q => s.hh _ _ q
  · obtain ⟨h1, h2, h3, h4⟩ := R.hid q hq
    obtain ⟨o, ho⟩ := h4.ne
    exact ⟨s.new _ h4.nt h1, h2, h3, h4.mono s.ff ((s.hh _ _ ho).trans ho.symm)⟩
end
end DL

-- part DL2
set_option maxHeartbeats 4000000
namespace DL
open PySem L2

/-! ### readings over trees -/
abbrev DE := Ev → (Ev → D → Prop) → Prop
abbrev DT := Ev → (Ev → Bool → Prop) → Prop
abbrev DA := Ev → (Ev → List D → Prop) → Prop
abbrev DI := Ev → (Ev → List D → Prop) → Prop
abbrev DG := D → Ev → (Ev → Prop) → Prop
abbrev DGs := List D → Ev → (Ev → Prop) → Prop
structure DEnds where
  nx : Ev → Prop
  rt : Ev → D → Prop
  bk : Ev → Prop := fun _ => False
  ct : Ev → Prop := fun _ => False
abbrev DS := DEnds → Ev → Prop

structure Fits (W : Wd) (B : Bs) (F : Hp) (D : Ends) (DD : DEnds) : Prop where
  nx : ∀ σ H F' ρ, Rel W B F' H σ ρ → Same F F' → DD.nx ρ → D.nx σ H
  bk : ∀ σ H F' ρ, Rel W B F' H σ ρ → Same F F' → DD.bk ρ → D.bk σ H
  ct : ∀ σ H F' ρ, Rel W B F' H σ ρ → Same F F' → DD.ct ρ → D.ct σ H
  rt : ∀ σ H F' ρ d v, Rel W B F' H σ ρ → Same F F' → Den W F' d v → DD.rt ρ d → D.rt v H

def RE (W : Wd) (B : Bs) (te : TE) (t : DE) : Prop := ∀ (σ : St) (H F : Hp) (ρ : Ev) (Q : Ev → D → Prop) (R : VK), Rel W B F H σ ρ → t ρ Q →
  (∀ v H' F' ρ' d, Rel W B F' H' σ ρ' → Same F F' → Den W F' d v → Q ρ' d → R v H') → te σ H R
def RT (W : Wd) (B : Bs) (te : TT) (t : DT) : Prop := ∀ (σ : St) (H F : Hp) (ρ : Ev) (Q : Ev → Bool → Prop) (R : Bool → Hp → Prop), Rel W B F H σ ρ → t ρ Q →
  (∀ b H' F' ρ', Rel W B F' H' σ ρ' → Same F F' → Q ρ' b → R b H') → te σ H R
def RA (W : Wd) (B : Bs) (te : TA) (t : DA) : Prop := ∀ (σ : St) (H F : Hp) (ρ : Ev) (Q : Ev → List D → Prop) (R : List V → Hp → Prop), Rel W B F H σ ρ → t ρ Q →
  (∀ vs H' F' ρ' ds, Rel W B F' H' σ ρ' → Same F F' → DenL W F' ds vs → Q ρ' ds → R vs H') → te σ H R
/-- a new object of one's own -/
structure New (W : Wd) (B : Bs) (F H : Hp) (σ : St) (ρ : Ev) (p : Addr) (d : D) : Prop where
  own : OwnAt W F H p d
  fp : F p = none
  h0 : B.H0 p = none
  pw : W.pw ≠ some p
  ap : ∀ (i : Nat) (e : D), ρ.sl[i]? = some (.o e) → σ[i]? ≠ some (some (.ref p))
  nh : ∀ q ∈ B.hid, q.1 ≠ p
def RN (W : Wd) (B : Bs) (te : TE) (t : DE) : Prop := ∀ (σ : St) (H F : Hp) (ρ : Ev) (Q : Ev → D → Prop) (R : VK), Rel W B F H σ ρ → t ρ Q →
  (∀ p H' F' ρ' d, Rel W B F' H' σ ρ' → Same F F' → New W B F' H' σ ρ' p d → Q ρ' d → R (.ref p) H') → te σ H R
def RS (W : Wd) (B : Bs) (ts : TS) (t : DS) : Prop := ∀ (σ : St) (H F : Hp) (ρ : Ev) (D : Ends) (DD : DEnds), Rel W B F H σ ρ → t DD ρ → Fits W B F D DD → ts D σ H
/-- a target; is: the slots that it sets -/
def RG (W : Wd) (B : Bs) (tg : TG) (t : DG) (is : List Nat) : Prop := ∀ (σ : St) (H F : Hp) (ρ : Ev) (v : V) (d : D) (Q : Ev → Prop) (R : St → Hp → Prop), Rel W B F H σ ρ → Den W F d v → t d ρ Q →
  (∀ σ' ρ', Rel W B F H σ' ρ' → (∀ j, j ∉ is → σ'[j]? = σ[j]?) → σ'.length = σ.length → Q ρ' → R σ' H) → tg v σ H R
def RGs (W : Wd) (B : Bs) (tg : TGs) (t : DGs) (is : List Nat) : Prop := ∀ (σ : St) (H F : Hp) (ρ : Ev) (vs : List V) (ds : List D) (Q : Ev → Prop) (R : St → Hp → Prop), Rel W B F H σ ρ → DenL W F ds vs → t ds ρ Q →
  (∀ σ' ρ', Rel W B F H σ' ρ' → (∀ j, j ∉ is → σ'[j]? = σ[j]?) → σ'.length = σ.length → Q ρ' → R σ' H) → tg vs σ H R

section
variable {W : Wd} {B : Bs} {F F' H H' : Hp} {σ : St} {ρ : Ev}
theorem Fits.mono {D : Ends} {DD : DEnds} (f : Fits W B F D DD) (e : Same F F') : Fits W B F' D DD :=
  ⟨fun σ H F2 ρ r s => f.nx σ H F2 ρ r (e.trans s), fun σ H F2 ρ r s => f.bk σ H F2 ρ r (e.trans s), fun σ H F2 ρ r s => f.ct σ H F2 ρ r (e.trans s), fun σ H F2 ρ d v r s => f.rt σ H F2 ρ d v r (e.trans s)⟩

theorem set_get_self {α : Type} {l : List α} {i : Nat} {a b : α} (h : l[i]? = some b) : (l.set i a)[i]? = some a := by
  have hi := (List.getElem?_eq_some_iff.mp h).1
  rw [List.getElem?_set_self hi]
/-- a slot gets a frozen value -/
theorem Rel.setv (R : Rel W B F H σ ρ) {i : Nat} {d : D} {v : V} (h : Den W F d v) : Rel W B F H (σ.set i (some v)) (ρ.set i (.v d)) := by
  refine ⟨R.ex, by show (σ.set i (some v)).length = (ρ.sl.set i (.v d)).length; rw [List.length_set, List.length_set]; exact R.len, fun j s hj => ?_, fun j k x y p hj hk h1 h2 => ?_, R.well, R.keep, R.new, R.f0, R.ioH, R.hid, fun q hq j x hj h1 => ?_, R.hnd⟩
  · by_cases e : i = j
    · subst e
      have hi : i < ρ.sl.length := by
        have := (List.getElem?_eq_some_iff.mp hj).1
        simpa [Ev.set] using this
      have hs : s = .v d := by
        have : (ρ.sl.set i (.v d))[i]? = some s := hj
        rw [List.getElem?_set_self hi] at this; exact (Option.some.inj this).symm
      subst hs
      exact ⟨v, by rw [List.getElem?_set_self (by rw [R.len]; exact hi)], h⟩
    · have : ρ.sl[j]? = some s := by
        have q : (ρ.sl.set i (.v d))[j]? = some s := hj
        rwa [List.getElem?_set_ne e] at q
      rw [List.getElem?_set_ne e]
      exact R.sl j s this
  · have ne : ∀ {m : Nat} {z : D}, (ρ.set i (.v d)).sl[m]? = some (.o z) → i ≠ m ∧ ρ.sl[m]? = some (.o z) := fun {m z} q => by
      have q : (ρ.sl.set i (.v d))[m]? = some (.o z) := q
      by_cases e : i = m
      · subst e
        have hi : i < ρ.sl.length := by
          have := (List.getElem?_eq_some_iff.mp q).1
          simpa using this
        rw [List.getElem?_set_self hi] at q; cases q
      · rw [List.getElem?_set_ne e] at q; exact ⟨e, q⟩
    obtain ⟨n1, q1⟩ := ne hj
    obtain ⟨n2, q2⟩ := ne hk
    rw [List.getElem?_set_ne n1] at h1
    rw [List.getElem?_set_ne n2] at h2
    exact R.inj j k x y p q1 q2 h1 h2
  · have q : (ρ.sl.set i (.v d))[j]? = some (.o x) := hj
    by_cases e : i = j
    · subst e
      have hi : i < ρ.sl.length := by
        have := (List.getElem?_eq_some_iff.mp q).1
        simpa using this
      rw [List.getElem?_set_self hi] at q; cases q
    · rw [List.getElem?_set_ne e] at q
      rw [List.getElem?_set_ne e] at h1
      exact R.hap _ hq j x q h1
/-- a slot gets an object of one's own -/
theorem Rel.seto (R : Rel W B F H σ ρ) {i : Nat} {d : D} {p : Addr} (n : New W B F H σ ρ p d) : Rel W B F H (σ.set i (some (.ref p))) (ρ.set i (.o d)) := by
  refine ⟨R.ex, by show (σ.set i _).length = (ρ.sl.set i _).length; rw [List.length_set, List.length_set]; exact R.len, fun j s hj => ?_, fun j k x y q hj hk h1 h2 => ?_, R.well, R.keep, R.new, R.f0, R.ioH, R.hid, fun q hq j x hj h1 => ?_, R.hnd⟩
  · by_cases e : i = j
    · subst e
      have hi : i < ρ.sl.length := by
        have := (List.getElem?_eq_some_iff.mp hj).1
        simpa [Ev.set] using this
      have hs : s = .o d := by
        have : (ρ.sl.set i (.o d))[i]? = some s := hj
        rw [List.getElem?_set_self hi] at this; exact (Option.some.inj this).symm
      subst hs
      exact ⟨p, by rw [List.getElem?_set_self (by rw [R.len]; exact hi)], n.fp, .inl n.h0, n.pw, n.own⟩
    · have : ρ.sl[j]? = some s := by
        have q : (ρ.sl.set i (.o d))[j]? = some s := hj
        rwa [List.getElem?_set_ne e] at q
      rw [List.getElem?_set_ne e]
      exact R.sl j s this
  · have at_ : ∀ {m : Nat} {z : D}, (ρ.set i (.o d)).sl[m]? = some (.o z) → (i = m ∧ i < σ.length) ∨ (i ≠ m ∧ ρ.sl[m]? = some (.o z)) := fun {m z} t => by
      have t : (ρ.sl.set i (.o d))[m]? = some (.o z) := t
      by_cases e : i = m
      · subst e
        have hi : i < ρ.sl.length := by
          have := (List.getElem?_eq_some_iff.mp t).1
          simpa using this
        exact .inl ⟨rfl, by rw [R.len]; exact hi⟩
      · rw [List.getElem?_set_ne e] at t; exact .inr ⟨e, t⟩
    rcases at_ hj with ⟨e1, l1⟩ | ⟨n1, q1⟩ <;> rcases at_ hk with ⟨e2, l2⟩ | ⟨n2, q2⟩
    · exact e1.symm.trans e2
    · subst e1
      rw [List.getElem?_set_self l1] at h1
      rw [List.getElem?_set_ne n2] at h2
      cases h1
      exact absurd h2 (n.ap k y q2)
    · subst e2
      rw [List.getElem?_set_self l2] at h2
      rw [List.getElem?_set_ne n1] at h1
      cases h2
      exact absurd h1 (n.ap j x q1)
    · rw [List.getElem?_set_ne n1] at h1
      rw [List.getElem?_set_ne n2] at h2
      exact R.inj j k x y q q1 q2 h1 h2
  · have t : (ρ.sl.set i (.o d))[j]? = some (.o x) := hj
    by_cases e : i = j
    · subst e
      have hi : i < σ.length := by
        have := (List.getElem?_eq_some_iff.mp t).1
        rw [R.len]; simpa using this
      rw [List.getElem?_set_self hi] at h1
      cases h1
      exact n.nh q hq rfl
    · rw [List.getElem?_set_ne e] at t
      rw [List.getElem?_set_ne e] at h1
      exact R.hap _ hq j x t h1
/-- an own slot is frozen -/
theorem Rel.frz (R : Rel W B F H σ ρ) {i : Nat} {d : D} (h : ρ.sl[i]? = some (.o d)) (hio : B.io = []) :
    ∃ v F', σ[i]? = some (some v) ∧ Same F F' ∧ Den W F' d v ∧ Rel W B F' H σ (ρ.set i (.v d)) := by
  obtain ⟨p, e, fp, h0, hw, own⟩ := R.sl i _ h
  obtain ⟨o, ho⟩ := own.ne
  have h0 : B.H0 p = none := by
    rcases h0 with h0 | h0
    · exact h0
    · rw [hio] at h0; cases h0
  have sf : Same F (upd F p o) := same_upd fp
  have den : Den W (upd F p o) d (.ref p) := own.freeze sf (by rw [upd_same, ho])
  have hi : i < ρ.sl.length := (List.getElem?_eq_some_iff.mp h).1
  refine ⟨.ref p, upd F p o, e, sf, den, ⟨fun b u q => ?_, by show σ.length = (ρ.sl.set i _).length; rw [List.length_set]; exact R.len, fun j s hj => ?_, fun j k x y q hj hk h1 h2 => ?_, ?_, R.keep, fun a h1 h2 => ?_, R.f0.trans sf, R.ioH, fun q hq => ?_, fun q hq j x hj h1 => ?_, R.hnd⟩⟩
  · by_cases hb : b = p
    · subst hb; rw [upd_same] at q; cases q; exact ho
    · rw [upd_ne hb] at q; exact R.ex _ _ q
  · by_cases ei : i = j
    · subst ei
      have hs : s = .v d := by
        have t : (ρ.sl.set i (.v d))[i]? = some s := hj
        rw [List.getElem?_set_self hi] at t; exact (Option.some.inj t).symm
      subst hs
      exact ⟨_, e, den⟩
    · have hj' : ρ.sl[j]? = some s := by
        have t : (ρ.sl.set i (.v d))[j]? = some s := hj
        rwa [List.getElem?_set_ne ei] at t
      have q := R.sl j s hj'
      cases s with
      | un => trivial
      | v x => obtain ⟨u, e1, hd⟩ := q; exact ⟨u, e1, hd.mono sf⟩
      | o x =>
        obtain ⟨p2, e2, fp2, h02, hw2, own2⟩ := q
        have hne : p2 ≠ p := fun z => by
          subst z
          exact ei (R.inj i j d x p2 h hj' e e2)
        exact ⟨p2, e2, by rw [upd_ne hne]; exact fp2, h02, hw2, own2.mono sf rfl⟩
  · have ne : ∀ {m : Nat} {z : D}, (ρ.set i (.v d)).sl[m]? = some (.o z) → ρ.sl[m]? = some (.o z) := fun {m z} t => by
      have t : (ρ.sl.set i (.v d))[m]? = some (.o z) := t
      by_cases e : i = m
      · subst e
        rw [List.getElem?_set_self hi] at t; cases t
      · rwa [List.getElem?_set_ne e] at t
    exact R.inj j k x y q (ne hj) (ne hk) h1 h2
  · refine R.well.mono sf fun q hq => ⟨?_, rfl⟩
    have : q ≠ p := fun z => hw (by rw [hq, z])
    rw [upd_ne this]; exact R.well.fp hq
  · have : a ≠ p := fun z => by subst z; exact h1.1 h0
    rw [upd_ne this]; exact R.new a h1 h2
  · obtain ⟨h1, h2, h3, h4⟩ := R.hid q hq
    have hne : q.1 ≠ p := fun z => R.hap q hq i d h (by rw [z]; exact e)
    exact ⟨by rw [upd_ne hne]; exact h1, h2, h3, h4.mono sf rfl⟩
  · have t : (ρ.sl.set i (.v d))[j]? = some (.o x) := hj
    by_cases ee : i = j
    · subst ee
      rw [List.getElem?_set_self hi] at t; cases t
    · rw [List.getElem?_set_ne ee] at t
      exact R.hap q hq j x t h1
/-- the count of draws may be told greater -/
theorem Rel.cnt (R : Rel W B F H σ ρ) {c : Nat} (h : ρ.c ≤ c) : Rel W B F H σ (ρ.cnt c) :=
  ⟨R.ex, R.len, R.sl, R.inj, by
    have w := R.well
    unfold WellOk at w ⊢
    cases q : W.pw with
    | none => trivial
    | some p =>
      rw [q] at w
      obtain ⟨h1, h2, pc, ns, t, r, h3, h4, h5, h6, h7⟩ := w
      exact ⟨h1, h2, pc, ns, t, r, h3, h4, h5, by show t ≤ (c : Int); omega, h7⟩, R.keep, R.new, R.f0, R.ioH, R.hid, R.hap, R.hnd⟩
end

/-! ### expressions -/
section
variable {W : Wd} {B : Bs}
def dVar (i : Nat) : DE := fun ρ Q => match ρ.sl[i]? with
  | some (.v d) => Q ρ d
  | some (.o d) => Q (ρ.set i (.v d)) d
  | _ => False
theorem re_var {i : Nat} (hio : B.io = [] := by rfl) : RE W B (tVar i) (dVar i) := by
  intro σ H F ρ Q R r h k
  unfold dVar at h
  split at h
  · rename_i d e
    obtain ⟨u, hu, hd⟩ := r.sl i _ e
    exact ⟨u, hu, k u H F ρ d r (Same.refl _) hd h⟩
  · rename_i d e
    obtain ⟨v, F', hv, sf, den, r'⟩ := r.frz e hio
    exact ⟨v, hv, k v H F' _ d r' sf den h⟩
  · exact h.elim
/-- a name whose value is not of one's own -/
def dVal (i : Nat) : DE := fun ρ Q => match ρ.sl[i]? with
  | some (.v d) => Q ρ d
  | _ => False
theorem re_val {i : Nat} : RE W B (tVar i) (dVal i) := by
  intro σ H F ρ Q R r h k
  unfold dVal at h
  split at h
  · rename_i d e
    obtain ⟨u, hu, hd⟩ := r.sl i _ e
    exact ⟨u, hu, k u H F ρ d r (Same.refl _) hd h⟩
  · exact h.elim
def dC (d : D) : DE := fun ρ Q => Q ρ d
def vC : V → D
  | .non => .non | .bl b => .bl b | .int i => .int i | .str x => .str x | v => .opq v
theorem den_vC {F : Hp} : ∀ v : V, Den W F (vC v) v
  | .non => rfl | .bl _ => rfl | .int _ => rfl | .str _ => rfl | .byt _ => rfl | .flt _ => rfl | .ref _ => rfl | .ty _ => rfl
theorem re_c {v : V} : RE W B (tC v) (dC (vC v)) := fun σ H F ρ Q R r h k => k v H F ρ _ r (Same.refl _) (den_vC v) h

/-- two operands -/
theorem re_bin {ta tb : TE} {a b : DE} {r : R2} {g : D → D → Ev → (Ev → D → Prop) → Prop} (ra : RE W B ta a) (rb : RE W B tb b)
    (hr : ∀ σ H F ρ x y dx dy Q (R : VK), Rel W B F H σ ρ → Den W F dx x → Den W F dy y → g dx dy ρ Q →
      (∀ v H' F' ρ' d, Rel W B F' H' σ ρ' → Same F F' → Den W F' d v → Q ρ' d → R v H') → r x y H R) :
    RE W B (tOp r ta tb) (fun ρ Q => a ρ fun ρ1 x => b ρ1 fun ρ2 y => g x y ρ2 Q) := by
  intro σ H F ρ Q R rl h k
  refine ra σ H F ρ _ _ rl h fun x H1 F1 ρ1 dx r1 s1 d1 h1 => ?_
  refine rb σ H1 F1 ρ1 _ _ r1 h1 fun y H2 F2 ρ2 dy r2 s2 d2 h2 => ?_
  exact hr σ H2 F2 ρ2 x y dx dy Q R r2 (d1.mono s2) d2 h2 fun v H' F' ρ' d r' s' d' q => k v H' F' ρ' d r' ((s1.trans s2).trans s') d' q

def gI (C : Int → Int → Prop) (f : Int → Int → D) : D → D → Ev → (Ev → D → Prop) → Prop := fun x y ρ Q => match x, y with
  | .int i, .int j => C i j ∧ Q ρ (f i j)
  | _, _ => False
def gI0 (f : Int → Int → D) : D → D → Ev → (Ev → D → Prop) → Prop := fun x y ρ Q => match x, y with
  | .int i, .int j => Q ρ (f i j)
  | _, _ => False
theorem re_I {ta tb : TE} {a b : DE} {C : Int → Int → Prop} {f : Int → Int → V} (ra : RE W B ta a) (rb : RE W B tb b) :
    RE W B (tOp (rI C f) ta tb) (fun ρ Q => a ρ fun ρ1 x => b ρ1 fun ρ2 y => gI C (fun i j => vC (f i j)) x y ρ2 Q) :=
  re_bin ra rb fun σ H F ρ x y dx dy Q R r d1 d2 h k => by
    unfold gI at h
    split at h
    · rename_i i j
      have e1 : x = .int i := d1
      have e2 : y = .int j := d2
      exact ⟨i, j, e1, e2, h.1, k _ H F ρ _ r (Same.refl _) (den_vC _) h.2⟩
    · exact h.elim
theorem re_I0 {ta tb : TE} {a b : DE} {f : Int → Int → V} (ra : RE W B ta a) (rb : RE W B tb b) :
    RE W B (tOp (rI0 f) ta tb) (fun ρ Q => a ρ fun ρ1 x => b ρ1 fun ρ2 y => gI0 (fun i j => vC (f i j)) x y ρ2 Q) :=
  re_bin ra rb fun σ H F ρ x y dx dy Q R r d1 d2 h k => by
    unfold gI0 at h
    split at h
    · rename_i i j
      have e1 : x = .int i := d1
      have e2 : y = .int j := d2
      exact ⟨i, j, e1, e2, k _ H F ρ _ r (Same.refl _) (den_vC _) h⟩
    · exact h.elim
def gU (f : Int → D) : D → Ev → (Ev → D → Prop) → Prop := fun x ρ Q => match x with
  | .int i => Q ρ (f i)
  | _ => False
theorem re_U {ta : TE} {a : DE} {f : Int → V} (ra : RE W B ta a) : RE W B (tUn (rU f) ta) (fun ρ Q => a ρ fun ρ1 x => gU (fun i => vC (f i)) x ρ1 Q) := by
  intro σ H F ρ Q R rl h k
  refine ra σ H F ρ _ _ rl h fun x H1 F1 ρ1 dx r1 s1 d1 h1 => ?_
  unfold gU at h1
  split at h1
  · rename_i i
    have e1 : x = .int i := d1
    exact ⟨i, e1, k _ H1 F1 ρ1 _ r1 s1 (den_vC _) h1⟩
  · exact h1.elim

/-! ### tests -/
def dB (t : DE) : DT := fun ρ Q => t ρ fun ρ1 x => match x with
  | .bl b => Q ρ1 b
  | _ => False
theorem rt_B {te : TE} {t : DE} (h : RE W B te t) : RT W B (tB te) (dB t) := by
  intro σ H F ρ Q R rl hq k
  refine h σ H F ρ _ _ rl hq fun x H1 F1 ρ1 dx r1 s1 d1 h1 => ?_
  split at h1
  · rename_i b
    have e1 : x = .bl b := d1
    exact ⟨b, e1, k b H1 F1 ρ1 r1 s1 h1⟩
  · exact h1.elim
theorem rt_test {te : TE} {t : DE} (h : RE W B te t) : RT W B (tTest te) (dB t) := rt_B h
def dAnd (t u : DT) : DT := fun ρ Q => t ρ fun ρ1 b => match b with | true => u ρ1 Q | false => Q ρ1 false
def dOr (t u : DT) : DT := fun ρ Q => t ρ fun ρ1 b => match b with | true => Q ρ1 true | false => u ρ1 Q
def dNot (t : DT) : DT := fun ρ Q => t ρ fun ρ1 b => Q ρ1 (!b)
theorem rt_and {ta tb : TT} {a b : DT} (ra : RT W B ta a) (rb : RT W B tb b) : RT W B (tAnd ta tb) (dAnd a b) := by
  intro σ H F ρ Q R rl h k
  refine ra σ H F ρ _ _ rl h fun c H1 F1 ρ1 r1 s1 h1 => ?_
  cases c with
  | true => exact iteT (rb σ H1 F1 ρ1 _ _ r1 h1 fun d H2 F2 ρ2 r2 s2 h2 => k d H2 F2 ρ2 r2 (s1.trans s2) h2)
  | false => exact iteF (k false H1 F1 ρ1 r1 s1 h1)
theorem rt_or {ta tb : TT} {a b : DT} (ra : RT W B ta a) (rb : RT W B tb b) : RT W B (tOr ta tb) (dOr a b) := by
  intro σ H F ρ Q R rl h k
  refine ra σ H F ρ _ _ rl h fun c H1 F1 ρ1 r1 s1 h1 => ?_
  cases c with
  | false => exact iteF (rb σ H1 F1 ρ1 _ _ r1 h1 fun d H2 F2 ρ2 r2 s2 h2 => k d H2 F2 ρ2 r2 (s1.trans s2) h2)
  | true => exact iteT (k true H1 F1 ρ1 r1 s1 h1)
theorem rt_not {ta : TT} {a : DT} (ra : RT W B ta a) : RT W B (tNot ta) (dNot a) := by
  intro σ H F ρ Q R rl h k
  exact ra σ H F ρ _ _ rl h fun c H1 F1 ρ1 r1 s1 h1 => k _ H1 F1 ρ1 r1 s1 h1
def dAndV (t u : DE) : DE := fun ρ Q => t ρ fun ρ1 x => match x with | .bl true => u ρ1 Q | .bl false => Q ρ1 (.bl false) | _ => False
def dOrV (t u : DE) : DE := fun ρ Q => t ρ fun ρ1 x => match x with | .bl false => u ρ1 Q | .bl true => Q ρ1 (.bl true) | _ => False
def dNotV (t : DE) : DE := fun ρ Q => t ρ fun ρ1 x => match x with | .bl b => Q ρ1 (.bl (!b)) | _ => False
theorem re_andV {ta tb : TE} {a b : DE} (ra : RE W B ta a) (rb : RE W B tb b) : RE W B (tAndV ta tb) (dAndV a b) := by
  intro σ H F ρ Q R rl h k
  refine ra σ H F ρ _ _ rl h fun x H1 F1 ρ1 dx r1 s1 d1 h1 => ?_
  split at h1
  · exact ⟨true, d1, iteT (rb σ H1 F1 ρ1 _ _ r1 h1 fun v H2 F2 ρ2 d r2 s2 d2 h2 => k v H2 F2 ρ2 d r2 (s1.trans s2) d2 h2)⟩
  · exact ⟨false, d1, iteF (k _ H1 F1 ρ1 (.bl false) r1 s1 rfl h1)⟩
  · exact h1.elim
theorem re_orV {ta tb : TE} {a b : DE} (ra : RE W B ta a) (rb : RE W B tb b) : RE W B (tOrV ta tb) (dOrV a b) := by
  intro σ H F ρ Q R rl h k
  refine ra σ H F ρ _ _ rl h fun x H1 F1 ρ1 dx r1 s1 d1 h1 => ?_
  split at h1
  · exact ⟨false, d1, iteF (rb σ H1 F1 ρ1 _ _ r1 h1 fun v H2 F2 ρ2 d r2 s2 d2 h2 => k v H2 F2 ρ2 d r2 (s1.trans s2) d2 h2)⟩
  · exact ⟨true, d1, iteT (k _ H1 F1 ρ1 (.bl true) r1 s1 rfl h1)⟩
  · exact h1.elim
theorem re_notV {ta : TE} {a : DE} (ra : RE W B ta a) : RE W B (tNotV ta) (dNotV a) := by
  intro σ H F ρ Q R rl h k
  refine ra σ H F ρ _ _ rl h fun x H1 F1 ρ1 dx r1 s1 d1 h1 => ?_
  split at h1
  · rename_i b
    exact ⟨b, d1, k _ H1 F1 ρ1 (.bl (!b)) r1 s1 rfl h1⟩
  · exact h1.elim
def dIf (t : DT) (a b : DE) : DE := fun ρ Q => t ρ fun ρ1 c => match c with | true => a ρ1 Q | false => b ρ1 Q
theorem re_if {tc : TT} {ta tb : TE} {c : DT} {a b : DE} (rc : RT W B tc c) (ra : RE W B ta a) (rb : RE W B tb b) : RE W B (tIf tc ta tb) (dIf c a b) := by
  intro σ H F ρ Q R rl h k
  refine rc σ H F ρ _ _ rl h fun x H1 F1 ρ1 r1 s1 h1 => ?_
  cases x with
  | true => exact iteT (ra σ H1 F1 ρ1 _ _ r1 h1 fun v H2 F2 ρ2 d r2 s2 d2 h2 => k v H2 F2 ρ2 d r2 (s1.trans s2) d2 h2)
  | false => exact iteF (rb σ H1 F1 ρ1 _ _ r1 h1 fun v H2 F2 ρ2 d r2 s2 d2 h2 => k v H2 F2 ρ2 d r2 (s1.trans s2) d2 h2)

/-! ### arguments, displays -/
def dNil : DA := fun ρ Q => Q ρ []
def dCons (a : DE) (r : DA) : DA := fun ρ Q => a ρ fun ρ1 x => r ρ1 fun ρ2 xs => Q ρ2 (x :: xs)
theorem ra_nil : RA W B tNil dNil := fun σ H F ρ Q R r h k => k [] H F ρ [] r (Same.refl _) rfl h
theorem ra_cons {te : TE} {ta : TA} {a : DE} {b : DA} (ra : RE W B te a) (rb : RA W B ta b) : RA W B (tCons te ta) (dCons a b) := by
  intro σ H F ρ Q R rl h k
  refine ra σ H F ρ _ _ rl h fun x H1 F1 ρ1 dx r1 s1 d1 h1 => ?_
  exact rb σ H1 F1 ρ1 _ _ r1 h1 fun ys H2 F2 ρ2 ds r2 s2 d2 h2 => k _ H2 F2 ρ2 (dx :: ds) r2 (s1.trans s2) ⟨x, ys, rfl, d1.mono s2, d2⟩ h2
def dTup (a : DA) : DE := fun ρ Q => a ρ fun ρ1 ds => ds.length ≤ sizeLine ∧ Q ρ1 (.tup ds)
def dLst (a : DA) : DE := fun ρ Q => a ρ fun ρ1 ds => ds.length ≤ sizeLine ∧ Q ρ1 (.lst ds)
theorem re_tup {ta : TA} {a : DA} (ra : RA W B ta a) : RE W B (tTup ta) (dTup a) := by
  intro σ H F ρ Q R rl h k
  refine ra σ H F ρ _ _ rl h fun xs H1 F1 ρ1 ds r1 s1 d1 h1 => ?_
  refine ⟨by rw [← d1.length]; exact h1.1, fun p hp => ?_⟩
  have st := Stp.one (o := .tup xs) r1.ex hp
  exact k _ _ _ _ (.tup ds) (r1.stp st) (s1.trans st.ff) ⟨p, xs, rfl, upd_same, d1.mono st.ff⟩ h1.2
theorem re_lst {ta : TA} {a : DA} (ra : RA W B ta a) : RE W B (tLst ta) (dLst a) := by
  intro σ H F ρ Q R rl h k
  refine ra σ H F ρ _ _ rl h fun xs H1 F1 ρ1 ds r1 s1 d1 h1 => ?_
  refine ⟨by rw [← d1.length]; exact h1.1, fun p hp => ?_⟩
  have st := Stp.one (o := .lst xs) r1.ex hp
  exact k _ _ _ _ (.lst ds) (r1.stp st) (s1.trans st.ff) ⟨p, xs, rfl, .inl (.inl upd_same), d1.mono st.ff⟩ h1.2
/-- an address that is free in H: what lies there is new -/
theorem new_of {F H : Hp} {σ : St} {ρ : Ev} {p : Addr} {o : HO} {d : D} (r : Rel W B F H σ ρ) (hp : H p = none) (own : OwnAt W F (upd H p o) p d) : New W B F (upd H p o) σ ρ p d := by
  refine ⟨own, r.fF hp, r.fresh0 hp, r.npw hp, fun i e h q => ?_, fun q hq e => ?_⟩
  · obtain ⟨p2, e2, _, _, _, own2⟩ := r.sl i _ h
    rw [q] at e2; cases e2
    obtain ⟨o2, h2⟩ := own2.ne
    rw [hp] at h2; cases h2
  · obtain ⟨_, _, _, own2⟩ := r.hid q hq
    obtain ⟨o2, h2⟩ := own2.ne
    rw [e, hp] at h2; cases h2
theorem rn_lst {ta : TA} {a : DA} (ra : RA W B ta a) : RN W B (tLst ta) (dLst a) := by
  intro σ H F ρ Q R rl h k
  refine ra σ H F ρ _ _ rl h fun xs H1 F1 ρ1 ds r1 s1 d1 h1 => ?_
  refine ⟨by rw [← d1.length]; exact h1.1, fun p hp => ?_⟩
  exact k p _ _ _ (.lst ds) (r1.stp (Stp.lay (o := .lst xs) r1.ex hp)) s1 (new_of r1 hp ⟨xs, upd_same, d1⟩) h1.2
theorem RN.re {te : TE} {t : DE} (h : RN W B te t) : RE W B te t := by
  intro σ H F ρ Q R rl hq k
  refine h σ H F ρ _ _ rl hq fun p H1 F1 ρ1 d r1 s1 n1 h1 => ?_
  obtain ⟨o, ho⟩ := n1.own.ne
  have sf : Same F1 (upd F1 p o) := same_upd n1.fp
  refine k (.ref p) H1 (upd F1 p o) ρ1 d ⟨fun b u q => ?_, r1.len, fun j s hj => ?_, r1.inj, ?_, r1.keep, fun a h1 h2 => ?_, r1.f0.trans sf, r1.ioH, fun q hq => ?_, r1.hap, r1.hnd⟩ (s1.trans sf) (n1.own.freeze sf (by rw [upd_same, ho])) h1
  · by_cases hb : b = p
    · subst hb; rw [upd_same] at q; cases q; exact ho
    · rw [upd_ne hb] at q; exact r1.ex _ _ q
  · have q := r1.sl j s hj
    cases s with
    | un => trivial
    | v x => obtain ⟨u, e1, hd⟩ := q; exact ⟨u, e1, hd.mono sf⟩
    | o x =>
      obtain ⟨p2, e2, fp2, h02, hw2, own2⟩ := q
      have hne : p2 ≠ p := fun z => by
        subst z
        exact n1.ap j x hj e2
      exact ⟨p2, e2, by rw [upd_ne hne]; exact fp2, h02, hw2, own2.mono sf rfl⟩
  · refine r1.well.mono sf fun q hq => ⟨?_, rfl⟩
    have : q ≠ p := fun z => n1.pw (by rw [hq, z])
    rw [upd_ne this]; exact r1.well.fp hq
  · have : a ≠ p := fun z => by subst z; exact h1.1 n1.h0
    rw [upd_ne this]; exact r1.new a h1 h2
  · obtain ⟨h1, h2, h3, h4⟩ := r1.hid q hq
    have hne : q.1 ≠ p := n1.nh q hq
    exact ⟨by rw [upd_ne hne]; exact h1, h2, h3, h4.mono sf rfl⟩

/-! ### statements -/
def dSeq (t u : DS) : DS := fun DD ρ => t { DD with nx := u DD } ρ
def dNext : DS := fun DD ρ => DD.nx ρ
def dAsg (t : DE) (g : DG) : DS := fun DD ρ => t ρ fun ρ1 d => g d ρ1 DD.nx
def dAsgN (t : DE) (i : Nat) : DS := fun DD ρ => t ρ fun ρ1 d => DD.nx (ρ1.set i (.o d))
def dDrop (t : DE) : DS := fun DD ρ => t ρ fun ρ1 _ => DD.nx ρ1
def dRet (t : DE) : DS := fun DD ρ => t ρ DD.rt
def dIfS (c : DT) (t u : DS) : DS := fun DD ρ => c ρ fun ρ1 b => match b with | true => t DD ρ1 | false => u DD ρ1
theorem rs_next : RS W B tNext dNext := fun σ H F ρ D DD r h f => f.nx σ H F ρ r (Same.refl _) h
theorem rs_seq {t u : TS} {a b : DS} (ra : RS W B t a) (rb : RS W B u b) : RS W B (tSeq t u) (dSeq a b) := by
  intro σ H F ρ D DD r h f
  exact ra σ H F ρ { D with nx := u D } { DD with nx := b DD } r h ⟨fun σ' H' F' ρ' r' s' h' => rb σ' H' F' ρ' D DD r' h' (f.mono s'), f.bk, f.ct, f.rt⟩
theorem rs_asg {te : TE} {tg : TG} {t : DE} {g : DG} {is : List Nat} (ra : RE W B te t) (rg : RG W B tg g is) : RS W B (tAsg te tg) (dAsg t g) := by
  intro σ H F ρ D DD r h f
  refine ra σ H F ρ _ _ r h fun x H1 F1 ρ1 dx r1 s1 d1 h1 => ?_
  exact rg σ H1 F1 ρ1 x dx _ _ r1 d1 h1 fun σ' ρ' r' _ _ q => f.nx σ' H1 F1 ρ' r' s1 q
theorem rs_asgN {te : TE} {t : DE} {i : Nat} (ra : RN W B te t) : RS W B (tAsg te (gName i)) (dAsgN t i) := by
  intro σ H F ρ D DD r h f
  refine ra σ H F ρ _ _ r h fun p H1 F1 ρ1 dx r1 s1 n1 h1 => ?_
  exact f.nx _ H1 F1 _ (r1.seto n1) s1 h1
theorem rs_drop {te : TE} {t : DE} (ra : RE W B te t) : RS W B (tDrop te) (dDrop t) := by
  intro σ H F ρ D DD r h f
  exact ra σ H F ρ _ _ r h fun x H1 F1 ρ1 dx r1 s1 d1 h1 => f.nx σ H1 F1 ρ1 r1 s1 h1
theorem rs_ret {te : TE} {t : DE} (ra : RE W B te t) : RS W B (tRet te) (dRet t) := by
  intro σ H F ρ D DD r h f
  exact ra σ H F ρ _ _ r h fun x H1 F1 ρ1 dx r1 s1 d1 h1 => f.rt σ H1 F1 ρ1 dx x r1 s1 d1 h1
theorem rs_if {tc : TT} {t u : TS} {c : DT} {a b : DS} (rc : RT W B tc c) (ra : RS W B t a) (rb : RS W B u b) : RS W B (tIfS tc t u) (dIfS c a b) := by
  intro σ H F ρ D DD r h f
  refine rc σ H F ρ _ _ r h fun x H1 F1 ρ1 r1 s1 h1 => ?_
  cases x with
  | true => exact iteT (ra σ H1 F1 ρ1 D DD r1 h1 (f.mono s1))
  | false => exact iteF (rb σ H1 F1 ρ1 D DD r1 h1 (f.mono s1))

/-! ### targets -/
def dgName (i : Nat) : DG := fun d ρ Q => Q (ρ.set i (.v d))
theorem rg_name {i : Nat} : RG W B (gName i) (dgName i) [i] := fun σ H F ρ v d Q R r hd h k => k _ _ (r.setv hd) (fun j hj => by
  rw [List.getElem?_set_ne (fun e => hj (by rw [e]; exact List.mem_singleton.mpr rfl))]) (List.length_set ..) h
def dgNil : DGs := fun ds ρ Q => match ds with | [] => Q ρ | _ => False
def dgCons (g : DG) (r : DGs) : DGs := fun ds ρ Q => match ds with | d :: ds => g d ρ fun ρ1 => r ds ρ1 Q | [] => False
def dgTup (n : Nat) (g : DGs) : DG := fun d ρ Q => match d with | .tup ds => ds.length = n ∧ g ds ρ Q | _ => False
theorem rgs_nil : RGs W B gNil dgNil [] := by
  intro σ H F ρ vs ds Q R r hd h k
  unfold dgNil at h
  split at h
  · exact ⟨hd, k σ ρ r (fun _ _ => rfl) rfl h⟩
  · exact h.elim
theorem rgs_cons {tg : TG} {tr : TGs} {g : DG} {gs : DGs} {is js : List Nat} (ra : RG W B tg g is) (rb : RGs W B tr gs js) : RGs W B (gCons tg tr) (dgCons g gs) (is ++ js) := by
  intro σ H F ρ vs ds Q R r hd h k
  unfold dgCons at h
  split at h
  · rename_i d ds
    obtain ⟨x, xs, e, h1, h2⟩ := hd
    refine ⟨x, xs, e, ra σ H F ρ x d _ _ r h1 h fun σ' ρ' r' o1 l1 q => ?_⟩
    exact rb σ' H F ρ' xs ds _ _ r' h2 q fun σ2 ρ2 r2 o2 l2 q2 => k σ2 ρ2 r2 (fun j hj => (o2 j fun z => hj (List.mem_append_right _ z)).trans (o1 j fun z => hj (List.mem_append_left _ z))) (l2.trans l1) q2
  · exact h.elim
theorem rg_tup {n : Nat} {tr : TGs} {gs : DGs} {is : List Nat} (rb : RGs W B tr gs is) : RG W B (gTup W.K n tr) (dgTup n gs) is := by
  intro σ H F ρ v d Q R r hd h k
  unfold dgTup at h
  split at h
  · rename_i ds
    obtain ⟨a, xs, e, hs, hl⟩ := hd
    exact ⟨a, xs, e, sqT_of r.ex hs, by rw [← hl.length]; exact h.1, rb σ H F ρ xs ds _ _ r hl h.2 k⟩
  · exact h.elim
end
end DL

-- part DL3
set_option maxHeartbeats 4000000
namespace DL
open PySem L2

/-! ### what is walked -/
def Iter (W : Wd) (J : It) (F : Hp) (ds : List D) : Prop := ∀ F2 H, Same F F2 → Same F2 H →
  J.stop ds.length H ∧ ∀ (i : Nat) (d : D), ds[i]? = some d → J.go i H ∧ ∀ x H', J.yld i H x H' → ∃ F3, Stp F2 H F3 H' ∧ Den W F3 d x
def RI (W : Wd) (B : Bs) (wi : TI) (t : DI) : Prop := ∀ (σ : St) (H F : Hp) (ρ : Ev) (Q : Ev → List D → Prop) (R : It → Hp → Prop), Rel W B F H σ ρ → t ρ Q →
  (∀ J H' F' ρ' ds, Rel W B F' H' σ ρ' → Same F F' → Iter W J F' ds → Q ρ' ds → R J H') → wi σ H R
section
variable {W : Wd} {B : Bs} {F F' H H' : Hp} {σ : St} {ρ : Ev}
theorem Iter.mono {J : It} {ds : List D} (h : Iter W J F ds) (e : Same F F') : Iter W J F' ds := fun F2 H a b => h F2 H (e.trans a) b
theorem iter_list {a : Addr} {xs : List V} {ds : List D} (h : SqL W.K F a xs) (hd : DenL W F ds xs) : Iter W (Itl W.K a) F ds := by
  intro F2 H e1 e2
  refine ⟨⟨xs, same_sqL (e1.trans e2) h, by rw [hd.length]; exact Nat.le_refl _⟩, fun i d hi => ?_⟩
  obtain ⟨x, hx, dx⟩ := hd.get hi
  refine ⟨⟨xs, x, same_sqL (e1.trans e2) h, hx⟩, fun y H' ⟨e, hy⟩ => ?_⟩
  subst e
  have := hy xs (same_sqL (e1.trans e2) h)
  rw [hx] at this; cases this
  exact ⟨F2, Stp.refl e2, dx.mono e1⟩
theorem iter_tup {a : Addr} {xs : List V} {ds : List D} (h : SqT W.K F a xs) (hd : DenL W F ds xs) : Iter W (Itt W.K a) F ds := by
  intro F2 H e1 e2
  refine ⟨⟨xs, same_sqT (e1.trans e2) h, by rw [hd.length]; exact Nat.le_refl _⟩, fun i d hi => ?_⟩
  obtain ⟨x, hx, dx⟩ := hd.get hi
  refine ⟨⟨xs, x, same_sqT (e1.trans e2) h, hx⟩, fun y H' ⟨e, hy⟩ => ?_⟩
  subst e
  have := hy xs (same_sqT (e1.trans e2) h)
  rw [hx] at this; cases this
  exact ⟨F2, Stp.refl e2, dx.mono e1⟩
/-- the integers lo, lo + 1, .. -/
def intsD (lo : Int) (n : Nat) : List D := (List.range n).map fun (i : Nat) => .int (lo + (i : Int))
theorem iter_range {lo : Int} {n : Nat} : Iter W (Itr lo n) F (intsD lo n) := by
  intro F2 H e1 e2
  have hl : (intsD lo n).length = n := by unfold intsD; rw [List.length_map, List.length_range]
  refine ⟨by show n ≤ _; rw [hl]; exact Nat.le_refl _, fun i d hi => ?_⟩
  have hin : i < n := by rw [← hl]; exact (List.getElem?_eq_some_iff.mp hi).1
  have hd : d = .int (lo + i) := by
    unfold intsD at hi
    rw [List.getElem?_map, List.getElem?_range hin] at hi
    exact (Option.some.inj hi).symm
  subst hd
  refine ⟨hin, fun y H' ⟨e, hy⟩ => ?_⟩
  subst e
  exact ⟨F2, Stp.refl e2, hy⟩
/-- a list or a tuple -/
def dSq (t : DE) : DI := fun ρ Q => t ρ fun ρ1 d => match d with | .lst ds => Q ρ1 ds | .tup ds => Q ρ1 ds | _ => False
def dSqL (t : DE) : DI := fun ρ Q => t ρ fun ρ1 d => match d with | .lst ds => Q ρ1 ds | _ => False
def dSqT (t : DE) : DI := fun ρ Q => t ρ fun ρ1 d => match d with | .tup ds => Q ρ1 ds | _ => False
theorem ri_list {te : TE} {t : DE} (h : RE W B te t) : RI W B (iList W.K te) (dSqL t) := by
  intro σ H F ρ Q R rl hq k
  refine h σ H F ρ _ _ rl hq fun x H1 F1 ρ1 dx r1 s1 d1 h1 => ?_
  split at h1
  · obtain ⟨a, xs, e, hs, hd⟩ := d1
    exact ⟨a, e, ⟨xs, same_sqL r1.ex hs⟩, k _ H1 F1 ρ1 _ r1 s1 (iter_list hs hd) h1⟩
  · exact h1.elim
theorem ri_tup {te : TE} {t : DE} (h : RE W B te t) : RI W B (iTup W.K te) (dSqT t) := by
  intro σ H F ρ Q R rl hq k
  refine h σ H F ρ _ _ rl hq fun x H1 F1 ρ1 dx r1 s1 d1 h1 => ?_
  split at h1
  · obtain ⟨a, xs, e, hs, hd⟩ := d1
    exact ⟨a, e, ⟨xs, sqT_of r1.ex hs⟩, k _ H1 F1 ρ1 _ r1 s1 (iter_tup (.inl (.inl hs)) hd) h1⟩
  · exact h1.elim
/-- a walk over a list or a tuple -/
def iSeq (K : PySem.W.Frag) (tl : TE) : TI := fun σ H R => tl σ H fun x H1 => ∃ a, x = .ref a ∧ (((∃ xs, SqL K H1 a xs) ∧ R (Itl K a) H1) ∨ ((∃ xs, SqT K H1 a xs) ∧ R (Itt K a) H1))
theorem ri_seq {te : TE} {t : DE} (h : RE W B te t) : RI W B (iSeq W.K te) (dSq t) := by
  intro σ H F ρ Q R rl hq k
  refine h σ H F ρ _ _ rl hq fun x H1 F1 ρ1 dx r1 s1 d1 h1 => ?_
  split at h1
  · obtain ⟨a, xs, e, hs, hd⟩ := d1
    exact ⟨a, e, .inl ⟨⟨xs, same_sqL r1.ex hs⟩, k _ H1 F1 ρ1 _ r1 s1 (iter_list hs hd) h1⟩⟩
  · obtain ⟨a, xs, e, hs, hd⟩ := d1
    exact ⟨a, e, .inr ⟨⟨xs, sqT_of r1.ex hs⟩, k _ H1 F1 ρ1 _ r1 s1 (iter_tup (.inl (.inl hs)) hd) h1⟩⟩
  · exact h1.elim
theorem pi_seq {X : Cx} {tg l : Expr} {tl : TE} (hl : PE X l tl) : PI X tg l (iSeq X.K tl) := by
  refine ⟨fun pins s σ H R I h => ?_⟩
  refine thn (hl.run pins s σ H _ I h) fun v s1 ⟨x, H1, I1, r1, q1⟩ => ?_
  obtain ⟨a, e, q⟩ := q1
  subst e
  cases r1
  rcases q with ⟨⟨xs, hq⟩, q⟩ | ⟨⟨xs, hq⟩, q⟩
  · obtain ⟨its, rv, p, hz⟩ := I1.list hq
    refine PySem.wpAny_pyIter_list p.isList ?_
    refine ⟨s1.heap.objs.size, [s1.heap.objs.size], _, _, H1, rfl, I1.kept (t' := s1.toks) fun b o e => Heap.get?_push_of_some _ e, turn_list a _, ⟨_, Heap.get?_push_size _ rfl, rfl, rfl⟩, fun b hb => ?_, q⟩
    have e : b = s1.heap.objs.size := by simpa using hb
    subst e
    exact I1.fpOk (Nat.le_refl _) (I1.hok.fresh (Nat.le_refl _))
  · obtain ⟨its, rv, p, hz⟩ := I1.tuple hq
    refine wpAny_pyIter_tuple (show s1.heap.IsTuple a its.toArray from p) ?_
    refine ⟨s1.heap.objs.size, [s1.heap.objs.size], _, _, H1, rfl, I1.kept (t' := s1.toks) fun b o e => Heap.get?_push_of_some _ e, turn_tuple a _, ⟨_, Heap.get?_push_size _ rfl, rfl, rfl⟩, fun b hb => ?_, q⟩
    have e : b = s1.heap.objs.size := by simpa using hb
    subst e
    exact I1.fpOk (Nat.le_refl _) (I1.hok.fresh (Nat.le_refl _))
def dRng1 (t : DA) : DI := fun ρ Q => t ρ fun ρ1 ds => match ds with
  | [.int j] => (-(2 ^ 62) ≤ j ∧ j < 2 ^ 62) ∧ Q ρ1 (intsD 0 j.toNat)
  | _ => False
def dRng2 (t : DA) : DI := fun ρ Q => t ρ fun ρ1 ds => match ds with
  | [.int i, .int j] => (-(2 ^ 62) ≤ i ∧ i < 2 ^ 62 ∧ -(2 ^ 62) ≤ j ∧ j < 2 ^ 62) ∧ Q ρ1 (intsD i (j - i).toNat)
  | _ => False
theorem ri_rng1 {ta : TA} {t : DA} (h : RA W B ta t) : RI W B (iRng1 ta) (dRng1 t) := by
  intro σ H F ρ Q R rl hq k
  refine h σ H F ρ _ _ rl hq fun xs H1 F1 ρ1 ds r1 s1 d1 h1 => ?_
  split at h1
  · rename_i j
    obtain ⟨x, r, e, hx, hr⟩ := d1
    have hx : x = .int j := hx
    have hr : r = [] := hr
    subst hx hr
    exact ⟨j, e, h1.1.1, h1.1.2, k _ H1 F1 ρ1 _ r1 s1 iter_range h1.2⟩
  · exact h1.elim
theorem ri_rng2 {ta : TA} {t : DA} (h : RA W B ta t) : RI W B (iRng2 ta) (dRng2 t) := by
  intro σ H F ρ Q R rl hq k
  refine h σ H F ρ _ _ rl hq fun xs H1 F1 ρ1 ds r1 s1 d1 h1 => ?_
  split at h1
  · rename_i i j
    obtain ⟨x, r, e, hx, y, r2, e2, hy, hr⟩ := d1
    have hx : x = .int i := hx
    have hy : y = .int j := hy
    have hr : r2 = [] := hr
    subst hx hy hr e2
    exact ⟨i, j, e, h1.1, k _ H1 F1 ρ1 _ r1 s1 iter_range h1.2⟩
  · exact h1.elim
/-- enumerate of a list -/
def dEnum (t : DA) : DI := fun ρ Q => t ρ fun ρ1 ds => match ds with
  | [.lst xs] => Q ρ1 (xs.zipIdx.map fun p => .tup [.int (p.2 : Nat), p.1])
  | _ => False
theorem ri_enum {ta : TA} {t : DA} (h : RA W B ta t) : RI W B (iEnum W.K ta) (dEnum t) := by
  intro σ H F ρ Q R rl hq k
  refine h σ H F ρ _ _ rl hq fun xs H1 F1 ρ1 ds r1 s1 d1 h1 => ?_
  split at h1
  · rename_i ys
    obtain ⟨x, r, e, hx, hr⟩ := d1
    obtain ⟨a, zs, ea, hs, hd⟩ := hx
    have hr : r = [] := hr
    subst hr ea
    refine ⟨a, zs, e, same_sqL r1.ex hs, k _ H1 F1 ρ1 _ r1 s1 ?_ h1⟩
    intro F2 H2 e1 e2
    have hs2 := same_sqL (e1.trans e2) hs
    refine ⟨⟨zs, hs2, by rw [List.length_map, List.length_zipIdx, hd.length]; exact Nat.le_refl _⟩, fun i d hi => ?_⟩
    rw [List.getElem?_map, List.getElem?_zipIdx, Nat.zero_add] at hi
    cases hy : ys[i]? with
    | none => rw [hy] at hi; cases hi
    | some y =>
      rw [hy] at hi
      cases hi
      obtain ⟨z, hz, dz⟩ := hd.get hy
      refine ⟨⟨zs, z, hs2, hz⟩, fun v H' ⟨T, z', ev, hT, eH, hz'⟩ => ?_⟩
      have q := hz' zs hs2
      rw [hz] at q; cases q
      subst ev eH
      have st := Stp.one (o := .tup [.int (i : Nat), z]) e2 hT
      exact ⟨_, st, ⟨T, _, rfl, upd_same, ⟨_, _, rfl, rfl, ⟨_, _, rfl, dz.mono (e1.trans st.ff), rfl⟩⟩⟩⟩
  · exact h1.elim
/-- zip of two lists, of two tuples -/
def dZip (t : DA) : DI := fun ρ Q => t ρ fun ρ1 ds => match ds with
  | [.lst xs, .lst ys] => Q ρ1 ((xs.zip ys).map fun p => .tup [p.1, p.2])
  | [.tup xs, .tup ys] => Q ρ1 ((xs.zip ys).map fun p => .tup [p.1, p.2])
  | _ => False
theorem zip_get {α β : Type} {xs : List α} {ys : List β} {i : Nat} {p : α × β} (h : (xs.zip ys)[i]? = some p) : xs[i]? = some p.1 ∧ ys[i]? = some p.2 := by
  rw [List.getElem?_zip_eq_some] at h; exact h
theorem iter_zipL {a b : Addr} {xs ys : List V} {ds es : List D} (h1 : SqL W.K F a xs) (h2 : SqL W.K F b ys) (d1 : DenL W F ds xs) (d2 : DenL W F es ys) :
    Iter W (Itz W.K a b) F ((ds.zip es).map fun p => .tup [p.1, p.2]) := by
  intro F2 H2 e1 e2
  have q1 := same_sqL (e1.trans e2) h1
  have q2 := same_sqL (e1.trans e2) h2
  refine ⟨⟨xs, ys, q1, q2, by rw [List.length_map, List.length_zip, d1.length, d2.length]; omega⟩, fun i d hi => ?_⟩
  rw [List.getElem?_map] at hi
  cases hy : (ds.zip es)[i]? with
  | none => rw [hy] at hi; cases hi
  | some p =>
    rw [hy] at hi
    cases hi
    obtain ⟨g1, g2⟩ := zip_get hy
    obtain ⟨x, hx, dx⟩ := d1.get g1
    obtain ⟨y, hy, dy⟩ := d2.get g2
    refine ⟨⟨xs, ys, x, y, q1, q2, hx, hy⟩, fun v H' ⟨T, x', y', ev, hT, eH, hx', hy'⟩ => ?_⟩
    have z1 := hx' xs q1
    have z2 := hy' ys q2
    rw [hx] at z1; cases z1
    rw [hy] at z2; cases z2
    subst ev eH
    have st := Stp.one (o := .tup [x, y]) e2 hT
    exact ⟨_, st, ⟨T, _, rfl, upd_same, ⟨_, _, rfl, dx.mono (e1.trans st.ff), ⟨_, _, rfl, dy.mono (e1.trans st.ff), rfl⟩⟩⟩⟩
theorem ri_zip {ta : TA} {t : DA} (h : RA W B ta t) : RI W B (iZip W.K ta) (fun ρ Q => t ρ fun ρ1 ds => match ds with
  | [.lst xs, .lst ys] => Q ρ1 ((xs.zip ys).map fun p => .tup [p.1, p.2])
  | _ => False) := by
  intro σ H F ρ Q R rl hq k
  refine h σ H F ρ _ _ rl hq fun xs H1 F1 ρ1 ds r1 s1 d1 h1 => ?_
  split at h1
  · rename_i ys zs
    obtain ⟨x, r, e, hx, y, r2, e2, hy, hr⟩ := d1
    obtain ⟨a, us, ea, hs, hd⟩ := hx
    obtain ⟨b, vs, eb, hs2, hd2⟩ := hy
    have hr : r2 = [] := hr
    subst hr ea eb e2
    exact ⟨a, b, us, vs, e, same_sqL r1.ex hs, same_sqL r1.ex hs2, k _ H1 F1 ρ1 _ r1 s1 (iter_zipL hs hs2 hd hd2) h1⟩
  · exact h1.elim

/-! ### for, while -/
def dForL (g : DG) (b : DS) : List D → DS
  | [] => fun DD ρ => DD.nx ρ
  | d :: ds => fun DD ρ => g d ρ fun ρ1 => b { nx := dForL g b ds DD, ct := dForL g b ds DD, bk := DD.nx, rt := DD.rt } ρ1
def dFor (s : DI) (g : DG) (b : DS) : DS := fun DD ρ => s ρ fun ρ1 ds => dForL g b ds DD ρ1
theorem rs_for {wi : TI} {tg : TG} {tb : TS} {s : DI} {g : DG} {b : DS} {is : List Nat} (ri : RI W B wi s) (rg : RG W B tg g is) (rb : RS W B tb b) : RS W B (tFor wi tg tb) (dFor s g b) := by
  intro σ H F ρ D DD r h f
  refine ri σ H F ρ _ _ r h fun J H1 F1 ρ1 ds r1 s1 it h1 => ?_
  refine ⟨fun i m σ H => ∃ F2 ρ2, Rel W B F2 H σ ρ2 ∧ Same F1 F2 ∧ i ≤ ds.length ∧ m = ds.length - i ∧ dForL g b (ds.drop i) DD ρ2, ⟨ds.length, F1, ρ1, r1, Same.refl _, Nat.zero_le _, rfl, h1⟩, ?_⟩
  rintro i m σ2 H2 ⟨F2, ρ2, r2, s2, hi, rfl, hq⟩
  obtain ⟨st, go⟩ := it F2 H2 s2 r2.ex
  by_cases hlt : i < ds.length
  · have hd : ds[i]? = some ds[i] := List.getElem?_eq_getElem hlt
    obtain ⟨g1, y1⟩ := go i _ hd
    rw [List.drop_eq_getElem_cons hlt] at hq
    refine .inr ⟨g1, fun σ3 H3 => ∃ F3 ρ3, Rel W B F3 H3 σ3 ρ3 ∧ Same F1 F3 ∧ dForL g b (ds.drop (i + 1)) DD ρ3, fun σ3 H3 ⟨F3, ρ3, r3, s3, q3⟩ => ⟨ds.length - (i + 1), by omega, F3, ρ3, r3, s3, hlt, rfl, q3⟩, fun x H3 hy => ?_⟩
    obtain ⟨F3, st3, dx⟩ := y1 x H3 hy
    have r3 := r2.stp st3
    refine rg σ2 H3 F3 ρ2 x _ _ _ r3 dx hq fun σ4 ρ4 r4 _ _ q4 => ?_
    refine rb σ4 H3 F3 ρ4 _ _ r4 q4 ⟨fun σ5 H5 F5 ρ5 r5 s5 q5 => ⟨F5, ρ5, r5, (s2.trans st3.ff).trans s5, q5⟩, fun σ5 H5 F5 ρ5 r5 s5 q5 => f.nx σ5 H5 F5 ρ5 r5 (((s1.trans s2).trans st3.ff).trans s5) q5, fun σ5 H5 F5 ρ5 r5 s5 q5 => ⟨F5, ρ5, r5, (s2.trans st3.ff).trans s5, q5⟩, fun σ5 H5 F5 ρ5 d v r5 s5 dv q5 => f.rt σ5 H5 F5 ρ5 d v r5 (((s1.trans s2).trans st3.ff).trans s5) dv q5⟩
  · have e : i = ds.length := by omega
    subst e
    rw [List.drop_length] at hq
    exact .inl ⟨st, f.nx σ2 H2 F2 ρ2 r2 (s1.trans s2) hq⟩
def dWhileN (c : DT) (b : DS) : Nat → DS
  | 0 => fun _ _ => False
  | n + 1 => fun DD ρ => c ρ fun ρ1 t => match t with
    | true => b { nx := dWhileN c b n DD, ct := dWhileN c b n DD, bk := DD.nx, rt := DD.rt } ρ1
    | false => DD.nx ρ1
def dWhile (c : DT) (b : DS) : DS := fun DD ρ => ∃ n, dWhileN c b n DD ρ
theorem rs_while {tc : TT} {tb : TS} {c : DT} {b : DS} (rc : RT W B tc c) (rb : RS W B tb b) : RS W B (tWhile tc tb) (dWhile c b) := by
  intro σ H F ρ D DD r h f
  obtain ⟨n, h⟩ := h
  cases n with
  | zero => exact h.elim
  | succ n =>
  refine ⟨fun m σ H => ∃ F2 ρ2, Rel W B F2 H σ ρ2 ∧ Same F F2 ∧ dWhileN c b (m + 1) DD ρ2, ⟨n, F, ρ, r, Same.refl _, h⟩, ?_⟩
  rintro m σ2 H2 ⟨F2, ρ2, r2, s2, hq⟩
  refine rc σ2 H2 F2 ρ2 _ _ r2 hq fun t H3 F3 ρ3 r3 s3 q3 => ?_
  cases t with
  | false => exact iteF (f.nx σ2 H3 F3 ρ3 r3 (s2.trans s3) q3)
  | true =>
    refine iteT ⟨fun σ4 H4 => ∃ F4 ρ4, Rel W B F4 H4 σ4 ρ4 ∧ Same F F4 ∧ dWhileN c b m DD ρ4, fun σ4 H4 ⟨F4, ρ4, r4, s4, q4⟩ => ?_, ?_⟩
    · cases m with
      | zero => exact q4.elim
      | succ m => exact ⟨m, Nat.lt_succ_self _, F4, ρ4, r4, s4, q4⟩
    · refine rb σ2 H3 F3 ρ3 _ _ r3 q3 ⟨fun σ5 H5 F5 ρ5 r5 s5 q5 => ⟨F5, ρ5, r5, (s2.trans s3).trans s5, q5⟩, fun σ5 H5 F5 ρ5 r5 s5 q5 => f.nx σ5 H5 F5 ρ5 r5 ((s2.trans s3).trans s5) q5, fun σ5 H5 F5 ρ5 r5 s5 q5 => ⟨F5, ρ5, r5, (s2.trans s3).trans s5, q5⟩, fun σ5 H5 F5 ρ5 d v r5 s5 dv q5 => f.rt σ5 H5 F5 ρ5 d v r5 ((s2.trans s3).trans s5) dv q5⟩

/-! ### comprehensions -/
def wipeS (sl : List Sl) : List Nat → List Sl
  | [] => sl
  | v :: vs => (wipeS sl vs).set v .un
def Ev.wipe (ρ : Ev) (vs : List Nat) : Ev := ⟨wipeS ρ.sl vs, ρ.c⟩
theorem wipeS_length (sl : List Sl) : ∀ vs, (wipeS sl vs).length = sl.length
  | [] => rfl
  | v :: vs => by unfold wipeS; rw [List.length_set, wipeS_length sl vs]
theorem wipeS_out {sl : List Sl} {j : Nat} : ∀ {vs : List Nat}, j ∉ vs → (wipeS sl vs)[j]? = sl[j]?
  | [], _ => rfl
  | v :: vs, h => by
    unfold wipeS
    rw [List.getElem?_set_ne (fun e => h (by rw [e]; exact List.mem_cons_self))]
    exact wipeS_out fun z => h (List.mem_cons_of_mem _ z)
theorem wipeS_in {sl : List Sl} {j : Nat} : ∀ {vs : List Nat}, j ∈ vs → j < sl.length → (wipeS sl vs)[j]? = some .un
  | v :: vs, h, hl => by
    unfold wipeS
    by_cases e : v = j
    · subst e; rw [List.getElem?_set_self (by rw [wipeS_length]; exact hl)]
    · rw [List.getElem?_set_ne e]
      rcases List.mem_cons.mp h with z | z
      · exact absurd z.symm e
      · exact wipeS_in z hl
theorem wipe_out {σ : St} {j : Nat} : ∀ {vs : List Nat}, j ∉ vs → (wipe σ vs)[j]? = σ[j]?
  | [], _ => rfl
  | v :: vs, h => by
    unfold wipe
    rw [List.getElem?_set_ne (fun e => h (by rw [e]; exact List.mem_cons_self))]
    exact wipe_out fun z => h (List.mem_cons_of_mem _ z)
theorem wipe_in {σ : St} {j : Nat} : ∀ {vs : List Nat}, j ∈ vs → j < σ.length → (wipe σ vs)[j]? = some none
  | v :: vs, h, hl => by
    unfold wipe
    by_cases e : v = j
    · subst e; rw [List.getElem?_set_self (by rw [wipe_length]; exact hl)]
    · rw [List.getElem?_set_ne e]
      rcases List.mem_cons.mp h with z | z
      · exact absurd z.symm e
      · exact wipe_in z hl
theorem wipe_eq {σ τ : St} {vs : List Nat} (hl : τ.length = σ.length) (h : ∀ j, j ∉ vs → τ[j]? = σ[j]?) : wipe τ vs = wipe σ vs := by
  apply List.ext_getElem?
  intro j
  by_cases hj : j ∈ vs
  · by_cases hl2 : j < σ.length
    · rw [wipe_in hj hl2, wipe_in hj (by rw [hl]; exact hl2)]
    · rw [List.getElem?_eq_none (by rw [wipe_length, hl]; omega), List.getElem?_eq_none (by rw [wipe_length]; omega)]
  · rw [wipe_out hj, wipe_out hj, h j hj]
/-- the slots outside as they are behind the block, those of the block as ahead -/
def resS (vs : List Nat) : Nat → List Sl → List Sl → List Sl
  | k, o :: os, n :: ns => (bif vs.contains k then o else n) :: resS vs (k + 1) os ns
  | _, _, _ => []
theorem resS_length (vs : List Nat) : ∀ (k : Nat) (os ns : List Sl), ns.length = os.length → (resS vs k os ns).length = os.length
  | _, [], [], _ => rfl
  | k, o :: os, n :: ns, h => by
    show (resS vs (k + 1) os ns).length + 1 = os.length + 1
    rw [resS_length vs (k + 1) os ns (by simpa using h)]
theorem resS_get (vs : List Nat) : ∀ (k : Nat) (os ns : List Sl) (i : Nat), ns.length = os.length → (resS vs k os ns)[i]? = if vs.contains (k + i) then os[i]? else ns[i]?
  | k, [], [], i, _ => by simp [resS]
  | k, o :: os, n :: ns, 0, _ => by
    show some (bif vs.contains k then o else n) = _
    rw [Nat.add_zero]
    cases vs.contains k <;> simp
  | k, o :: os, n :: ns, i + 1, h => by
    show (resS vs (k + 1) os ns)[i]? = _
    rw [resS_get vs (k + 1) os ns i (by simpa using h)]
    have : k + 1 + i = k + (i + 1) := by omega
    rw [this]; simp
def Ev.back (ρ : Ev) (vs : List Nat) (ρ2 : Ev) : Ev := ⟨resS vs 0 ρ.sl ρ2.sl, ρ2.c⟩
/-- none of these slots is of one's own -/
def noOwn (ρ : Ev) (vs : List Nat) : Bool := vs.all fun i => match ρ.sl[i]? with | some (.o _) => false | _ => true
def dLcL (g : DG) (tt : DT) (e : DE) (vs : List Nat) : List D → Ev → List D → (Ev → List D → Prop) → Prop
  | [], ρ, acc, K => K ρ acc
  | d :: ds, ρ, acc, K => g d (ρ.wipe vs) fun ρ1 => tt ρ1 fun ρ2 b => match b with
    | true => e ρ2 fun ρ3 y => acc.length < sizeLine ∧ dLcL g tt e vs ds (ρ.back vs ρ3) (acc ++ [y]) K
    | false => dLcL g tt e vs ds (ρ.back vs ρ2) acc K
def dLc (s : DI) (g : DG) (tt : DT) (e : DE) (vs : List Nat) : DE := fun ρ Q => s ρ fun ρ1 ds => noOwn ρ1 vs = true ∧ dLcL g tt e vs ds ρ1 [] fun ρ2 acc => Q ρ2 (.lst acc)
def dYes : DT := fun ρ Q => Q ρ true
theorem rt_yes : RT W B tYes dYes := fun σ H F ρ Q R r h k => k true H F ρ r (Same.refl _) h

theorem noOwn_at {vs : List Nat} (h : noOwn ρ vs = true) {i : Nat} {d : D} (hi : i ∈ vs) : ρ.sl[i]? ≠ some (.o d) := fun e => by
  have := List.all_eq_true.mp h i hi
  rw [e] at this; cases this
/-- into a block: its own slots are forgotten -/
theorem Rel.wiped (r : Rel W B F H σ ρ) (vs : List Nat) : Rel W B F H (wipe σ vs) (ρ.wipe vs) := by
  have at_ : ∀ {j : Nat} {d : D}, (ρ.wipe vs).sl[j]? = some (.o d) → ρ.sl[j]? = some (.o d) ∧ (wipe σ vs)[j]? = σ[j]? := fun {j d} h => by
    have h : (wipeS ρ.sl vs)[j]? = some (.o d) := h
    by_cases hj : j ∈ vs
    · have hl : j < ρ.sl.length := by
        have := (List.getElem?_eq_some_iff.mp h).1
        rwa [wipeS_length] at this
      rw [wipeS_in hj hl] at h; cases h
    · rw [wipeS_out hj] at h; exact ⟨h, wipe_out hj⟩
  refine ⟨r.ex, by rw [wipe_length]; show _ = (wipeS ρ.sl vs).length; rw [wipeS_length]; exact r.len, fun j s hj => ?_, fun j k x y p hj hk h1 h2 => ?_, r.well, r.keep, r.new, r.f0, r.ioH, r.hid, fun q hq j x hj h1 => ?_, r.hnd⟩
  · have h : (wipeS ρ.sl vs)[j]? = some s := hj
    by_cases hv : j ∈ vs
    · have hl : j < ρ.sl.length := by
        have := (List.getElem?_eq_some_iff.mp h).1
        rwa [wipeS_length] at this
      rw [wipeS_in hv hl] at h; cases h; trivial
    · rw [wipeS_out hv] at h
      rw [wipe_out hv]
      exact r.sl j s h
  · obtain ⟨q1, e1⟩ := at_ hj
    obtain ⟨q2, e2⟩ := at_ hk
    exact r.inj j k x y p q1 q2 (e1.symm.trans h1) (e2.symm.trans h2)
  · obtain ⟨q1, e1⟩ := at_ hj
    exact r.hap q hq j x q1 (e1.symm.trans h1)
/-- out of a block -/
theorem Rel.backed {vs : List Nat} {τ : St} {ρ2 : Ev} (r : Rel W B F H σ ρ) (no : noOwn ρ vs = true) (sf : Same F F') (r2 : Rel W B F' H' τ ρ2) (ho : ∀ j, j ∉ vs → τ[j]? = σ[j]?) (hl : τ.length = σ.length) :
    Rel W B F' H' σ (ρ.back vs ρ2) := by
  have hlen : ρ2.sl.length = ρ.sl.length := by rw [← r2.len, ← r.len]; exact hl
  have get : ∀ j, (ρ.back vs ρ2).sl[j]? = if vs.contains j then ρ.sl[j]? else ρ2.sl[j]? := fun j => by
    have := resS_get vs 0 ρ.sl ρ2.sl j hlen
    rwa [Nat.zero_add] at this
  have at_ : ∀ {j : Nat} {d : D}, (ρ.back vs ρ2).sl[j]? = some (.o d) → j ∉ vs ∧ ρ2.sl[j]? = some (.o d) := fun {j d} h => by
    rw [get j] at h
    by_cases hj : j ∈ vs
    · rw [if_pos (by simpa using hj)] at h
      exact absurd h (noOwn_at no hj)
    · rw [if_neg (by simpa using hj)] at h
      exact ⟨hj, h⟩
  refine ⟨r2.ex, by show _ = (resS vs 0 ρ.sl ρ2.sl).length; rw [resS_length vs 0 ρ.sl ρ2.sl hlen]; exact r.len, fun j s hj => ?_, fun j k x y p hj hk h1 h2 => ?_, r2.well, r2.keep, r2.new, r2.f0, r2.ioH, r2.hid, fun q hq j x hj h1 => ?_, r2.hnd⟩
  · rw [get j] at hj
    by_cases hv : j ∈ vs
    · rw [if_pos (by simpa using hv)] at hj
      have q := r.sl j s hj
      cases s with
      | un => trivial
      | v d => obtain ⟨u, e, hd⟩ := q; exact ⟨u, e, hd.mono sf⟩
      | o d => exact absurd hj (noOwn_at no hv)
    · rw [if_neg (by simpa using hv)] at hj
      rw [← ho j hv]
      exact r2.sl j s hj
  · obtain ⟨v1, q1⟩ := at_ hj
    obtain ⟨v2, q2⟩ := at_ hk
    exact r2.inj j k x y p q1 q2 ((ho j v1).trans h1) ((ho k v2).trans h2)
  · obtain ⟨v1, q1⟩ := at_ hj
    exact r2.hap q hq j x q1 ((ho j v1).trans h1)
/-- a new object is hidden -/
def Bs.hide (B : Bs) (p : Addr) (d : D) : Bs := { B with hid := (p, d) :: B.hid }
theorem Rel.hide {p : Addr} {d : D} (r : Rel W B F H σ ρ) (n : New W B F H σ ρ p d) : Rel W (B.hide p d) F H σ ρ :=
  ⟨r.ex, r.len, r.sl, r.inj, r.well, r.keep, r.new, r.f0, r.ioH, fun q hq => by
    rcases List.mem_cons.mp hq with e | hq
    · subst e; exact ⟨n.fp, n.h0, n.pw, n.own⟩
    · exact r.hid q hq, fun q hq => by
    rcases List.mem_cons.mp hq with e | hq
    · subst e; exact n.ap
    · exact r.hap q hq, List.nodup_cons.mpr ⟨fun h => by
      obtain ⟨q, hq, e⟩ := List.mem_map.mp h
      exact n.nh q hq e, r.hnd⟩⟩
/-- it comes out again -/
theorem Rel.unhide {p : Addr} {d : D} (r : Rel W (B.hide p d) F H σ ρ) : Rel W B F H σ ρ ∧ New W B F H σ ρ p d := by
  obtain ⟨h1, h2, h3, h4⟩ := r.hid (p, d) List.mem_cons_self
  refine ⟨⟨r.ex, r.len, r.sl, r.inj, r.well, r.keep, r.new, r.f0, r.ioH, fun q hq => r.hid q (List.mem_cons_of_mem _ hq), fun q hq => r.hap q (List.mem_cons_of_mem _ hq), (List.nodup_cons.mp r.hnd).2⟩,
    h4, h1, h2, h3, r.hap (p, d) List.mem_cons_self, fun q hq e => ?_⟩
  exact (List.nodup_cons.mp r.hnd).1 (List.mem_map.mpr ⟨q, hq, e⟩)
/-- the hidden object changes -/
theorem Rel.hset {p : Addr} {d d' : D} {o : HO} (r : Rel W (B.hide p d) F H σ ρ) (own : OwnAt W F (upd H p o) p d') : Rel W (B.hide p d') F (upd H p o) σ ρ := by
  obtain ⟨h1, h2, h3, h4⟩ := r.hid (p, d) List.mem_cons_self
  have hq : ∀ q, q ≠ p → upd H p o q = H q := fun q h => upd_ne h
  refine ⟨fun b u e => ?_, r.len, fun j s hj => ?_, r.inj, ?_, fun a u e1 e2 e3 => ?_, r.new, r.f0, fun a ha => ?_, fun q hq' => ?_, fun q hq' => ?_, r.hnd⟩
  · have : b ≠ p := fun z => by subst z; rw [h1] at e; cases e
    rw [hq b this]; exact r.ex _ _ e
  · have q := r.sl j s hj
    cases s with
    | un => trivial
    | v x => exact q
    | o x =>
      obtain ⟨p2, e2, fp2, h02, hw2, own2⟩ := q
      have hne : p2 ≠ p := fun z => r.hap (p, d) List.mem_cons_self j x hj (by rw [e2, z])
      exact ⟨p2, e2, fp2, h02, hw2, own2.mono (Same.refl _) (hq p2 hne)⟩
  · refine r.well.mono (Same.refl _) fun q hp => ⟨r.well.fp hp, hq q fun z => h3 (by rw [← z]; exact hp)⟩
  · have : a ≠ p := fun z => by subst z; exact absurd (h2.symm.trans e1) (fun t => nomatch t)
    rw [hq a this]; exact r.keep a u e1 e2 e3
  · by_cases z : a = p
    · subst z; exact own.nt
    · rw [hq a z]; exact r.ioH a ha
  · rcases List.mem_cons.mp hq' with e | hm
    · subst e; exact ⟨h1, h2, h3, own⟩
    · obtain ⟨g1, g2, g3, g4⟩ := r.hid q (List.mem_cons_of_mem _ hm)
      have hne : q.1 ≠ p := fun z => (List.nodup_cons.mp r.hnd).1 (List.mem_map.mpr ⟨q, hm, z⟩)
      exact ⟨g1, g2, g3, g4.mono (Same.refl _) (hq q.1 hne)⟩
  · rcases List.mem_cons.mp hq' with e | hm
    · subst e; exact r.hap (p, d) List.mem_cons_self
    · exact r.hap q (List.mem_cons_of_mem _ hm)

theorem rn_lc {wi : TI} {tg : TG} {tt : TT} {te : TE} {s : DI} {g : DG} {t : DT} {e : DE} {is vs : List Nat} (ri : RI W B wi s) (rg : ∀ B', B'.io = B.io → RG W B' tg g is) (rt : ∀ B', B'.io = B.io → RT W B' tt t) (re : ∀ B', B'.io = B.io → RE W B' te e) (hs : ∀ i ∈ is, i ∈ vs) :
    RN W B (tLc wi tg tt te vs) (dLc s g t e vs) := by
  intro σ H F ρ Q R rl h k
  refine ri σ H F ρ _ _ rl h fun J H1 F1 ρ1 ds r1 s1 it h1 => ?_
  obtain ⟨no, h1⟩ := h1
  intro D hD
  have nD : New W B F1 (upd H1 D (.lst [])) σ ρ1 D (.lst []) := new_of r1 hD ⟨[], upd_same, rfl⟩
  have r1' : Rel W (B.hide D (.lst [])) F1 (upd H1 D (.lst [])) σ ρ1 := (r1.stp (Stp.lay (o := .lst []) r1.ex hD)).hide nD
  refine ⟨fun i m H => ∃ F2 ρ2 acc, Rel W (B.hide D (.lst acc)) F2 H σ ρ2 ∧ Same F1 F2 ∧ i ≤ ds.length ∧ m = ds.length - i ∧ noOwn ρ2 vs = true ∧ dLcL g t e vs (ds.drop i) ρ2 acc fun ρ2 acc => Q ρ2 (.lst acc),
    ⟨ds.length, F1, ρ1, [], r1', Same.refl _, Nat.zero_le _, rfl, no, h1⟩, ?_⟩
  rintro i m H2 ⟨F2, ρ2, acc, r2, s2, hi, rfl, no2, hq⟩
  obtain ⟨st, go⟩ := it F2 H2 s2 r2.ex
  by_cases hlt : i < ds.length
  · have hd : ds[i]? = some ds[i] := List.getElem?_eq_getElem hlt
    obtain ⟨g1, y1⟩ := go i _ hd
    rw [List.drop_eq_getElem_cons hlt] at hq
    refine .inr ⟨g1, fun H3 => ∃ F3 ρ3 acc, Rel W (B.hide D (.lst acc)) F3 H3 σ ρ3 ∧ Same F1 F3 ∧ noOwn ρ3 vs = true ∧ dLcL g t e vs (ds.drop (i + 1)) ρ3 acc fun ρ2 acc => Q ρ2 (.lst acc),
      fun H3 ⟨F3, ρ3, acc3, r3, s3, n3, q3⟩ => ⟨ds.length - (i + 1), by omega, F3, ρ3, acc3, r3, s3, hlt, rfl, n3, q3⟩, fun x H3 hy => ?_⟩
    obtain ⟨F3, st3, dx⟩ := y1 x H3 hy
    have r3 := r2.stp st3
    have r3w := r3.wiped vs
    have noBack : ∀ (ρx : Ev), ρx.sl.length = ρ2.sl.length → noOwn (ρ2.back vs ρx) vs = true := fun ρx hl => by
      refine List.all_eq_true.mpr fun j hj => ?_
      have := resS_get vs 0 ρ2.sl ρx.sl j hl
      rw [Nat.zero_add, if_pos (by simpa using hj)] at this
      have e2 : (ρ2.back vs ρx).sl[j]? = ρ2.sl[j]? := this
      rw [e2]
      exact List.all_eq_true.mp no2 j hj
    refine rg (B.hide D (.lst acc)) rfl (wipe σ vs) H3 F3 (ρ2.wipe vs) x _ _ _ r3w dx hq fun σ4 ρ4 r4 o4 l4 q4 => ?_
    have out4 : ∀ j, j ∉ vs → σ4[j]? = σ[j]? := fun j hj => (o4 j fun z => hj (hs j z)).trans (wipe_out hj)
    have len4 : σ4.length = σ.length := l4.trans (wipe_length _ _)
    have lenE : ∀ {F5 H5 ρ5} , Rel W (B.hide D (.lst acc)) F5 H5 σ4 ρ5 → ρ5.sl.length = ρ2.sl.length := fun {F5 H5 ρ5} r => by rw [← r.len, len4, r2.len]
    refine ⟨wipe_eq len4 out4, rt (B.hide D (.lst acc)) rfl σ4 H3 F3 ρ4 _ _ r4 q4 fun b H5 F5 ρ5 r5 s5 q5 => ?_⟩
    cases b with
    | false => exact iteF ⟨F5, ρ2.back vs ρ5, acc, r3.backed no2 s5 r5 out4 len4, (s2.trans st3.ff).trans s5, noBack ρ5 (lenE r5), q5⟩
    | true =>
      refine iteT (re (B.hide D (.lst acc)) rfl σ4 H5 F5 ρ5 _ _ r5 q5 fun y H6 F6 ρ6 dy r6 s6 d6 q6 => ?_)
      obtain ⟨_, _, _, ownD⟩ := r6.hid (D, .lst acc) List.mem_cons_self
      obtain ⟨xs, hxs, dxs⟩ := ownD
      refine ⟨xs, hxs, by rw [← dxs.length]; exact q6.1, F6, ρ2.back vs ρ6, acc ++ [dy], ?_, ((s2.trans st3.ff).trans s5).trans s6, noBack ρ6 (lenE r6), q6.2⟩
      exact (r3.backed no2 (s5.trans s6) r6 out4 len4).hset ⟨_, upd_same, dxs.append ⟨y, [], rfl, d6, rfl⟩⟩
  · have e : i = ds.length := by omega
    subst e
    rw [List.drop_length] at hq
    obtain ⟨r2', n2⟩ := r2.unhide
    exact .inl ⟨st, k D H2 F2 ρ2 _ r2' (s1.trans s2) n2 hq⟩
end
end DL

-- part DL4
set_option maxHeartbeats 4000000
namespace DL
open PySem L2

section
variable {W : Wd} {B : Bs} {F F' H H' : Hp} {σ : St} {ρ : Ev}

/-! ### built-in calls by values -/
theorem re_cb {r : List V → Hp → VK → Prop} {ta : TA} {a : DA} {g : List D → Ev → (Ev → D → Prop) → Prop} (ra : RA W B ta a)
    (hr : ∀ σ H F ρ vs ds Q (R : VK), Rel W B F H σ ρ → DenL W F ds vs → g ds ρ Q → (∀ v H' F' ρ' d, Rel W B F' H' σ ρ' → Same F F' → Den W F' d v → Q ρ' d → R v H') → r vs H R) :
    RE W B (tCB r ta) (fun ρ Q => a ρ fun ρ1 ds => g ds ρ1 Q) := by
  intro σ H F ρ Q R rl h k
  refine ra σ H F ρ _ _ rl h fun vs H1 F1 ρ1 ds r1 s1 d1 h1 => ?_
  exact hr σ H1 F1 ρ1 vs ds Q R r1 d1 h1 fun v H' F' ρ' d r' s' d' q => k v H' F' ρ' d r' (s1.trans s') d' q

theorem den1 {d : D} {vs : List V} (h : DenL W F [d] vs) : ∃ x, vs = [x] ∧ Den W F d x := by
  obtain ⟨x, r, e, hx, hr⟩ := h
  have hr : r = [] := hr
  subst hr
  exact ⟨x, e, hx⟩
theorem den2 {d e : D} {vs : List V} (h : DenL W F [d, e] vs) : ∃ x y, vs = [x, y] ∧ Den W F d x ∧ Den W F e y := by
  obtain ⟨x, r, e1, hx, hr⟩ := h
  obtain ⟨y, e2, hy⟩ := den1 hr
  subst e2
  exact ⟨x, y, e1, hx, hy⟩

def gLen : List D → Ev → (Ev → D → Prop) → Prop := fun ds ρ Q => match ds with
  | [.lst xs] => Q ρ (.int xs.length)
  | [.tup xs] => Q ρ (.int xs.length)
  | [.str x] => x.length ≤ sizeLine ∧ Q ρ (.int x.length)
  | _ => False
theorem re_len {ta : TA} {a : DA} (ra : RA W B ta a) : RE W B (tCB (fun xs H Q => ∃ x n, xs = [x] ∧ LenV W.K x H n ∧ Q (.int n) H) ta) (fun ρ Q => a ρ fun ρ1 ds => gLen ds ρ1 Q) :=
  re_cb ra fun σ H F ρ vs ds Q R r d h k => by
    unfold gLen at h
    split at h
    · obtain ⟨x, rfl, a, xs, rfl, hs, hd⟩ := den1 d
      exact ⟨_, _, rfl, .inl ⟨xs, same_sqL r.ex hs, rfl⟩, k _ H F ρ (.int _) r (Same.refl _) (by rw [← hd.length]; rfl) h⟩
    · obtain ⟨x, rfl, a, xs, rfl, hs, hd⟩ := den1 d
      exact ⟨_, _, rfl, .inr ⟨xs, sqT_of r.ex hs, rfl⟩, k _ H F ρ (.int _) r (Same.refl _) (by rw [← hd.length]; rfl) h⟩
    · rename_i z
      obtain ⟨x, rfl, hx⟩ := den1 d
      have hx : x = .str z := hx
      subst hx
      exact ⟨_, _, rfl, ⟨h.1, rfl⟩, k _ H F ρ (.int _) r (Same.refl _) rfl h.2⟩
    · exact h.elim
def gInt : List D → Ev → (Ev → D → Prop) → Prop := fun ds ρ Q => match ds with
  | [.int i] => Q ρ (.int i)
  | [.bl b] => Q ρ (.int (if b then 1 else 0))
  | _ => False
theorem re_int {ta : TA} {a : DA} (ra : RA W B ta a) : RE W B (tCB (fun xs H Q => (∃ i, xs = [.int i] ∧ Q (.int i) H) ∨ ∃ k, xs = [.bl k] ∧ Q (.int (if k then 1 else 0)) H) ta) (fun ρ Q => a ρ fun ρ1 ds => gInt ds ρ1 Q) :=
  re_cb ra fun σ H F ρ vs ds Q R r d h k => by
    unfold gInt at h
    split at h
    · obtain ⟨x, rfl, hx⟩ := den1 d
      have hx : x = .int _ := hx
      subst hx
      exact .inl ⟨_, rfl, k _ H F ρ (.int _) r (Same.refl _) rfl h⟩
    · obtain ⟨x, rfl, hx⟩ := den1 d
      have hx : x = .bl _ := hx
      subst hx
      exact .inr ⟨_, rfl, k _ H F ρ (.int _) r (Same.refl _) rfl h⟩
    · exact h.elim
def gAbs : List D → Ev → (Ev → D → Prop) → Prop := fun ds ρ Q => match ds with
  | [.int i] => Q ρ (.int (if i < 0 then -i else i))
  | _ => False
theorem re_abs {ta : TA} {a : DA} (ra : RA W B ta a) : RE W B (tCB (fun xs H Q => ∃ i, xs = [.int i] ∧ Q (.int (if i < 0 then -i else i)) H) ta) (fun ρ Q => a ρ fun ρ1 ds => gAbs ds ρ1 Q) :=
  re_cb ra fun σ H F ρ vs ds Q R r d h k => by
    unfold gAbs at h
    split at h
    · obtain ⟨x, rfl, hx⟩ := den1 d
      have hx : x = .int _ := hx
      subst hx
      exact ⟨_, rfl, k _ H F ρ (.int _) r (Same.refl _) rfl h⟩
    · exact h.elim
def gTupOf : List D → Ev → (Ev → D → Prop) → Prop := fun ds ρ Q => match ds with
  | [.lst xs] => Q ρ (.tup xs)
  | [.tup xs] => Q ρ (.tup xs)
  | _ => False
theorem re_tupOf {ta : TA} {a : DA} (ra : RA W B ta a) : RE W B (tCB (fun xs H Q => ∃ p ys, xs = [.ref p] ∧ ((SqL W.K H p ys ∧ ∀ l, H l = none → Q (.ref l) (upd H l (.tup ys))) ∨ (SqT W.K H p ys ∧ Q (.ref p) H))) ta) (fun ρ Q => a ρ fun ρ1 ds => gTupOf ds ρ1 Q) :=
  re_cb ra fun σ H F ρ vs ds Q R r d h k => by
    unfold gTupOf at h
    split at h
    · obtain ⟨x, rfl, a, xs, rfl, hs, hd⟩ := den1 d
      refine ⟨a, xs, rfl, .inl ⟨same_sqL r.ex hs, fun l hl => ?_⟩⟩
      have st := Stp.one (o := .tup xs) r.ex hl
      exact k _ _ _ ρ (.tup _) (r.stp st) st.ff ⟨l, xs, rfl, upd_same, hd.mono st.ff⟩ h
    · obtain ⟨x, rfl, a, xs, rfl, hs, hd⟩ := den1 d
      exact ⟨a, xs, rfl, .inr ⟨sqT_of r.ex hs, k _ H F ρ (.tup _) r (Same.refl _) ⟨a, xs, rfl, hs, hd⟩ h⟩⟩
    · exact h.elim
def gLstOf : List D → Ev → (Ev → D → Prop) → Prop := fun ds ρ Q => match ds with
  | [.lst xs] => Q ρ (.lst xs)
  | [.tup xs] => Q ρ (.lst xs)
  | _ => False
theorem rn_lstOf {ta : TA} {a : DA} (ra : RA W B ta a) : RN W B (tCB (fun xs H Q => ∃ p ys, xs = [.ref p] ∧ (SqL W.K H p ys ∨ SqT W.K H p ys) ∧ ∀ l, H l = none → Q (.ref l) (upd H l (.lst ys))) ta) (fun ρ Q => a ρ fun ρ1 ds => gLstOf ds ρ1 Q) := by
  intro σ H F ρ Q R rl h k
  refine ra σ H F ρ _ _ rl h fun vs H1 F1 ρ1 ds r1 s1 d1 h1 => ?_
  unfold gLstOf at h1
  split at h1
  · obtain ⟨x, rfl, a, xs, rfl, hs, hd⟩ := den1 d1
    refine ⟨a, xs, rfl, .inl (same_sqL r1.ex hs), fun p hp => ?_⟩
    exact k p _ _ _ (.lst _) (r1.stp (Stp.lay (o := .lst xs) r1.ex hp)) s1 (new_of r1 hp ⟨xs, upd_same, hd⟩) h1
  · obtain ⟨x, rfl, a, xs, rfl, hs, hd⟩ := den1 d1
    refine ⟨a, xs, rfl, .inr (sqT_of r1.ex hs), fun p hp => ?_⟩
    exact k p _ _ _ (.lst _) (r1.stp (Stp.lay (o := .lst xs) r1.ex hp)) s1 (new_of r1 hp ⟨xs, upd_same, hd⟩) h1
  · exact h1.elim

/-! ### subscripts -/
def gIxL : D → D → Ev → (Ev → D → Prop) → Prop := fun x y ρ Q => match x, y with
  | .lst ds, .int i => match atI ds i with | some d => Q ρ d | none => False
  | _, _ => False
def gIxT : D → D → Ev → (Ev → D → Prop) → Prop := fun x y ρ Q => match x, y with
  | .tup ds, .int i => match atI ds i with | some d => Q ρ d | none => False
  | _, _ => False
theorem denL_at {ds : List D} {xs : List V} {i : Int} {d : D} (h : DenL W F ds xs) (e : atI ds i = some d) : ∃ x, atI xs i = some x ∧ Den W F d x := by
  unfold atI at e ⊢
  rw [← h.length]
  cases q : ixN ds.length i with
  | none => rw [q] at e; cases e
  | some j =>
    rw [q] at e
    exact h.get e
theorem re_ixL {ta tb : TE} {a b : DE} (ra : RE W B ta a) (rb : RE W B tb b) : RE W B (tOp (rIxL W.K) ta tb) (fun ρ Q => a ρ fun ρ1 x => b ρ1 fun ρ2 y => gIxL x y ρ2 Q) :=
  re_bin ra rb fun σ H F ρ x y dx dy Q R r d1 d2 h k => by
    unfold gIxL at h
    split at h
    · obtain ⟨p, xs, e, hs, hd⟩ := d1
      split at h
      · rename_i d ed
        obtain ⟨v, hv, dv⟩ := denL_at hd ed
        exact ⟨p, xs, _, v, e, d2, same_sqL r.ex hs, hv, k v H F ρ d r (Same.refl _) dv h⟩
      · exact h.elim
    · exact h.elim
theorem re_ixT {ta tb : TE} {a b : DE} (ra : RE W B ta a) (rb : RE W B tb b) : RE W B (tOp (rIxT W.K) ta tb) (fun ρ Q => a ρ fun ρ1 x => b ρ1 fun ρ2 y => gIxT x y ρ2 Q) :=
  re_bin ra rb fun σ H F ρ x y dx dy Q R r d1 d2 h k => by
    unfold gIxT at h
    split at h
    · obtain ⟨p, xs, e, hs, hd⟩ := d1
      split at h
      · rename_i d ed
        obtain ⟨v, hv, dv⟩ := denL_at hd ed
        exact ⟨p, xs, _, v, e, d2, sqT_of r.ex hs, hv, k v H F ρ d r (Same.refl _) dv h⟩
      · exact h.elim
    · exact h.elim
/-- a list or a tuple -/
def gIx : D → D → Ev → (Ev → D → Prop) → Prop := fun x y ρ Q => match x, y with
  | .lst ds, .int i => match atI ds i with | some d => Q ρ d | none => False
  | .tup ds, .int i => match atI ds i with | some d => Q ρ d | none => False
  | _, _ => False
theorem re_ix {ta tb : TE} {a b : DE} (ra : RE W B ta a) (rb : RE W B tb b) : RE W B (tOp (fun x y H Q => rIxL W.K x y H Q ∨ rIxT W.K x y H Q) ta tb) (fun ρ Q => a ρ fun ρ1 x => b ρ1 fun ρ2 y => gIx x y ρ2 Q) :=
  re_bin ra rb fun σ H F ρ x y dx dy Q R r d1 d2 h k => by
    unfold gIx at h
    split at h
    · obtain ⟨p, xs, e, hs, hd⟩ := d1
      split at h
      · rename_i d ed
        obtain ⟨v, hv, dv⟩ := denL_at hd ed
        exact .inl ⟨p, xs, _, v, e, d2, same_sqL r.ex hs, hv, k v H F ρ d r (Same.refl _) dv h⟩
      · exact h.elim
    · obtain ⟨p, xs, e, hs, hd⟩ := d1
      split at h
      · rename_i d ed
        obtain ⟨v, hv, dv⟩ := denL_at hd ed
        exact .inr ⟨p, xs, _, v, e, d2, sqT_of r.ex hs, hv, k v H F ρ d r (Same.refl _) dv h⟩
      · exact h.elim
    · exact h.elim

/-! ### data: == and != -/
mutual
def toP : D → Option PyData
  | .non => some .none
  | .bl b => some (.bool b)
  | .int i => some (.int i)
  | .str x => some (.str x)
  | .lst ds => (toPs ds).map .list
  | .tup ds => (toPs ds).map .tuple
  | _ => none
def toPs : List D → Option (List PyData)
  | [] => some []
  | d :: ds => match toP d, toPs ds with
    | some p, some ps => some (p :: ps)
    | _, _ => none
end
mutual
theorem dp_of (e : Same F H) : ∀ {d : D} {v : V} {p : PyData}, Den W F d v → toP d = some p → Dp W.K H v p
  | .non, _, _, h, t => by cases t; rw [show _ = V.non from h]; exact .non
  | .bl b, _, _, h, t => by cases t; rw [show _ = V.bl b from h]; exact .bl b
  | .int i, _, _, h, t => by cases t; rw [show _ = V.int i from h]; exact .int i
  | .str x, _, _, h, t => by cases t; rw [show _ = V.str x from h]; exact .str x
  | .lst ds, _, p, ⟨a, xs, ev, hs, hd⟩, t => by
    unfold toP at t
    cases q : toPs ds with
    | none => rw [q] at t; cases t
    | some ps =>
      rw [q] at t; cases t
      subst ev
      exact .lst (same_sqL e hs) (dps_of e hd q)
  | .tup ds, _, p, ⟨a, xs, ev, hs, hd⟩, t => by
    unfold toP at t
    cases q : toPs ds with
    | none => rw [q] at t; cases t
    | some ps =>
      rw [q] at t; cases t
      subst ev
      exact .tup (sqT_of e hs) (dps_of e hd q)
  | .obj _ _ _, _, _, _, t => by cases t
  | .exc _ _ _, _, _, _, t => by cases t
  | .dik _ _, _, _, _, t => by cases t
  | .dic _ _, _, _, _, t => by cases t
  | .opq _, _, _, _, t => by cases t
  | .well, _, _, _, t => by cases t
theorem dps_of (e : Same F H) : ∀ {ds : List D} {xs : List V} {ps : List PyData}, DenL W F ds xs → toPs ds = some ps → DpAll W.K H xs ps
  | [], _, _, h, t => by cases t; rw [show _ = [] from h]; exact .nil
  | d :: ds, _, ps, ⟨x, r, ev, h1, h2⟩, t => by
    unfold toPs at t
    subst ev
    cases q : toP d with
    | none => rw [q] at t; cases t
    | some p =>
      cases q2 : toPs ds with
      | none => rw [q, q2] at t; cases t
      | some rs =>
        rw [q, q2] at t; cases t
        exact .cons (dp_of e h1 q) (dps_of e h2 q2)
end
/-- == of data; none where they are none, or too deep -/
def eqD (x y : D) : Option Bool := match toP x, toP y with
  | some p, some q => bif SeqAt.shaped p && SeqAt.shaped q then some (PyData.eqv p q) else none
  | _, _ => none
def gEq : D → D → Ev → (Ev → D → Prop) → Prop := fun x y ρ Q => ∃ b, eqD x y = some b ∧ Q ρ (.bl b)
def gNe : D → D → Ev → (Ev → D → Prop) → Prop := fun x y ρ Q => ∃ b, eqD x y = some b ∧ Q ρ (.bl (!b))
theorem eqD_some {x y : D} {b : Bool} (h : eqD x y = some b) : ∃ p q, toP x = some p ∧ toP y = some q ∧ SeqAt.shaped p = true ∧ SeqAt.shaped q = true ∧ PyData.eqv p q = b := by
  unfold eqD at h
  split at h
  · rename_i p q hp hq
    cases hs : (SeqAt.shaped p && SeqAt.shaped q) with
    | false => rw [hs] at h; cases h
    | true =>
      rw [hs] at h
      rw [Bool.and_eq_true] at hs
      exact ⟨p, q, hp, hq, hs.1, hs.2, Option.some.inj h⟩
  · cases h
theorem re_eqD {ta tb : TE} {a b : DE} (ra : RE W B ta a) (rb : RE W B tb b) : RE W B (tOp (rEqD W.K) ta tb) (fun ρ Q => a ρ fun ρ1 x => b ρ1 fun ρ2 y => gEq x y ρ2 Q) :=
  re_bin ra rb fun σ H F ρ x y dx dy Q R r d1 d2 h k => by
    obtain ⟨c, ec, h⟩ := h
    obtain ⟨p, q, hp, hq, s1, s2, e⟩ := eqD_some ec
    exact ⟨p, q, dp_of r.ex d1 hp, dp_of r.ex d2 hq, s1, s2, k _ H F ρ (.bl c) r (Same.refl _) (by rw [e]; rfl) h⟩
theorem re_neD {ta tb : TE} {a b : DE} (ra : RE W B ta a) (rb : RE W B tb b) : RE W B (tOp (rNeD W.K) ta tb) (fun ρ Q => a ρ fun ρ1 x => b ρ1 fun ρ2 y => gNe x y ρ2 Q) :=
  re_bin ra rb fun σ H F ρ x y dx dy Q R r d1 d2 h k => by
    obtain ⟨c, ec, h⟩ := h
    obtain ⟨p, q, hp, hq, s1, s2, e⟩ := eqD_some ec
    exact ⟨p, q, dp_of r.ex d1 hp, dp_of r.ex d2 hq, s1, s2, k _ H F ρ (.bl (!c)) r (Same.refl _) (by rw [e]; rfl) h⟩
/-- is None -/
def isNonD : D → Bool
  | .non => true
  | .opq v => decide (v = .non)
  | _ => false
theorem isNon_den {d : D} {v : V} (h : Den W F d v) : decide (v = V.non) = isNonD d := by
  cases d with
  | non => rw [show v = V.non from h]; rfl
  | bl b => rw [show v = V.bl b from h]; rfl
  | int i => rw [show v = V.int i from h]; rfl
  | str x => rw [show v = V.str x from h]; rfl
  | lst ds => obtain ⟨a, xs, e, _⟩ := h; rw [e]; rfl
  | tup ds => obtain ⟨a, xs, e, _⟩ := h; rw [e]; rfl
  | obj c ns ds => obtain ⟨a, C, dx, gs, e, _⟩ := h; rw [e]; rfl
  | exc c ns ds => obtain ⟨a, gs, e, _⟩ := h; rw [e]; rfl
  | dik ks vs => obtain ⟨a, kvs, e, _⟩ := h; rw [e]; rfl
  | dic ks vs => obtain ⟨a, kvs, e, _⟩ := h; rw [e]; rfl
  | opq u => rw [show v = u from h]; rfl
  | well => obtain ⟨p, _, e⟩ := h; rw [e]; rfl
theorem re_isN {ta : TE} {a : DE} (ra : RE W B ta a) : RE W B (tIsN ta) (fun ρ Q => a ρ fun ρ1 x => Q ρ1 (.bl (isNonD x))) := by
  intro σ H F ρ Q R rl h k
  exact ra σ H F ρ _ _ rl h fun x H1 F1 ρ1 dx r1 s1 d1 h1 => k _ H1 F1 ρ1 (.bl (isNonD dx)) r1 s1 (by rw [isNon_den d1]; rfl) h1
theorem re_notN {ta : TE} {a : DE} (ra : RE W B ta a) : RE W B (tNotN ta) (fun ρ Q => a ρ fun ρ1 x => Q ρ1 (.bl (!isNonD x))) := by
  intro σ H F ρ Q R rl h k
  exact ra σ H F ρ _ _ rl h fun x H1 F1 ρ1 dx r1 s1 d1 h1 => k _ H1 F1 ρ1 (.bl (!isNonD dx)) r1 s1 (by rw [isNon_den d1]; rfl) h1

/-! ### isinstance -/
/-- k tells of trees what isinstance tells of the class u (none where it does not know) -/
def tyD (W : Wd) : D → Option Value
  | .non => some (.type "NoneType") | .bl _ => some (.type "bool") | .int _ => some (.type "int") | .str _ => some (.type "str") | .lst _ => some (.type "list") | .tup _ => some (.type "tuple") | .dik _ _ => some (.type "dict") | .dic _ _ => some (.type "dict")
  | .obj c _ _ => (W.cls c).map .ref
  | .exc C _ _ => some (.ref C)
  | .opq _ => none
  | .well => some (.type "list")
def KOk (W : Wd) (k : D → Option Bool) (u : Value) : Prop := ∀ d b, k d = some b → ∃ t, tyD W d = some t ∧ PySem.W.kitOne W.K t u = some b ∧ ∀ F H v, Same F H → Den W F d v → TyX W.K H v t
theorem tyx_lst {a : Addr} {xs : List V} (h : SqL W.K H a xs) : TyX W.K H (.ref a) (.type "list") := by
  rcases h with (h | ⟨o, h⟩) | ⟨o, its, n, h1, h2, _⟩
  · exact .base (.lst h)
  · exact .base (.frz h)
  · exact .kList h1 h2
theorem tyx_tup {a : Addr} {xs : List V} (h : SqT W.K H a xs) : TyX W.K H (.ref a) (.type "tuple") := by
  rcases h with (h | ⟨o, h⟩) | ⟨o, its, n, h1, h2, _⟩
  · exact .base (.tup h)
  · exact .fTuple h
  · exact .kTuple h1 h2
def tyName : D → Option String
  | .non => some "NoneType" | .bl _ => some "bool" | .int _ => some "int" | .str _ => some "str" | .lst _ => some "list" | .tup _ => some "tuple" | .dik _ _ => some "dict" | .dic _ _ => some "dict" | _ => none
theorem tyx_of (e : Same F H) {d : D} {v : V} {T : String} (h : Den W F d v) (t : tyName d = some T) : TyX W.K H v (.type T) := by
  cases d with
  | non => cases t; rw [show v = V.non from h]; exact .base .non
  | bl b => cases t; rw [show v = V.bl b from h]; exact .base (.bl b)
  | int i => cases t; rw [show v = V.int i from h]; exact .base (.int i)
  | str x => cases t; rw [show v = V.str x from h]; exact .base (.str x)
  | lst ds => cases t; obtain ⟨a, xs, ev, hs, _⟩ := h; rw [ev]; exact tyx_lst (same_sqL e hs)
  | tup ds => cases t; obtain ⟨a, xs, ev, hs, _⟩ := h; rw [ev]; exact tyx_tup (sqT_of e hs)
  | dik ks vs => cases t; obtain ⟨a, kvs, ev, hf, _⟩ := h; rw [ev]; exact .base (.dK (e _ _ hf))
  | dic ks vs => cases t; obtain ⟨a, kvs, ev, hf, _⟩ := h; rw [ev]; exact .base (.dT (e _ _ hf))
  | obj c ns ds => cases t
  | exc _ _ _ => cases t
  | opq u => cases t
  | well => cases t
def gIsi (k : D → Option Bool) : List D → Ev → (Ev → D → Prop) → Prop := fun ds ρ Q => match ds with
  | [x, .opq _] => match k x with | some b => Q ρ (.bl b) | none => False
  | _ => False
/-- isinstance(x, C): the class's value is c -/
theorem re_isi {te : TE} {t : DE} {c : V} {u : Value} {k : D → Option Bool} (re : RE W B te t) (hc : ClsV c u) (hk : KOk W k u) :
    RE W B (tCB (rIsi W.K) (tCons te (tCons (tC c) tNil))) (fun ρ Q => t ρ fun ρ1 x => ∃ b, k x = some b ∧ Q ρ1 (.bl b)) := by
  intro σ H F ρ Q R rl h kk
  refine re σ H F ρ _ _ rl h fun x H1 F1 ρ1 dx r1 s1 d1 h1 => ?_
  obtain ⟨b, eb, h1⟩ := h1
  obtain ⟨ty, _, h3, h2⟩ := hk dx b eb
  exact ⟨x, c, ty, u, b, rfl, hc, h2 F1 H1 x r1.ex d1, h3, kk _ H1 F1 ρ1 (.bl b) r1 s1 rfl h1⟩
/-- isinstance(x, (C1, C2)) -/
theorem re_isi2 {te : TE} {t : DE} {c1 c2 : V} {u1 u2 : Value} {k1 k2 : D → Option Bool} (re : RE W B te t) (hc1 : ClsV c1 u1) (hc2 : ClsV c2 u2) (hk1 : KOk W k1 u1) (hk2 : KOk W k2 u2) :
    RE W B (tCB (rIsiT W.K) (tCons te (tCons (tTup (tCons (tC c1) (tCons (tC c2) tNil))) tNil))) (fun ρ Q => t ρ fun ρ1 x => ∃ b1 b2, k1 x = some b1 ∧ k2 x = some b2 ∧ Q ρ1 (.bl (b1 || b2))) := by
  intro σ H F ρ Q R rl h kk
  refine re σ H F ρ _ _ rl h fun x H1 F1 ρ1 dx r1 s1 d1 h1 => ?_
  obtain ⟨b1, b2, e1, e2, h1⟩ := h1
  · refine ⟨by show 2 ≤ sizeLine; decide, fun p hp => ?_⟩
    have st := Stp.one (o := .tup [c1, c2]) r1.ex hp
    obtain ⟨ty1, t1, g2, g1⟩ := hk1 dx b1 e1
    obtain ⟨ty2, t2, same, _⟩ := hk2 dx b2 e2
    have et : ty2 = ty1 := Option.some.inj (t2.symm.trans t1)
    rw [et] at same
    refine ⟨x, p, [c1, c2], ty1, [u1, u2], b1 || b2, rfl, upd_same, .cons hc1 (.cons hc2 .nil), g1 _ _ x st.fh (d1.mono st.ff), ?_, kk _ _ _ ρ1 (.bl (b1 || b2)) (r1.stp st) (s1.trans st.ff) rfl h1⟩
    refine kitAny_cons g2 (fun e => ?_) (fun e => by rw [e]; rfl)
    rw [e]
    refine kitAny_cons same (fun e2 => ?_) (fun e2 => by rw [e2]; rfl)
    rw [e2]
    exact kitAny_nil
end
end DL

-- part DL5
set_option maxHeartbeats 4000000
namespace DL
open PySem L2

/-- what a def does, over trees: its arguments, the draws so far, what is wanted of its value and of the draws -/
abbrev GF := List D → Nat → (D → Nat → Prop) → Prop

/-- the base at a def's entry -/
def bs0 (F H : Hp) : Bs := ⟨F, H, [], []⟩
/-- what is kept from H to H' by a call: all but the well and the objects in io -/
structure Kept (F H F' H' : Hp) (pw : Option Addr) (io : List Addr) : Prop where
  ff : Same F F'
  fh : Same F' H'
  hh : ∀ a o, H a = some o → pw ≠ some a → a ∉ io → H' a = some o
  new : ∀ a, nt (H a) → F a = none → F' a = none

/-- the promise of a def that changes nothing but the well -/
def spD (K : PySem.W.Frag) (cls : Str → Option Addr) (G : GF) : Sp := fun vs H Q _ => ∃ (F : Hp) (ds : List D) (c : Nat) (pw : Option Addr) (QD : D → Nat → Prop), Same F H ∧ DenL ⟨K, cls, pw⟩ F ds vs ∧ WellOk ⟨K, cls, pw⟩ (bs0 F H) F H c ∧ G ds c QD ∧
  ∀ v H' F' d c', Kept F H F' H' pw [] → Den ⟨K, cls, pw⟩ F' d v → WellOk ⟨K, cls, pw⟩ (bs0 F H) F' H' c' → QD d c' → Q v H'

section
variable {W : Wd} {B : Bs} {F F' H H' : Hp} {σ : St} {ρ : Ev}
theorem WellOk.base {B B' : Bs} {c : Nat} (h : WellOk W B F H c) (hio : ∀ p, W.pw = some p → p ∉ B'.io) : WellOk W B' F H c := by
  unfold WellOk at h ⊢
  cases q : W.pw with
  | none => trivial
  | some p =>
    rw [q] at h
    obtain ⟨h1, h2, h3⟩ := h
    exact ⟨h1, hio p q, h3⟩
/-- the entry -/
def ent (n : Nat) (ds : List D) (c : Nat) : Ev := ⟨ds.map .v ++ List.replicate (n - ds.length) Sl.un, c⟩
theorem rel_start {N : List Str} {vs : List V} {ds : List D} {c : Nat} (ex : Same F H) (hd : DenL W F ds vs) (w : WellOk W (bs0 F H) F H c) (hn : ds.length ≤ N.length) :
    Rel W (bs0 F H) F H (start N vs) (ent N.length ds c) := by
  have hl := hd.length
  have get : ∀ (i : Nat) (s : Sl), (ent N.length ds c).sl[i]? = some s → (s = .un ∨ ∃ d v, s = .v d ∧ (start N vs)[i]? = some (some v) ∧ Den W F d v) := fun i s h => by
    unfold ent at h
    by_cases hi : i < ds.length
    · rw [List.getElem?_append_left (by rw [List.length_map]; exact hi), List.getElem?_map] at h
      have e : ds[i]? = some ds[i] := List.getElem?_eq_getElem hi
      rw [e] at h
      obtain ⟨v, hv, dv⟩ := hd.get e
      refine .inr ⟨_, v, (Option.some.inj h).symm, ?_, dv⟩
      unfold L2.start
      rw [List.getElem?_append_left (by rw [List.length_map, ← hl]; exact hi), List.getElem?_map, hv]
      rfl
    · rw [List.getElem?_append_right (by rw [List.length_map]; omega), List.getElem?_replicate] at h
      split at h
      · exact .inl (Option.some.inj h).symm
      · cases h
  refine ⟨ex, ?_, fun i s h => ?_, fun i j d e p h => ?_, w, fun a o h _ _ => h, fun a h1 h2 => h2, Same.refl _, (fun a ha => nomatch ha), (fun q hq => nomatch hq), (fun q hq => nomatch hq), List.nodup_nil⟩
  · show (start N vs).length = (ds.map Sl.v ++ List.replicate (N.length - ds.length) Sl.un).length
    unfold L2.start
    simp only [List.length_append, List.length_map, List.length_replicate]
    omega
  · rcases get i s h with e | ⟨d, v, e, hv, dv⟩
    · subst e; trivial
    · subst e; exact ⟨v, hv, dv⟩
  · rcases get i _ h with e | ⟨d, v, e, _⟩ <;> cases e

/-- a def's body keeps its promise -/
theorem body_of {K : PySem.W.Frag} {cls : Str → Option Addr} {G : GF} {N : List Str} {ts : TS} {T : DS} {vs : List V} {Q : VK} {E : XK} (rs : ∀ pw B, B.io = [] → RS ⟨K, cls, pw⟩ B ts T)
    (hG : ∀ ds c QD, G ds c QD → ds.length ≤ N.length ∧ T { nx := fun ρ => QD .non ρ.c, rt := fun ρ d => QD d ρ.c } (ent N.length ds c))
    (h : spD K cls G vs H Q E) : ts { nx := fun _ H' => Q .non H', rt := Q } (start N vs) H := by
  obtain ⟨F, ds, c, pw, QD, ex, hd, w, g, k⟩ := h
  obtain ⟨hn, ht⟩ := hG ds c QD g
  have kp : ∀ {F' H' σ' ρ'}, Rel ⟨K, cls, pw⟩ (bs0 F H) F' H' σ' ρ' → Kept F H F' H' pw [] := fun {F' H' σ' ρ'} r =>
    ⟨r.f0, r.ex, fun a o h1 h2 h3 => r.keep a o h1 h2 h3, fun a h1 h2 => r.new a h1 h2⟩
  refine rs pw (bs0 F H) rfl (start N vs) H F (ent N.length ds c) _ _ (rel_start ex hd w hn) ht ⟨fun σ' H' F' ρ' r' s' q => ?_, fun σ' H' F' ρ' r' s' q => q.elim, fun σ' H' F' ρ' r' s' q => q.elim, fun σ' H' F' ρ' d v r' s' dv q => ?_⟩
  · exact k .non H' F' .non ρ'.c (kp r') rfl r'.well q
  · exact k v H' F' d ρ'.c (kp r') dv r'.well q
/-- a def of the text keeps its promise, by its body's reading over trees -/
theorem len_of {K : PySem.W.Frag} {cls : Str → Option Addr} {G : GF} {n : Nat} (hG : ∀ ds c QD, G ds c QD → ds.length = n) {vs : List V} {Q : VK} {E : XK} (h : spD K cls G vs H Q E) : vs.length = n := by
  obtain ⟨F, ds, c, pw, QD, ex, hd, w, g, k⟩ := h
  rw [← hd.length]; exact hG ds c QD g

/-- behind a call -/
theorem Rel.called {c' : Nat} (r : Rel W B F H σ ρ) (k : Kept F H F' H' W.pw []) (w : WellOk W (bs0 F H) F' H' c') : Rel W B F' H' σ (ρ.cnt c') := by
  have wk : WellOk W B F' H' c' := w.base fun p hp => by
    have := r.well
    unfold WellOk at this
    rw [hp] at this
    exact this.2.1
  have hne : ∀ {p : Addr} {o : HO}, H p = some o → H p ≠ none := fun h q => by rw [h] at q; cases q
  have keepO : ∀ {p : Addr} {d : D}, OwnAt W F H p d → F p = none → W.pw ≠ some p → F' p = none ∧ OwnAt W F' H' p d := fun {p d} own fp hw => by
    obtain ⟨o, ho⟩ := own.ne
    exact ⟨k.new p own.nt fp, own.mono k.ff ((k.hh p o ho hw (fun z => nomatch z)).trans ho.symm)⟩
  refine ⟨k.fh, r.len, fun i s h => ?_, r.inj, wk, fun a o h1 h2 h3 => k.hh a o (r.keep a o h1 h2 h3) h2 (fun z => nomatch z), fun a h1 h2 => ?_, r.f0.trans k.ff, fun a ha => ?_, fun q hq => ?_, r.hap, r.hnd⟩
  · have q := r.sl i s h
    cases s with
    | un => trivial
    | v d => obtain ⟨u, e, hd⟩ := q; exact ⟨u, e, hd.mono k.ff⟩
    | o d =>
      obtain ⟨p, e, fp, h0, hw, own⟩ := q
      obtain ⟨f', own'⟩ := keepO own fp hw
      exact ⟨p, e, f', h0, hw, own'⟩
  · exact k.new a (r.ntH h1) (r.new a h1 h2)
  · have hw : W.pw ≠ some a := fun e => by
      have w := r.well
      unfold WellOk at w
      rw [e] at w
      exact w.2.1 ha
    exact nt_eq (r.ioH a ha) fun o q => k.hh a o q hw (fun z => nomatch z)
  · obtain ⟨h1, h2, h3, h4⟩ := r.hid q hq
    obtain ⟨f', own'⟩ := keepO h4 h1 h3
    exact ⟨f', h2, h3, own'⟩
/-- from a body: what a callee is told -/
theorem Rel.spD {G : GF} {vs : List V} {ds : List D} {Q : Ev → D → Prop} {R : VK} {E : XK} (r : Rel W B F H σ ρ) (hd : DenL W F ds vs) (g : G ds ρ.c fun d c' => Q (ρ.cnt c') d)
    (k : ∀ v H' F' ρ' d, Rel W B F' H' σ ρ' → Same F F' → Den W F' d v → Q ρ' d → R v H') : DL.spD W.K W.cls G vs H R E :=
  ⟨F, ds, ρ.c, W.pw, _, r.ex, hd, r.well.base (fun p hp z => nomatch z), g, fun v H' F' d c' kp dv w q => k v H' F' _ d (r.called kp w) kp.ff dv q⟩

def dCall (G : GF) (a : DA) : DE := fun ρ Q => a ρ fun ρ1 ds => G ds ρ1.c fun d c' => Q (ρ1.cnt c') d
theorem re_call {G : GF} {ta : TA} {a : DA} {E : XK} (ra : RA W B ta a) : RE W B (tCall (spD W.K W.cls G) [] E ta) (dCall G a) := by
  intro σ H F ρ Q R rl h k
  refine ra σ H F ρ _ _ rl h fun vs H1 F1 ρ1 ds r1 s1 d1 h1 => ?_
  rw [List.append_nil]
  exact r1.spD d1 h1 fun v H' F' ρ' d r' s' dv q => k v H' F' ρ' d r' (s1.trans s') dv q
/-- o.m(..) -/
def dMeth (c m : Str) (G : GF) (t : DE) (a : DA) : DE := fun ρ Q => t ρ fun ρ1 x => match x with
  | .obj c' ns ds => c' = c ∧ m ∉ ns ∧ a ρ1 fun ρ2 es => G (.obj c' ns ds :: es) ρ2.c fun d c' => Q (ρ2.cnt c') d
  | _ => False
theorem lookup_none {gs : List (Str × V)} {m : Str} (h : m ∉ gs.map (·.1)) : gs.lookup m = none := by
  induction gs with
  | nil => rfl
  | cons g r ih =>
    obtain ⟨k, v⟩ := g
    rw [List.map_cons, List.mem_cons, not_or] at h
    have hb : (m == k) = false := beq_eq_false_iff_ne.mpr h.1
    rw [List.lookup_cons, hb]
    exact ih h.2
theorem re_meth {C : Addr} {c m : Str} {G : GF} {te : TE} {t : DE} {ta : TA} {a : DA} {E : XK} (hc : W.cls c = some C) (re : RE W B te t) (ra : RA W B ta a) : RE W B (tMeth C m (spD W.K W.cls G) [] E te ta) (dMeth c m G t a) := by
  intro σ H F ρ Q R rl h k
  refine re σ H F ρ _ _ rl h fun x H1 F1 ρ1 dx r1 s1 d1 h1 => ?_
  split at h1
  · rename_i c' ns ds
    obtain ⟨e, hm, h1⟩ := h1
    subst e
    have d1' := d1
    obtain ⟨p, C', dx, gs, ev, hf, hc', hn, hl⟩ := d1
    have : C' = C := Option.some.inj (hc'.symm.trans hc)
    subst this
    refine ⟨p, dx, gs, ev, r1.ex _ _ hf, lookup_none (by rw [hn]; exact hm), ?_⟩
    refine ra σ H1 F1 ρ1 _ _ r1 h1 fun vs H2 F2 ρ2 es r2 s2 d2 h2 => ?_
    rw [List.append_nil]
    exact r2.spD (.cons (d1'.mono s2) d2) h2 fun v H' F' ρ' d r' s' dv q => k v H' F' ρ' d r' ((s1.trans s2).trans s') dv q
  · exact h1.elim
/-! ### attributes -/
def fldD : List Str → List D → Str → Option D
  | n :: ns, d :: ds, f => bif n == f then some d else fldD ns ds f
  | _, _, _ => none
def dFld (t : DE) (f : Str) : DE := fun ρ Q => t ρ fun ρ1 x => match x with
  | .obj _ ns ds => match fldD ns ds f with | some d => Q ρ1 d | none => False
  | _ => False
theorem fld_lookup {f : Str} {d : D} : ∀ {gs : List (Str × V)} {ds : List D}, DenL W F ds (gs.map (·.2)) → fldD (gs.map (·.1)) ds f = some d → ∃ v, gs.lookup f = some v ∧ Den W F d v
  | [], [], _, e => by cases e
  | (n, v) :: gs, d0 :: ds, ⟨x, r, ev, h1, h2⟩, e => by
    cases ev
    have e : (bif n == f then some d0 else fldD (gs.map (·.1)) ds f) = some d := e
    cases hb : n == f with
    | true =>
      rw [hb] at e
      cases e
      have hb2 : (f == n) = true := by rw [beq_iff_eq] at hb ⊢; exact hb.symm
      exact ⟨v, by rw [List.lookup_cons, hb2], h1⟩
    | false =>
      rw [hb] at e
      have hb2 : (f == n) = false := by rw [beq_eq_false_iff_ne] at hb ⊢; exact hb.symm
      obtain ⟨v', hv, dv⟩ := fld_lookup h2 e
      exact ⟨v', by rw [List.lookup_cons, hb2]; exact hv, dv⟩
  | [], _ :: _, ⟨_, _, ev, _⟩, _ => by cases ev
  | _ :: _, [], h, _ => by cases h
/-- what of a class its attributes ask: NoAttr of the attribute for all classes that may stand here -/
theorem re_fld {te : TE} {t : DE} {f : Str} (re : RE W B te t) (hcls : ∀ c C, W.cls c = some C → Cls W.K C) (hno : ∀ c C, W.cls c = some C → NoAttr W.K C f) : RE W B (tFld W.K te f) (dFld t f) := by
  intro σ H F ρ Q R rl h k
  refine re σ H F ρ _ _ rl h fun x H1 F1 ρ1 dx r1 s1 d1 h1 => ?_
  split at h1
  · obtain ⟨p, C, dx, gs, ev, hf, hc, hn, hl⟩ := d1
    split at h1
    · rename_i d ed
      subst hn
      obtain ⟨v, hv, dv⟩ := fld_lookup hl ed
      exact ⟨p, C, dx, gs, v, ev, r1.ex _ _ hf, hcls _ _ hc, hno _ _ hc, hv, k v H1 F1 ρ1 d r1 s1 dv h1⟩
    · exact h1.elim
  · exact h1.elim

/-! ### a list of one's own changes -/
/-- the content of an own slot's object changes -/
theorem Rel.oset {i : Nat} {d d' : D} {p : Addr} {o : HO} (r : Rel W B F H σ ρ) (hs : ρ.sl[i]? = some (.o d)) (hp : σ[i]? = some (some (.ref p))) (own : OwnAt W F (upd H p o) p d') : Rel W B F (upd H p o) σ (ρ.set i (.o d')) := by
  obtain ⟨p', e, fp, h0, hw, ow⟩ := r.sl i _ hs
  rw [hp] at e
  cases e
  obtain ⟨o0, ho0⟩ := ow.ne
  have hi : i < ρ.sl.length := (List.getElem?_eq_some_iff.mp hs).1
  have hq : ∀ q, q ≠ p → upd H p o q = H q := fun q h => upd_ne h
  have at_ : ∀ {m : Nat} {z : D}, (ρ.set i (.o d')).sl[m]? = some (.o z) → (i = m ∧ z = d') ∨ (i ≠ m ∧ ρ.sl[m]? = some (.o z)) := fun {m z} t => by
    have t : (ρ.sl.set i (.o d'))[m]? = some (.o z) := t
    by_cases e : i = m
    · subst e
      rw [List.getElem?_set_self hi] at t
      cases t
      exact .inl ⟨rfl, rfl⟩
    · rw [List.getElem?_set_ne e] at t; exact .inr ⟨e, t⟩
  refine ⟨fun b u e => ?_, by show σ.length = (ρ.sl.set i _).length; rw [List.length_set]; exact r.len, fun j s hj => ?_, fun j k x y q hj hk h1 h2 => ?_, ?_, fun a u e1 e2 e3 => ?_, r.new, r.f0, fun a ha => ?_, fun q hq' => ?_, fun q hq' j x hj h1 => ?_, r.hnd⟩
  · have : b ≠ p := fun z => by subst z; rw [fp] at e; cases e
    rw [hq b this]; exact r.ex _ _ e
  · by_cases ei : i = j
    · subst ei
      have t : (ρ.sl.set i (.o d'))[i]? = some s := hj
      rw [List.getElem?_set_self hi] at t
      cases t
      exact ⟨p, hp, fp, h0, hw, own⟩
    · have t : (ρ.sl.set i (.o d'))[j]? = some s := hj
      rw [List.getElem?_set_ne ei] at t
      have q := r.sl j s t
      cases s with
      | un => trivial
      | v x => exact q
      | o x =>
        obtain ⟨p2, e2, fp2, h02, hw2, own2⟩ := q
        have hne : p2 ≠ p := fun z => ei (r.inj i j d x p hs t hp (by rw [e2, z]))
        exact ⟨p2, e2, fp2, h02, hw2, own2.mono (Same.refl _) (hq p2 hne)⟩
  · rcases at_ hj with ⟨e1, _⟩ | ⟨n1, q1⟩ <;> rcases at_ hk with ⟨e2, _⟩ | ⟨n2, q2⟩
    · exact e1.symm.trans e2
    · subst e1
      exact r.inj i k d y q hs q2 h1 h2
    · subst e2
      exact r.inj j i x d q q1 hs h1 h2
    · exact r.inj j k x y q q1 q2 h1 h2
  · refine r.well.mono (Same.refl _) fun q hp2 => ⟨r.well.fp hp2, hq q fun z => hw (by rw [← z]; exact hp2)⟩
  · have : a ≠ p := fun z => by
      subst z
      rcases h0 with h0 | h0
      · rw [h0] at e1; cases e1
      · exact e3 h0
    rw [hq a this]; exact r.keep a u e1 e2 e3
  · by_cases z : a = p
    · subst z; exact own.nt
    · rw [hq a z]; exact r.ioH a ha
  · obtain ⟨g1, g2, g3, g4⟩ := r.hid q hq'
    have hne : q.1 ≠ p := fun z => r.hap q hq' i d hs (by rw [z]; exact hp)
    exact ⟨g1, g2, g3, g4.mono (Same.refl _) (hq q.1 hne)⟩
  · rcases at_ hj with ⟨e1, _⟩ | ⟨n1, q1⟩
    · subst e1; exact r.hap q hq' i d hs h1
    · exact r.hap q hq' j x q1 h1
/-- the object at an own slot -/
def getO (ρ : Ev) (i : Nat) : Option D := match ρ.sl[i]? with | some (.o d) => some d | _ => none
theorem Rel.own {i : Nat} {d : D} (r : Rel W B F H σ ρ) (h : getO ρ i = some d) : ∃ p, ρ.sl[i]? = some (.o d) ∧ σ[i]? = some (some (.ref p)) ∧ OwnAt W F H p d := by
  unfold getO at h
  split at h
  · rename_i d' e
    cases h
    obtain ⟨p, e1, _, _, _, ow⟩ := r.sl i _ e
    exact ⟨p, e, e1, ow⟩
  · cases h
/-- x.append(e), x at slot i -/
def dApp (i : Nat) (t : DE) : DS := fun DD ρ => t ρ fun ρ1 d => match getO ρ1 i with
  | some (.lst ds) => ds.length < sizeLine ∧ DD.nx (ρ1.set i (.o (.lst (ds ++ [d]))))
  | _ => False
/-- the slot is of one's own ahead of the argument, too -/
theorem rs_app {i : Nat} {te : TE} {t : DE} (re : RE W B te t) (ho : ∀ ρ Q, t ρ Q → ∃ ds, getO ρ i = some (.lst ds)) : RS W B (tDrop (tBM W.K "list" rAppend (tVar i) (tCons te tNil))) (dApp i t) := by
  intro σ H F ρ D DD r h f
  obtain ⟨ds0, g0⟩ := ho ρ _ h
  obtain ⟨p0, e0, e1, xs0, hx0, _⟩ := r.own g0
  refine ⟨.ref p0, e1, .inl ⟨rfl, xs0, .inl (.inl hx0)⟩, ?_⟩
  refine re σ H F ρ _ _ r h fun y H1 F1 ρ1 dy r1 s1 d1 h1 => ?_
  split at h1
  · rename_i ds g1
    obtain ⟨p, e2, e3, xs, hx, hd⟩ := r1.own g1
    have ep : p0 = p := by rw [e1] at e3; cases e3; rfl
    subst ep
    refine ⟨p0, xs, y, rfl, rfl, hx, by rw [← hd.length]; exact h1.1, ?_⟩
    exact f.nx σ _ F1 _ (r1.oset (d' := .lst (ds ++ [dy])) e2 e3 ⟨_, upd_same, hd.append ⟨y, [], rfl, d1, rfl⟩⟩) s1 h1.2
  · exact h1.elim
end
end DL

-- part DX1
set_option maxHeartbeats 4000000
/-! super().__init__(..) in a def of an own class -/
namespace DL
open PySem PySem.Spec PyProof.Rows L2

abbrev envS (qual : Str) (scope : Scope) (L f : Addr) (cd : Value) (cc : Addr) : Env := PySem.W.envX qual scope L f cd [("__class__", cc)]
/-- the context of a def's body that closes over its class -/
def cxS (CX : CXT) (P : Program) (w : World) (K : PySem.W.Frag) (mg : Str → Option Value) (base : Heap) (N : List Str) (qual : Str) (scope : Scope) (f : Addr) (cd : Value) (cc : Addr) (A : Around) (outer : List Env) (s : Shared) (H : Hp) (E : XK) : Cx where
  prog := P
  w := w
  K := K
  mg := mg
  base := base
  A := A.deeper (envS qual scope s.heap.objs.size f cd cc)
  N := N
  s_0 := s
  H_0 := H
  env := envS qual scope s.heap.objs.size f cd cc
  outer := outer
  stack := envS qual scope s.heap.objs.size f cd cc :: outer
  ex := []
  calm := true
  fn := fun x => !(x == ("__class__" : Str))
  pn := []
  xe := fun e s' => wpAny (model P w) (A.deeper (envS qual scope s.heap.objs.size f cd cc)) (leaving (envS qual scope s.heap.objs.size f cd cc) e) (fun _ s'' => CX outer H s E e s'') (fun e' s'' => CX outer H s E e' s'') s'

structure FnScopeS (N P : List Str) (sc : Scope) : Prop where
  kind : sc.kind = .function
  co : sc.isCoroutine = false
  gen : sc.isGenerator = false
  nd : N.Nodup
  pre : N.take P.length = P
  par : ∀ x ∈ P, sc.names.lookup x = some .local
  nocell : ∀ y ∈ sc.names, y.2 ≠ .cell
  free : ∀ y ∈ sc.names, y.2 = .free → y.1 = ("__class__" : Str)

theorem lookup_nodup {α : Type} {x : Str} {u : α} : ∀ {l : List (Str × α)}, (l.map (·.1)).Nodup → (x, u) ∈ l → l.lookup x = some u
  | (k, v) :: r, nd, h => by
    rw [List.lookup_cons]
    rcases List.mem_cons.mp h with e | h'
    · cases e; simp
    · have hne : (x == k) = false := beq_eq_false_iff_ne.mpr fun e => by
        subst e
        exact (List.nodup_cons.mp nd).1 (List.mem_map.mpr ⟨_, h', rfl⟩)
      rw [hne]
      exact lookup_nodup (List.nodup_cons.mp nd).2 h'
theorem map_fst_zip_sub {α β : Type} : ∀ (xs : List α) (ys : List β), ((xs.zip ys).map Prod.fst).Sublist xs
  | [], _ => by simp
  | x :: xs, [] => by simp
  | x :: xs, y :: ys => by
    rw [List.zip_cons_cons, List.map_cons]
    exact (map_fst_zip_sub xs ys).cons_cons x
theorem lookup_rev_zip {x : Str} {u : Value} {ps : List Str} {us : List Value} {i : Nat} (nd : ps.Nodup) (h1 : ps[i]? = some x) (h2 : us[i]? = some u) : (ps.zip us).reverse.lookup x = some u := by
  refine lookup_nodup ?_ ?_
  · rw [List.map_reverse]
    refine (List.reverse_perm _).symm.nodup ?_
    rw [show (ps.zip us).map (·.1) = (ps.zip us).map Prod.fst from rfl]
    exact nd.sublist (map_fst_zip_sub _ _)
  · rw [List.mem_reverse]
    have : (ps.zip us)[i]? = some (x, u) := by rw [List.getElem?_zip_eq_some]; exact ⟨h1, h2⟩
    exact List.mem_of_getElem? this

theorem inv_startS {CX : CXT} {P : Program} {w : World} {K : PySem.W.Frag} {mg : Str → Option Value} {base : Heap} {N ps : List Str} {qual : Str} {scope : Scope} {f cc : Addr} {cd : Value} {A : Around} {outer : List Env} {s : Shared} {H : Hp} {E : XK} {us : List Value} {vs : List V} {h1 : Heap} {tk : Nat}
    {oc : Obj} {vc : Option Value} (S : FnScopeS N ps scope) (hd : A.handled = none) (e0 : Env0 P w K mg base A outer s H) (hl : vs.length = ps.length) (r : Vals vs us) (lc : K.lookup cc = some oc) (lv : oc.data = .cell vc)
    (hns : h1.Ns s.heap.objs.size (fun x => (ps.zip us).reverse.lookup x)) (hk : ∀ b o, s.heap.get? b = some o → h1.get? b = some o) :
    Inv (cxS CX P w K mg base N qual scope f cd cc A outer s H E) [] (start N vs) H { s with heap := h1, toks := tk } := by
  have hpl : ps.length ≤ N.length := by have := congrArg List.length S.pre; rw [List.length_take] at this; omega
  have ccb : base.get? cc = some oc := e0.mod.kin _ _ lc
  have cch : s.heap.get? cc = some oc := (e0.bs _ _ ccb).1
  have ccn : H cc = none := (e0.bs _ _ ccb).2
  have noA : ∀ b : Addr, b ∉ (cxS CX P w K mg base N qual scope f cd cc A outer s H E).ex := fun b z => absurd (show b ∈ ([] : List Addr) from z) (by simp)
  have look : ∀ {x : Str} {c : Addr}, (cxS CX P w K mg base N qual scope f cd cc A outer s H E).env.cells.lookup x = some c → x = ("__class__" : Str) ∧ c = cc := fun {x c} h => by
    have h : List.lookup x [(("__class__" : Str), cc)] = some c := h
    rw [List.lookup_cons] at h
    cases q : x == ("__class__" : Str) with
    | true => rw [q] at h; exact ⟨beq_iff_eq.mp q, (Option.some.inj h).symm⟩
    | false => rw [q] at h; cases h
  refine ⟨⟨e0.mod, S.kind, rfl, rfl, Nat.le_refl _, fun y z c q1 q2 => (look q1).1.trans (look q2).1.symm, fun y hy => ?_, fun y c q h => ?_, fun _ => hd, Around.frames_deeper e0.frames, .inr ⟨rfl, rfl⟩, fun b z => absurd z (noA b), e0.bs, e0.bsz, fun b _ _ => noA b, fun b z => absurd z (noA b), e0.funs, e0.frf⟩,
    rfl, e0.bare, Un.kept hk, ⟨_, hns, fun i y v q1 q2 q3 => ?_⟩, fun y c h => ?_, e0.hok.fresh (Nat.le_refl _), fun y c h => ?_, fun p hp => absurd (show p ∈ ([] : List (Addr × Obj)) from hp) (by simp), e0.hok.kept hk, ?_⟩
  · rcases hy with hy | hy
    · exact absurd rfl (S.nocell _ (PySem.mem_of_lookup (show scope.names.lookup y = some .cell from hy)))
    · have e := S.free _ (PySem.mem_of_lookup (show scope.names.lookup y = some .free from hy)) rfl
      have e : y = ("__class__" : Str) := e
      subst e
      exact ⟨cc, rfl⟩
  · have e := (look h).1
    subst e
    have q : (!(("__class__" : Str) == ("__class__" : Str))) = true := q
    simp at q
  · have hi : i < vs.length := by
      unfold L2.start at q2
      by_cases hi : i < vs.length
      · exact hi
      · rw [List.getElem?_append_right (by simpa using hi)] at q2
        rw [List.getElem?_replicate] at q2
        split at q2 <;> cases q2
    have ha : vs[i]? = some v := by
      unfold L2.start at q2
      rw [List.getElem?_append_left (by simpa using hi), List.getElem?_map] at q2
      cases e : vs[i]? with
      | none => rw [e] at q2; cases q2
      | some a => rw [e] at q2; cases q2; rfl
    obtain ⟨u, hu, rv⟩ := r.get ha
    have hp : ps[i]? = some y := by
      rw [← S.pre, List.getElem?_take_of_lt (by omega)]; exact q1
    have ndP : ps.Nodup := by rw [← S.pre]; exact S.nd.sublist (List.take_sublist _ _)
    exact ⟨u, rv, .inl ⟨S.par y (List.mem_of_getElem? hp), lookup_rev_zip ndP hp hu⟩⟩
  · obtain ⟨_, e⟩ := look h
    subst e
    exact ⟨vc, oc, hk _ _ cch, lv⟩
  · obtain ⟨_, e⟩ := look h
    subst e
    exact ccn
  · unfold L2.start
    show _ = N.length
    rw [List.length_append, List.length_map, List.length_replicate]
    omega

/-- a statement that stands at the def's own top -/
structure PST (X : Cx) (body : List Stmt) (st : Stmt) (t : TS) : Prop where
  run : ∀ (pins : List (Addr × Obj)) (s : Shared) (σ : L2.St) (H : Hp) (D : Ends), Inv X pins σ H s → t D σ H → PySem.wpAt (model X.prog X.w) X.A (.func body X.env) (exec st X.env) (SP X pins D) X.xe s

/-- THE RULE for a def that closes over its class -/
theorem fn_sup {CX : CXT} {P : Program} {w : World} {K : PySem.W.Frag} {mg : Str → Option Value} {base : Heap} {k : Nat} {f cc : Addr} {name qual : Str} {params : Arguments} {st0 : Stmt} {rest : List Stmt} {scope : Scope} {dV kV doc pm cdv ct oc : Value} {an od : Option Addr}
    {osl : Array (Option Value)} {N ps : List Str} {sp : Sp} {occ : Obj} {vc : Option Value} (lk : K.lookup f = some ⟨oc, od, .func (PySem.W.fnX name qual params (st0 :: rest) scope [("__class__", cc)] dV kV doc pm an cdv ct), osl⟩) (hcd : PySem.W.codeIn K cdv qual = true) (S : FnScopeS N ps scope)
    (lc : K.lookup cc = some occ) (lv : occ.data = .cell vc) (len : ∀ vs H Q E, sp vs H Q E → vs.length = ps.length)
    (hbody : ∀ (A : Around) (outer : List Env) (s : Shared) (H : Hp) (vs : List V) (Q : VK) (E : XK), Room k (A.deeper (envS qual scope s.heap.objs.size f cdv cc)) → sp vs H Q E →
      ∃ t u, PST (cxS CX P w K mg base N qual scope f cdv cc A outer s H E) (st0 :: rest) st0 t ∧ PSs (cxS CX P w K mg base N qual scope f cdv cc A outer s H E) rest u ∧ tSeq t u { nx := fun _ H' => Q .non H', rt := Q } (start N vs) H) :
    FnOk P w K mg base CX (k + 1) f (PySem.W.fnX name qual params (st0 :: rest) scope [("__class__", cc)] dV kV doc pm an cdv ct) ps sp := by
  refine ⟨len, fun A outer s H args us vs Q E hr e0 hb r hsp => ?_⟩
  have hl := len _ _ _ _ hsp
  have KX : K.In s.heap := e0.mod.kin.keeps fun b o e => (e0.bs b o e).1
  have lim : s.heap.NoLimit := e0.mod.nolimit.keeps fun b o e => (e0.bs b o e).1
  refine ks_codeAny_call_defAt (fd := PySem.W.fnX name qual params (st0 :: rest) scope [("__class__", cc)] dV kV doc pm an cdv ct) (body := st0 :: rest) (binds := ps.zip us) hr.depth (KX _ _ lk) rfl lim (PySem.W.codeRec_of KX hcd) rfl hb S.nocell
    (fun y hy => S.par y.1 (List.of_mem_zip hy).1) (fun h₁ hns hk₁ => ?_) S.co S.gen S.kind
  obtain ⟨t, u, ht, hu, hq⟩ := hbody A outer s H vs Q E (hr.deeper _) hsp
  have I : Inv (cxS CX P w K mg base N qual scope f cdv cc A outer s H E) [] (start N vs) H { s with heap := h₁, toks := s.toks + (ps.zip us).length } := inv_startS S hr.hd e0 hl r lc lv hns hk₁
  have fin : ∀ {σ' : L2.St} {H' : Hp} {v : V} {u : Value} {s' : Shared}, Inv (cxS CX P w K mg base N qual scope f cdv cc A outer s H E) [] σ' H' s' → RelV v u → Q v H' → CE outer P w H s Q u s' :=
    fun {σ' H' v u s'} J rv q => ⟨v, H', J.os, J.bare, J.base, J.hok, rv, q⟩
  have last : ∀ (fl : Flow) (s' : Shared), SP (cxS CX P w K mg base N qual scope f cdv cc A outer s H E) [] { nx := fun _ H' => Q .non H', rt := Q } fl s' → CR CX outer P w H s Q E (.ok (.ret (match fl with | .ret v => v | _ => .none))) s' := fun fl s' hs => by
    cases fl with
    | ret u =>
      obtain ⟨v, σ', H', J, rv, q⟩ := hs
      exact fin J rv q
    | next =>
      obtain ⟨σ', H', J, q⟩ := hs
      exact fin (v := V.non) (u := Value.none) J rfl q
    | brk =>
      obtain ⟨_, _, _, q⟩ := hs
      exact False.elim q
    | cont =>
      obtain ⟨_, _, _, q⟩ := hs
      exact False.elim q
  refine ks_wpAt_execs_cons (ks_wpAt_mono (ht.run [] _ (start N vs) H _ I hq) (fun fl s' hs => ?_) fun e s' hs => hs)
  cases fl with
  | next =>
    obtain ⟨σ', H', J, q⟩ := hs
    exact wpAt_of_wpAny (wpAny_mono (hu.run [] s' σ' H' _ J q) (fun fl s'' z => last fl s'' z) fun e s'' z => z)
  | ret u => exact last (.ret u) s' hs
  | brk => exact last .brk s' hs
  | cont => exact last .cont s' hs

/-- super().__init__(..): D is the def's class, f2 the def that is found above it -/
def tSup (K : PySem.W.Frag) (D f2 : Addr) (sp : Sp) (E : XK) (t : TA) : TS := fun DD σ H => ∃ x C dx fs, σ[0]? = some (some (.ref x)) ∧ H x = some (.ins C dx fs) ∧ PySem.W.mroIn K C (.ref D) = some true ∧
  PySem.W.ks_superIn K C D "__init__" = some (some (.ref f2)) ∧ t σ H fun vs H1 => sp (.ref x :: vs) H1 (fun _ H2 => DD.nx σ H2) E
section
variable {X : Cx} {pins : List (Addr × Obj)} {σ : L2.St} {H : Hp} {s : Shared}
theorem met_newI {g x : Addr} (I : Inv X pins σ H s) : Inv X ((s.heap.objs.size, PySem.W.methodObj (.ref g) (.ref x)) :: pins) σ H { s with heap := s.heap.push (PySem.W.methodObj (.ref g) (.ref x)), toks := s.toks + 1 } :=
  ClX.pin_new I (fun _ _ z => Heap.get?_push_of_some _ z) (Nat.le_refl _) (Heap.get?_push_size s.heap rfl) (fun v z => nomatch z)
theorem run_met {CX : CXT} {k : Nat} {q g x : Addr} {sp : Sp} {E : XK} {Q : VK} {us : List Value} {vs : List V} (F : FnR X.prog X.w X.K X.mg X.base CX k g sp) (hr : Room k X.A) (hx : Passes CX X E) (I : Inv X ((q, PySem.W.methodObj (.ref g) (.ref x)) :: pins) σ H s)
    (r : Vals vs us) (h : sp (.ref x :: vs) H Q E) : wpAny (model X.prog X.w) X.A (call (.ref q) us) (EP X pins σ Q) X.xe s := by
  have z : wpAny (model X.prog X.w) X.A (call (.ref q) us) (EP X ((q, PySem.W.methodObj (.ref g) (.ref x)) :: pins) σ Q) X.xe s :=
    wpAny_call (PySem.W.method_call (ClX.pin_at I) (run_fnR (us := .ref x :: us) (vs := .ref x :: vs) F hr hx I (.cons rfl r) h))
  exact thn z fun _ _ y => ClX.unpinE y
theorem callwith_met {pos : Pos} {e : Expr} {es : List Expr} {q g x : Addr} {Q : Value → Shared → Prop} {E : Value → Shared → Prop} {A : Around} (I : Inv X ((q, PySem.W.methodObj (.ref g) (.ref x)) :: pins) σ H s) (hb : X.base.get? q = none) (hf : PySem.W.fnIn X.K g = true)
    (h : wpAny (model X.prog X.w) A (spliced (backTo pos (starEach (e :: es) X.env))) (fun vs s₁ => PySem.W.MethP X.K q g (.ref x) s₁.heap ∧ wpAny (model X.prog X.w) A (call (.ref q) vs) Q E s₁) E s)
    (he : starEach (e :: es) X.env = (false, eval e X.env) :: starEach es X.env) (hpl : (backTo pos (starEach es X.env)).any (·.1) = false) :
    wpAny (model X.prog X.w) A (callWith pos (.ref q) [] (backTo pos (starEach (e :: es) X.env)) []) Q E s := by
  have hq := ClX.pin_at I
  have hL : q ≠ X.env.locals := (I.pin (q, PySem.W.methodObj (.ref g) (.ref x)) (List.mem_append_right _ List.mem_cons_self)).2.2.1
  exact PySem.W.callWith_M (K := X.K) (h₀ := X.base) (first := []) I.ok.mod.kin (news_at hL hb hq) List.mem_cons_self hf h he hpl
end
section
variable {X : Cx} {CX : CXT} {k : Nat} {f f2 cda cc D : Addr} {slf : Str} {fd : FuncData} {ar : Arg} {vs : Array Value} {file : Str} {tf : Tok} {oc ccl cl : Value} {od cdd cld : Option Addr} {osl ccs csl : Array (Option Value)} {cdD : ClassData}
  {sp : Sp} {E : XK} {e : Expr} {es : List Expr} {t : TA} {body : List Stmt} {p0 p1 apos cpos epos : Pos}
theorem ps_super (hN0 : X.N[0]? = some slf) (hks : X.env.kindOf "super" = some .globalImplicit) (hkc : X.env.kindOf "__class__" = some .free) (hka : X.env.kindOf slf = some .local)
    (hfu : X.env.func = some f) (lk : X.K.lookup f = some ⟨oc, od, .func fd, osl⟩) (hp : (fd.params.posonlyargs ++ fd.params.args).head? = some ar) (har : ar.arg = slf)
    (hco : X.env.code = .ref cda) (lc : X.K.lookup cda = some ⟨ccl, cdd, .fields vs, ccs⟩) (hvs : vs[2]? = some (.str file tf)) (hfile : ((X.prog.main.file : Str) == file) = true)
    (hcl : X.env.cells.lookup ("__class__" : Str) = some cc) (lcc : X.K.lookup cc = some ⟨cl, cld, .cell (some (.ref D)), csl⟩) (hD : PySem.W.clsIn X.K D = some cdD) (hms : X.mg "super" = none) (htop : (X.prog.main.scope.names.lookup ("super" : Str)).isSome = false)
    (hno : PySem.W.nsIn X.K cStatics "thirdparty.any" = some none) (F : FnR X.prog X.w X.K X.mg X.base CX k f2 sp) (hr : Room k X.A) (ht : PySem.W.typeIn X.K (.ref f2) = some (.type "function")) (hf : PySem.W.fnIn X.K f2 = true) (hx : Passes CX X E) (ha : PA X (e :: es) t)
    (hboot : bootBuiltins "super" = some (.type "super")) (he : starEach (e :: es) X.env = (false, eval e X.env) :: starEach es X.env := by rfl) (hpl : (backTo cpos (starEach es X.env)).any (·.1) = false := by rfl)
    (hi : interactive X.env = false := by rfl) (hsw : swapsWith (.Call (.Attribute (.Call (.Name "super" p0) [] [] p1) "__init__" apos) (e :: es) [] cpos) none epos.line X.env = pure false := by rfl)
    {pl : Sem Bool} (hev : eval (.Call (.Attribute (.Call (.Name "super" p0) [] [] p1) "__init__" apos) (e :: es) [] cpos) X.env = (do
      let ov ← attributeBase (.Call (.Name "super" p0) [] [] p1) "__init__" X.env (eval (.Call (.Name "super" p0) [] [] p1) X.env)
      standAt apos.atName
      let (f, first) ← holding [ov] (getMethod ov "__init__" pl)
      callWith cpos f first (backTo cpos (starEach (e :: es) X.env)) []) := by rfl) :
    PST X body (.Expr (.Call (.Attribute (.Call (.Name "super" p0) [] [] p1) "__init__" apos) (e :: es) [] cpos) epos) (tSup X.K D f2 sp E t) := by
  refine ⟨fun pins s σ H DD I h => ?_⟩
  obtain ⟨x, C, dx, fs, hσ, hH, hmro, hsup, hq⟩ := h
  obtain ⟨m, hn, hl⟩ := id I.loc
  obtain ⟨u, ru, lu⟩ := hl 0 slf (.ref x) hN0 hσ (.inl hka)
  obtain rfl : u = Value.ref x := ru
  have hm : m slf = some (.ref x) := by
    rcases lu with ⟨_, h⟩ | ⟨k, _⟩
    · exact h
    · rcases k with k | k <;> rw [hka] at k <;> cases k
  obtain ⟨mA, O, _⟩ := ins_get I.hok hH
  obtain ⟨oda, J, _⟩ := O.look
  obtain ⟨oD, hD1, hD2⟩ : ∃ oD, s.heap.get? D = some oD ∧ oD.data = .cls cdD := by
    have hD' := hD
    unfold PySem.W.clsIn at hD'
    split at hD'
    · rename_i c d cd' sl ho
      cases hD'
      exact ⟨_, I.kIn _ _ ho, rfl⟩
    · cases hD'
  refine ks_wpAt_Expr_any (ks_wpAt_MethodCall (pl := pl) ?_ hev) hi hsw
  subst har
  refine ks_wpAt_super_base hks hkc (by decide) hfu (I.kIn _ _ lk) rfl hp hco (I.kIn _ _ lc) rfl hvs hfile htop ?_
  obtain ⟨mb, hb1, hb2⟩ := I.mod.blt
  refine PySem.W.ks_loadName_global I.ok.kind hks (Calls.loadGlobal_builtin (by rw [I.ok.glob]; exact I.mod.glob.keeps I.bk) hms (by rw [I.ok.blt]; exact hb1.keeps I.bk) ((hb2 _ (by decide +kernel)).trans hboot) ⟨rfl, ?_⟩)
  refine wpAny_loadName_free I.ok.kind hkc hcl ⟨_, I.kIn _ _ lcc, rfl⟩ ?_
  refine wpAny_loadName_local I.ok.kind hka hn hm ?_
  have hD1' : s.heap.get? D = some oD := hD1
  refine ks_wpAny_isType_cls hD1' hD2 ⟨rfl, ?_⟩
  refine ks_wpAny_call_super hD1' hD2 J.at_ J.cls (fun c e => ?_) (PySem.W.looks_mroIn I.kIn hmro) (fun h' e1 k1 => ?_)
  · have := J.no
    unfold PySem.W.notCls at this
    rw [e] at this
    exact Bool.noConfusion this
  · have I1 : Inv X pins σ H { s with heap := h' } := I.kept (t' := s.toks) k1
    cases hc : PySem.W.clsIn X.K C with
    | none => unfold PySem.W.ks_superIn at hsup; rw [hc] at hsup; cases hsup
    | some cd =>
      unfold PySem.W.ks_superIn at hsup
      rw [hc] at hsup
      obtain ⟨of, hof, hofc⟩ : ∃ of, h'.get? f2 = some of ∧ of.cls = .type "function" := by
        have ht' : (X.K.lookup f2).map (·.cls) = some (.type "function") := ht
        cases z : X.K.lookup f2 with
        | none => rw [z] at ht'; cases ht'
        | some of => rw [z] at ht'; exact ⟨of, I1.kIn _ _ z, Option.some.inj ht'⟩
      refine ks_wpAny_getMethod_super e1 (PySem.W.looks_opaque I1.kIn hno) (l₀ := cd.mro) ?_ rfl I1.kIn hsup hof hofc (PySem.W.ks_ne I.kIn J hc) (by decide) ?_
      · exact fun A Q E s k q => wpAny_bind ((PySem.W.looks_clsIn I1.kIn hc) A _ E s k (wpAny_pure q))
      · have I2 := met_newI (g := f2) (x := x) I1
        have hb : X.base.get? h'.objs.size = none := by
          cases q : X.base.get? h'.objs.size with
          | none => rfl
          | some o => exact absurd (Heap.lt_size (I1.bs _ _ q).1) (Nat.lt_irrefl _)
        refine callwith_met I2 hb hf (thn (ha.run cpos _ _ σ H _ I2 hq) fun us s3 ⟨ws, H3, I3, r3, q3⟩ => ⟨⟨ClX.pin_at I3, I3.kIn⟩, ?_⟩) he hpl
        exact thn (run_met F hr hx I3 r3 q3) fun v s4 ⟨y, H4, I4, r4, q4⟩ => ⟨σ, H4, I4, q4⟩
end
end DL

-- part K00A
set_option maxHeartbeats 4000000
/-! K00: what all laws have: the well, the draw, one of some -/
namespace DL
namespace K00
open PySem PySem.Spec PyProof.Rows L2
def topS (i : Nat) : Stmt := PySem.Challenge.pw_alwaysso_k00_errors_and_papers_kept.main.body.getD i (.Pass ⟨0, 0, 0, 0⟩)
abbrev sWell : Stmt := topS 19
abbrev sDraw : Stmt := topS 20
abbrev sOne : Stmt := topS 21
theorem scW : FnScope ["script", "cell"] ["script"] (defScope sWell) := ⟨rfl, rfl, rfl, by decide +kernel, rfl, by decide +kernel, by decide +kernel⟩
theorem scD : FnScope ["well", "many", "rest", "turn", "cell", "blend"] ["well", "many"] (defScope sDraw) := ⟨rfl, rfl, rfl, by decide +kernel, rfl, by decide +kernel, by decide +kernel⟩
theorem scO : FnScope ["well", "some"] ["well", "some"] (defScope sOne) := ⟨rfl, rfl, rfl, by decide +kernel, rfl, by decide +kernel, by decide +kernel⟩
/-- what a draw gives: a number below m -/
def gDraw : GF := fun ds c Q => ∃ m : Int, ds = [.well, .int m] ∧ m < 1073741824 ∧ c < 1048576 ∧ ∀ k : Int, 0 ≤ k → (k < m ∨ (m < 2 ∧ k = 0)) → Q (.int k) (c + 1)
theorem depthAll_ints : ∀ ns : List Int, PyData.depthAll (ns.map PyData.int) = 0
  | [] => rfl
  | n :: ns => by
    show max (PyData.depth (.int n)) (PyData.depthAll (ns.map PyData.int)) = 0
    rw [depthAll_ints ns]; rfl
theorem canAll_ints : ∀ ns : List Int, PyData.canLayAll0 (ns.map PyData.int) = true
  | [] => rfl
  | n :: ns => by
    show (PyData.canLay0 (.int n) && PyData.canLayAll0 (ns.map PyData.int)) = true
    rw [canAll_ints ns]; rfl
theorem shaped_ints (ns : List Int) : SeqAt.shaped (.list (ns.map PyData.int)) = true := by
  unfold SeqAt.shaped
  rw [Bool.and_eq_true]
  refine ⟨canAll_ints ns, decide_eq_true ?_⟩
  show PyData.depthAll (ns.map PyData.int) + 1 ≤ 64
  rw [depthAll_ints ns]; decide
theorem dpall_ints {K : PySem.W.Frag} {H : Hp} : ∀ ns : List Int, DpAll K H (ns.map V.int) (ns.map PyData.int)
  | [] => .nil
  | n :: ns => .cons (.int n) (dpall_ints ns)
theorem seq_mid {a b : TS} {D : Ends} {σ : L2.St} {H : Hp} (M : L2.St → Hp → Prop) (ha : ∀ nx : L2.St → Hp → Prop, (∀ σ' H', M σ' H' → nx σ' H') → a { D with nx := nx } σ H) (hb : ∀ σ' H', M σ' H' → b D σ' H') : tSeq a b D σ H := ha (b D) hb
theorem gName_of {i : Nat} {v : V} {σ : L2.St} {H : Hp} {nx : L2.St → Hp → Prop} (h : nx (σ.set i (some v)) H) : gName i v σ H nx := h
theorem pow_pos' (a : Int) (n : Nat) (h : 0 ≤ a) : 0 ≤ a ^ n := Int.pow_nonneg h
section
variable {P : Program} {w : World} {K : PySem.W.Frag} {mg : Str → Option Value} {base : Heap} {cls : Str → Option Addr}
theorem ok_draw {f : Addr} {fd : FuncData} {k : Nat} (F : Fun K "_law_draw" "_law_draw" sDraw f fd) (m_int : mg "int" = none) (m_abs : mg "abs" = none) (m_len : mg "len" = none) : FnOk P w K mg base CX0 (k + 1) f fd ["well", "many"] (spD K cls gDraw) := by
  refine F.ok scD (fun vs H Q E h => len_of (n := 2) (fun ds c QD ⟨m, e, _⟩ => by rw [e]; rfl) h) (fun cdv A outer s H vs Q E hr h => ?_)
  obtain ⟨F0, ds, c, pw, QD, ex, hd, hw, ⟨m, rfl, hm, hc, hk⟩, q⟩ := h
  obtain ⟨v0, r0, rfl, dv0, v1, r1, rfl, dv1, er⟩ := hd
  subst er
  obtain ⟨p, hp, rfl⟩ := dv0
  have e1 : v1 = .int m := dv1
  subst e1
  have hp : pw = some p := hp
  subst hp
  have hu := hr.units
  refine ⟨_, (pss_cons (ps_if (pt_cmpR op_lt (pv 1) pe_int (nomark _)) (pss_one (ps_ret pe_int)) pss_nil)
    (pss_cons (ps_if (pt_cmpR op_gt (pe_ix ix_list (pv 0) pe_int (fun _ _ => rfl)) pe_int (nomark _)) (pss_cons (ps_set (i := 2) scD.nd rfl (.inl rfl) (pe_callTy call_int1 (by rfl) m_int (by decide +kernel) (pa_cons (pe_ix ix_list (pv 0) pe_int (fun _ _ => rfl)) pa_nil)))
    (pss_cons (ps_asg (pe_op op_fdiv (pv 2) (pv 1)) (pg_sub (pv 0) pe_int set_list))
    (pss_one (ps_ret (pe_op op_mod (pe_callTy call_int1 (by rfl) m_int (by decide +kernel) (pa_cons (pv 2) pa_nil)) (pv 1)))))) pss_nil)
    (pss_cons (ps_set (i := 3) scD.nd rfl (.inl rfl) (pe_ix ix_list (pv 0) pe_int (fun _ _ => rfl)))
    (pss_cons (ps_asg (pe_op op_add (pv 3) pe_int) (pg_sub (pv 0) pe_int set_list))
    (pss_cons (ps_set (i := 4) scD.nd rfl (.inl rfl) (pe_op op_add (pe_op op_mul pe_int (pv 3)) pe_int))
    (pss_cons (ps_if (pt_cmpR (op_neD hu) (pe_ix ix_list (pv 0) pe_int (fun _ _ => rfl)) (pe_lst pa_nil) (nomark _)) (pss_one (ps_set (i := 4) scD.nd rfl (.inl rfl) (pe_ix ix_list (pe_ix ix_list (pv 0) pe_int (fun _ _ => rfl)) (pe_op op_mod (pe_callTy call_int1 (by rfl) m_int (by decide +kernel) (pa_cons (pv 3) pa_nil)) (pe_callB call_len (by rfl) m_len PySem.boot_len (pa_cons (pe_ix ix_list (pv 0) pe_int (fun _ _ => rfl)) pa_nil))) (fun _ _ => rfl)))) pss_nil)
    (pss_cons (ps_if (PW.pt (pw_and (pt_cmpR op_lt (pv 3) (pe_callB call_len (by rfl) m_len PySem.boot_len (pa_cons (pe_ix ix_list (pv 0) pe_int (fun _ _ => rfl)) pa_nil)) (nomark _)) (pw_and1 (pt_cmpR op_ge (pe_callB call_abs (by rfl) m_abs (by decide +kernel) (pa_cons (pv 4) pa_nil)) (pe_op op_pow pe_int pe_int) (nomark _))))) (pss_cons (ps_set (i := 2) scD.nd rfl (.inl rfl) (pe_op op_add (pe_op op_mul pe_int (pe_op op_sub (pe_callB call_abs (by rfl) m_abs (by decide +kernel) (pa_cons (pv 4) pa_nil)) (pe_op op_pow pe_int pe_int))) (pe_callTy call_int1 (by rfl) m_int (by decide +kernel) (pa_cons (pe_cmpR op_lt (pv 4) pe_int (nomark _)) pa_nil))))
    (pss_cons (ps_asg (pe_op op_fdiv (pv 2) (pv 1)) (pg_sub (pv 0) pe_int set_list))
    (pss_one (ps_ret (pe_op op_mod (pe_callTy call_int1 (by rfl) m_int (by decide +kernel) (pa_cons (pv 2) pa_nil)) (pv 1)))))) pss_nil)
    (pss_cons (ps_set (i := 5) scD.nd rfl (.inl rfl) (pe_op op_mod (pe_callTy call_int1 (by rfl) m_int (by decide +kernel) (pa_cons (pe_op op_pow (pe_op op_add (pe_op op_add (pe_op op_mod (pe_callTy call_int1 (by rfl) m_int (by decide +kernel) (pa_cons (pv 4) pa_nil)) pe_int) (pe_op op_mul pe_int (pv 3))) pe_int) pe_int) pa_nil)) pe_int))
    (pss_cons (ps_set (i := 5) scD.nd rfl (.inl rfl) (pe_op op_mod (pe_callTy call_int1 (by rfl) m_int (by decide +kernel) (pa_cons (pe_op op_pow (pe_op op_add (pe_op op_add (pe_op op_mul (pv 5) (pe_op op_add (pe_op op_mul pe_int (pv 3)) pe_int)) (pe_op op_mul (pe_op op_mul pe_int (pv 3)) (pv 3))) pe_int) pe_int) pa_nil)) pe_int))
    (pss_one (ps_ret (pe_op op_mod (pe_callTy call_int1 (by rfl) m_int (by decide +kernel) (pa_cons (pe_op op_fdiv (pv 5) pe_int) pa_nil)) (pv 1))))))))))))), ?_⟩
  obtain ⟨fp, _, pc, ns, t, r, hH, hS, t0, tc, r0, hl⟩ := hw
  have fin : ∀ (H1 : Hp) (t' r' k : Int), H1 p = some (.lst [.ref pc, .int t', .int r']) → (∀ a o, H a = some o → a ≠ p → H1 a = some o) → 0 ≤ t' → t' ≤ (c : Int) + 1 → 0 ≤ r' → 0 ≤ k → (k < m ∨ (m < 2 ∧ k = 0)) → Q (.int k) H1 := by
    intro H1 t' r' k h1 h2 h3 h4 h5 h6 h7
    have sf : Same F0 H1 := fun b o e => by
      have : b ≠ p := fun z => by subst z; rw [fp] at e; cases e
      exact h2 b o (ex b o e) this
    refine q (.int k) H1 F0 (.int k) (c + 1) ⟨Same.refl _, sf, fun a o e1 e2 _ => ?_, fun a _ e => e⟩ rfl ?_ (hk k h6 h7)
    · have : a ≠ p := fun z => e2 (by rw [z])
      exact h2 a o e1 this
    · exact ⟨fp, (fun z => nomatch z), pc, ns, t', r', h1, hS, h3, by push_cast; omega, h5, hl⟩
  have sq : ∀ (H1 : Hp), (∀ a o, H a = some o → a ≠ p → H1 a = some o) → SqL K H1 pc (ns.map V.int) := fun H1 h => by
    refine same_sqL (F := F0) (fun b o e => ?_) hS
    have : b ≠ p := fun z => by subst z; rw [fp] at e; cases e
    exact h b o (ex b o e) this
  have sp : SqL K H p [.ref pc, .int t, .int r] := .inl (.inl hH)
  -- many < 2
  refine ⟨_, rfl, _, _, rfl, rfl, _, rfl, ite2 (fun h => ?_) (fun h => ?_)⟩
  · exact fin H t r 0 hH (fun _ _ e _ => e) t0 (by omega) r0 (by omega) (.inr ⟨of_decide_eq_true h, rfl⟩)
  have hm2 : 2 ≤ m := by have := of_decide_eq_false (Bool.eq_false_iff.mpr h); omega
  -- well[2] > 0
  refine ⟨_, rfl, p, _, 2, .int r, rfl, rfl, sp, rfl, _, _, rfl, rfl, _, rfl, ite2 (fun h2 => ?_) (fun h2 => ?_)⟩
  · refine ⟨_, rfl, p, _, 2, .int r, rfl, rfl, sp, rfl, .inl ⟨_, rfl, _, rfl, _, rfl, _, _, rfl, rfl, ⟨by omega, by omega⟩, _, rfl, p, _, _, 2, rfl, rfl, hH, rfl, ?_⟩⟩
    refine ⟨_, rfl, .inl ⟨_, rfl, _, rfl, _, _, rfl, rfl, (by show 0 < m; omega), ?_⟩⟩
    exact fin _ t (r / m) (r % m) upd_same (fun a o e h => (upd_ne h).trans e) t0 (by omega) (Int.ediv_nonneg r0 (by omega)) (Int.emod_nonneg _ (by omega)) (.inl (Int.emod_lt_of_pos _ (by omega)))
  -- turn = well[1]; well[1] = turn + 1; cell = ..
  refine ⟨_, rfl, p, _, 1, .int t, rfl, rfl, sp, rfl, _, rfl, _, _, rfl, rfl, _, rfl, p, _, _, 1, rfl, rfl, hH, rfl, ?_⟩
  have hH1 : (upd H p (.lst [.ref pc, .int (t + 1), .int r])) p = some (.lst [.ref pc, .int (t + 1), .int r]) := upd_same
  have hO1 : ∀ a o, H a = some o → a ≠ p → (upd H p (.lst [.ref pc, .int (t + 1), .int r])) a = some o := fun a o e h => (upd_ne h).trans e
  revert hH1 hO1
  show _ → _ → tSeq _ _ _ _ (upd H p (.lst [.ref pc, .int (t + 1), .int r]))
  generalize upd H p (.lst [.ref pc, .int (t + 1), .int r]) = H1
  intro hH1 hO1
  have sp1 : SqL K H1 p [.ref pc, .int (t + 1), .int r] := .inl (.inl hH1)
  have sq1 := sq H1 hO1
  have lt1 : t < 1048577 := by omega
  refine ⟨_, rfl, _, _, rfl, rfl, .inl (by omega), _, _, rfl, rfl, gName_of ?_⟩
  -- well[0] != []
  dsimp only
  refine seq_mid (fun σ' H' => ∃ (cell : Int) (z : Option V), σ' = [some (.ref p), some (.int m), z, some (.int t), some (.int cell), none] ∧ H' p = some (.lst [.ref pc, .int (t + 1), .int r]) ∧ ∀ a o, H a = some o → a ≠ p → H' a = some o) (fun nx hnx => ?_) ?_
  · refine ⟨_, rfl, p, _, 0, _, rfl, rfl, sp1, rfl, by decide, fun l hl => ?_⟩
    have nlp : p ≠ l := fun z => by rw [← z, hH1] at hl; cases hl
    have hO2 : ∀ a o, H a = some o → a ≠ p → (upd H1 l (.lst [])) a = some o := fun a o e h => by
      have : a ≠ l := fun z => by have := hO1 a o e h; rw [z, hl] at this; cases this
      rw [upd_ne this]; exact hO1 a o e h
    have hH2 : (upd H1 l (.lst [])) p = some (.lst [.ref pc, .int (t + 1), .int r]) := by rw [upd_ne nlp]; exact hH1
    have sp2 : SqL K (upd H1 l (.lst [])) p [.ref pc, .int (t + 1), .int r] := .inl (.inl hH2)
    have sq2 := sq _ hO2
    refine ⟨.list (ns.map PyData.int), .list [], .lst sq2 (dpall_ints ns), .lst (.inl (.inl upd_same)) .nil, shaped_ints ns, by decide, _, rfl, ite2 (fun h => ?_) (fun h => ?_)⟩
    · have hpos : 0 < ns.length := by
        cases ns with
        | nil => exact absurd h (by decide)
        | cons _ _ => exact Nat.succ_pos _
      have hlt : t % ((ns.map V.int).length : Int) < ((ns.map V.int).length : Int) := Int.emod_lt_of_pos _ (by rw [List.length_map]; omega)
      have hge : 0 ≤ t % ((ns.map V.int).length : Int) := Int.emod_nonneg _ (by rw [List.length_map]; omega)
      obtain ⟨j, hj⟩ : ∃ j : Nat, t % ((ns.map V.int).length : Int) = (j : Int) := ⟨_, (Int.toNat_of_nonneg hge).symm⟩
      have hjl : j < ns.length := by rw [hj, List.length_map] at hlt; omega
      have at_ : atI (ns.map V.int) (t % ((ns.map V.int).length : Int)) = some (.int ns[j]) := by
        rw [hj]
        exact atI_nat (by rw [List.getElem?_map, List.getElem?_eq_getElem hjl]; rfl)
      refine ⟨_, rfl, p, _, 0, _, rfl, rfl, sp2, rfl, _, rfl, .inl ⟨_, rfl, _, rfl, p, _, 0, _, rfl, rfl, sp2, rfl, _, _, rfl, .inl ⟨_, sq2, rfl⟩, _, _, rfl, rfl, (by rw [List.length_map]; omega), pc, _, _, _, rfl, rfl, sq2, at_, hnx _ _ ⟨_, _, rfl, hH2, hO2⟩⟩⟩
    · exact hnx _ _ ⟨_, _, rfl, hH2, hO2⟩
  rintro σ' H2 ⟨cell, z, rfl, hH2, hO2⟩
  have sp2 : SqL K H2 p [.ref pc, .int (t + 1), .int r] := .inl (.inl hH2)
  have sq2 := sq _ hO2
  -- turn < len(well[0]) and abs(cell) >= 10 ** 18
  refine seq_mid (fun σ' H' => H' = H2 ∧ ∃ (z : Option V), σ' = [some (.ref p), some (.int m), z, some (.int t), some (.int cell), none]) (fun nx hnx => ?_) ?_
  · have cl : (0 : Int) ≤ (if cell < 0 then -cell else cell) := by split <;> omega
    refine ⟨_, rfl, _, rfl, p, _, 0, _, rfl, rfl, sp2, rfl, _, _, rfl, .inl ⟨_, sq2, rfl⟩, _, _, rfl, rfl, _, rfl, ite2 (fun h => ?_) (fun h => hnx _ _ ⟨rfl, _, rfl⟩)⟩
    refine ⟨_, rfl, _, rfl, _, _, rfl, rfl, ⟨by decide, by decide, by decide⟩, _, _, rfl, rfl, _, rfl, ite2 (fun h2 => ?_) (fun h => hnx _ _ ⟨rfl, _, rfl⟩)⟩
    have h2 : (10 : Int) ^ (18 : Int).toNat ≤ (if cell < 0 then -cell else cell) := of_decide_eq_true h2
    have h3 : (0 : Int) ≤ 2 * ((if cell < 0 then -cell else cell) - (10 : Int) ^ (18 : Int).toNat) + (if decide (cell < 0) = true then 1 else 0) := by
      have : (0 : Int) ≤ (if decide (cell < 0) = true then 1 else 0) := by split <;> decide
      omega
    refine ⟨_, rfl, _, rfl, _, _, rfl, rfl, ⟨by decide, by decide, by decide⟩, _, _, rfl, rfl, _, _, rfl, rfl, .inl (by decide), _, rfl, _, _, rfl, rfl, .inr ⟨_, rfl, _, _, rfl, rfl, ?_⟩⟩
    refine ⟨_, rfl, _, rfl, _, _, rfl, rfl, ⟨by omega, by omega⟩, _, rfl, p, _, _, 2, rfl, rfl, hH2, rfl, ?_⟩
    refine ⟨_, rfl, .inl ⟨_, rfl, _, rfl, _, _, rfl, rfl, (by show 0 < m; omega), ?_⟩⟩
    exact fin _ (t + 1) _ _ upd_same (fun a o e h => (upd_ne h).trans (hO2 a o e h)) (by omega) (by omega) (Int.ediv_nonneg h3 (by omega)) (Int.emod_nonneg _ (by omega)) (.inl (Int.emod_lt_of_pos _ (by omega)))
  rintro σ' _ ⟨rfl, z, rfl⟩
  have b1 : 0 ≤ cell % 2147483549 := Int.emod_nonneg _ (by decide)
  have b2 : cell % 2147483549 < 2147483549 := Int.emod_lt_of_pos _ (by decide)
  have c1 : 0 ≤ (cell % 2147483549 + 41117 * t + 8009) ^ 5 := pow_pos' _ _ (by omega)
  have d1 : ∀ i : Int, 0 ≤ i % m := fun i => Int.emod_nonneg _ (by omega)
  have d2 : ∀ i : Int, i % m < m := fun i => Int.emod_lt_of_pos _ (by omega)
  -- blend = ..
  refine ⟨_, rfl, .inl ⟨_, rfl, _, _, rfl, rfl, (by show (0 : Int) < 2147483549; decide), _, rfl, _, _, rfl, rfl, .inl (by omega), _, _, rfl, rfl, _, _, rfl, rfl, _, _, rfl, rfl, ⟨by decide, by decide, (by show Int.natAbs (cell % 2147483549 + 41117 * t + 8009) < _; omega)⟩,
    .inl ⟨_, rfl, _, _, rfl, rfl, (by show (0 : Int) < 2147483587; decide), ?_⟩⟩⟩
  have e1 : 0 ≤ (cell % 2147483549 + 41117 * t + 8009) ^ (5 : Int).toNat % 2147483587 := Int.emod_nonneg _ (by decide)
  have e2 : (cell % 2147483549 + 41117 * t + 8009) ^ (5 : Int).toNat % 2147483587 < 2147483587 := Int.emod_lt_of_pos _ (by decide)
  obtain ⟨bl, hbl⟩ : ∃ bl, (cell % 2147483549 + 41117 * t + 8009) ^ (5 : Int).toNat % 2147483587 = bl := ⟨_, rfl⟩
  rw [hbl] at e1 e2
  have m1 : 0 ≤ bl * (2 * t + 5147) := Int.mul_nonneg e1 (by omega)
  have m2 : bl * (2 * t + 5147) ≤ 2147483587 * 2102301 := Int.mul_le_mul (by omega) (by omega) (by omega) (by omega)
  have m3 : 0 ≤ 50021 * t * t := Int.mul_nonneg (by omega) t0
  have m4 : 50021 * t * t ≤ 50021 * 1048577 * 1048577 := Int.mul_le_mul (by omega) (by omega) (by omega) (by omega)
  refine ⟨_, rfl, _, rfl, _, _, rfl, rfl, .inl (by omega), _, _, rfl, rfl, _, _, rfl, rfl, .inl (by omega), _, rfl, _, _, rfl, rfl, .inl (by omega), _, rfl, _, _, rfl, rfl, .inr (by omega), _, _, rfl, rfl, _, _, rfl, rfl, _, _, rfl, rfl,
    ⟨by decide, by decide, (by show Int.natAbs ((cell % 2147483549 + 41117 * t + 8009) ^ (5 : Int).toNat % 2147483587 * (2 * t + 5147) + 50021 * t * t + 41117) < _; rw [hbl]; omega)⟩, ?_⟩
  refine .inl ⟨_, rfl, _, _, rfl, rfl, (by show (0 : Int) < 2147483629; decide), _, rfl, _, _, rfl, rfl, ⟨by decide, by decide⟩, .inl ⟨_, rfl, _, rfl, _, _, rfl, rfl, (by show 0 < m; omega), ?_⟩⟩
  exact fin _ (t + 1) r _ hH2 hO2 (by omega) (by omega) r0 (d1 _) (.inl (d2 _))
end
end K00
end DL

-- part DL6
set_option maxHeartbeats 4000000
namespace DL
open PySem L2
/-! ### slices of lists -/
abbrev DO := Ev → (Ev → Option Int → Prop) → Prop
def RO (W : Wd) (B : Bs) (te : TO) (t : DO) : Prop := ∀ (σ : St) (H F : Hp) (ρ : Ev) (Q : Ev → Option Int → Prop) (R : Option Int → Hp → Prop), Rel W B F H σ ρ → t ρ Q →
  (∀ v H' F' ρ', Rel W B F' H' σ ρ' → Same F F' → Q ρ' v → R v H') → te σ H R
def cutD (xs : List D) (lo hi : Option Int) : List D := (xs.drop (HT.sIx xs.length 0 lo)).take (HT.sIx xs.length xs.length hi - HT.sIx xs.length 0 lo)
section
variable {W : Wd} {B : Bs} {F F' H H' : Hp} {σ : St} {ρ : Ev}
theorem ro_none : RO W B tNoPart (fun ρ Q => Q ρ none) := fun σ H F ρ Q R r h k => k none H F ρ r (Same.refl _) h
theorem ro_some {te : TE} {t : DE} (re : RE W B te t) : RO W B (tPart te) (fun ρ Q => t ρ fun ρ1 x => match x with | .int i => Q ρ1 (some i) | _ => False) := by
  intro σ H F ρ Q R rl h k
  refine re σ H F ρ _ _ rl h fun x H1 F1 ρ1 dx r1 s1 d1 h1 => ?_
  split at h1
  · rename_i i
    have e : x = .int i := d1
    exact ⟨i, e, k _ H1 F1 ρ1 r1 s1 h1⟩
  · exact h1.elim
theorem denL_cut {ds : List D} {xs : List V} {lo hi : Option Int} (h : DenL W F ds xs) : DenL W F (cutD ds lo hi) (cutV xs lo hi) := by
  unfold cutD cutV
  rw [h.length]
  exact (h.drop _).take _
theorem re_slL {te : TE} {tl th : TO} {t : DE} {a b : DO} (re : RE W B te t) (ra : RO W B tl a) (rb : RO W B th b) :
    RE W B (tSl (rSlL W.K) te tl th) (fun ρ Q => t ρ fun ρ1 x => a ρ1 fun ρ2 lo => b ρ2 fun ρ3 hi => match x with | .lst ds => Q ρ3 (.lst (cutD ds lo hi)) | _ => False) := by
  intro σ H F ρ Q R rl h k
  refine re σ H F ρ _ _ rl h fun x H1 F1 ρ1 dx r1 s1 d1 h1 => ?_
  refine ra σ H1 F1 ρ1 _ _ r1 h1 fun lo H2 F2 ρ2 r2 s2 h2 => ?_
  refine rb σ H2 F2 ρ2 _ _ r2 h2 fun hi H3 F3 ρ3 r3 s3 h3 => ?_
  split at h3
  · rename_i ds
    obtain ⟨a, xs, e, hs, hd⟩ := (d1.mono (s2.trans s3))
    refine ⟨a, xs, e, same_sqL r3.ex hs, fun p hp => ?_⟩
    have st := Stp.one (o := .lst (cutV xs lo hi)) r3.ex hp
    exact k _ _ _ ρ3 (.lst (cutD ds lo hi)) (r3.stp st) (((s1.trans s2).trans s3).trans st.ff) ⟨p, _, rfl, .inl (.inl upd_same), (denL_cut hd).mono st.ff⟩ h3
  · exact h3.elim
end
/-- [int(x) for x in ints] -/
theorem lc_ints {i : Nat} {e : DE} {K : Ev → List D → Prop} (he : ∀ ρ n Q, ρ.sl[i]? = some (.v (.int n)) → Q ρ (.int n) → e ρ Q) :
    ∀ (ns : List Int) (ρ : Ev) (acc : List D), i < ρ.sl.length → acc.length + ns.length ≤ sizeLine → (∀ ρ', ρ'.c = ρ.c → ρ'.sl.length = ρ.sl.length → K ρ' (acc ++ ns.map D.int)) → dLcL (dgName i) dYes e [i] (ns.map D.int) ρ acc K
  | [], ρ, acc, hi, hl, k => by
    show K ρ acc
    have := k ρ rfl rfl
    rw [List.map_nil, List.append_nil] at this
    exact this
  | n :: ns, ρ, acc, hi, hl, k => by
    show e ((ρ.wipe [i]).set i (.v (.int n))) _
    have hlen : ((ρ.wipe [i]).set i (.v (.int n))).sl.length = ρ.sl.length := by
      show ((wipeS ρ.sl [i]).set i _).length = _
      rw [List.length_set, wipeS_length]
    refine he _ n _ ?_ ⟨by rw [List.length_cons] at hl; omega, ?_⟩
    · show ((wipeS ρ.sl [i]).set i _)[i]? = _
      rw [List.getElem?_set_self (by rw [wipeS_length]; exact hi)]
    · have hb : (ρ.back [i] ((ρ.wipe [i]).set i (.v (.int n)))).sl.length = ρ.sl.length := resS_length [i] 0 ρ.sl _ hlen
      refine lc_ints he ns _ _ (by rw [hb]; exact hi) (by rw [List.length_append, List.length_cons] at *; simp only [List.length_nil] at *; omega) fun ρ' h1 h2 => ?_
      rw [List.append_assoc]
      exact k ρ' h1 (h2.trans hb)
end DL

-- part K00B
set_option maxHeartbeats 4000000
/-! K00: the well, one of some -/
namespace DL
namespace K00
open PySem PySem.Spec PyProof.Rows L2
theorem gIxL_of {ds : List D} {i : Int} {d : D} {ρ : Ev} {Q : Ev → D → Prop} (h : atI ds i = some d) (q : Q ρ d) : gIxL (.lst ds) (.int i) ρ Q := by
  unfold gIxL
  simp only [h]
  exact q
theorem RN.go {W : Wd} {B : Bs} {te : TE} {t : DE} {σ : L2.St} {H F : Hp} {ρ : Ev} {R : VK} (h : RN W B te t) (rl : Rel W B F H σ ρ) (Q : Ev → D → Prop) (k : ∀ p H' F' ρ' d, Rel W B F' H' σ ρ' → Same F F' → New W B F' H' σ ρ' p d → Q ρ' d → R (.ref p) H') (q : t ρ Q) : te σ H R := h σ H F ρ Q R rl q k
/-- one of some: whichever -/
def gOne : GF := fun ds c Q => ∃ xs : List D, ds = [.well, .lst xs] ∧ 0 < xs.length ∧ xs.length < 1073741824 ∧ c < 1048576 ∧ ∀ d ∈ xs, Q d (c + 1)
/-- the well of a script -/
def spWell (K : PySem.W.Frag) (cls : Str → Option Addr) : Sp := fun vs H Q _ => ∃ (F : Hp) (a : Addr) (ns : List Int), vs = [.ref a] ∧ Same F H ∧ SqL K F a (ns.map V.int) ∧ ns.length ≤ 1000 ∧
  ∀ (p pc : Addr) (H' F' : Hp) (ns' : List Int), Kept F H F' H' none [] → H p = none → F' p = none → ns'.length ≤ 60 → H' p = some (.lst [.ref pc, .int 0, .int 0]) → SqL K F' pc (ns'.map V.int) → Q (.ref p) H'
section
variable {P : Program} {w : World} {K : PySem.W.Frag} {mg : Str → Option Value} {base : Heap} {cls : Str → Option Addr}
theorem ok_one {f fd0 : Addr} {fd fdD : FuncData} {k : Nat} (F : Fun K "_law_one" "_law_one" sOne f fd) (FD : Fun K "_law_draw" "_law_draw" sDraw fd0 fdD) (bD : Binds K fdD ["well", "many"] []) (gD : mg "_law_draw" = some (.ref fd0)) (m_int : mg "int" = none) (m_abs : mg "abs" = none) (m_len : mg "len" = none) :
    FnOk P w K mg base CX0 (k + 2) f fd ["well", "some"] (spD K cls gOne) := by
  have GD : FnOk P w K mg base CX0 (k + 1) fd0 fdD ["well", "many"] (spD K cls gDraw) := ok_draw FD m_int m_abs m_len
  refine F.ok scO (fun vs H Q E h => len_of (n := 2) (fun ds c QD ⟨m, e, _⟩ => by rw [e]; rfl) h) (fun cdv A outer s H vs Q E hr h => ?_)
  refine ⟨_, (pss_one (ps_ret (pe_ix ix_list (pv 1) (pe_call GD hr (by rfl) gD FD.kp bD .nil pass0 (pa_cons (pv 0) (pa_cons (pe_callB call_len (by rfl) m_len PySem.boot_len (pa_cons (pv 1) pa_nil)) pa_nil))) (fun _ _ => rfl)))), body_of (fun pw B hio => (rs_ret (re_ixL (re_var (i := 1) hio) (re_call (E := E0) (ra_cons (re_var (i := 0) hio) (ra_cons (re_len (ra_cons (re_var (i := 1) hio) ra_nil)) ra_nil)))))) ?_ h⟩
  rintro ds c QD ⟨xs, rfl, h0, h1, h2, hq⟩
  refine ⟨Nat.le_refl 2, ?_⟩
  refine ⟨_, rfl, by omega, h2, fun k k0 hk => ?_⟩
  have hk' : k < (xs.length : Int) := by omega
  obtain ⟨j, rfl⟩ : ∃ j : Nat, k = (j : Int) := ⟨_, (Int.toNat_of_nonneg k0).symm⟩
  have hj : j < xs.length := by omega
  have e : atI xs (j : Int) = some xs[j] := atI_nat (List.getElem?_eq_getElem hj)
  exact gIxL_of e (hq _ (List.getElem_mem hj))
theorem ok_well {f : Addr} {fd : FuncData} {k : Nat} (F : Fun K "_law_well" "_law_well" sWell f fd) (m_int : mg "int" = none) : FnOk P w K mg base CX0 (k + 1) f fd ["script"] (spWell K cls) := by
  refine F.ok scW (fun vs H Q E ⟨F0, a, ns, e, _⟩ => by rw [e]; rfl) (fun cdv A outer s H vs Q E hr h => ?_)
  obtain ⟨F0, a, ns, rfl, ex, hS, hl, q⟩ := h
  have hio : (bs0 F0 H).io = [] := rfl
  refine ⟨_, pss_one (ps_ret (pe_lst (pa_cons (pe_lc rfl scW.nd (pi_seq (pe_slice sl_list (pv 0) po_none (po_some pe_int))) (own := [("cell", 1)]) (blkOk_by rfl) (fun _ _ _ _ _ => (pg_name (i := 1) scW.nd rfl (.inl rfl))) (fun _ _ _ _ _ => pts_nil) (fun _ _ _ _ _ => (pe_callTy call_int1 (by rfl) m_int (by decide +kernel) (pa_cons (pv 1) pa_nil)))) (pa_cons pe_int (pa_cons pe_int pa_nil))))), ?_⟩
  show tLst _ (start ["script", "cell"] [V.ref a]) H _
  refine RN.go (W := ⟨K, cls, none⟩) (B := bs0 F0 H) (F := F0) (ρ := ent 2 [.lst (ns.map D.int)] 0) (rn_lst (ra_cons (RN.re (rn_lc (is := [1]) (vs := [1]) (ri_seq (re_slL (re_var (i := 0) hio) ro_none (ro_some re_c))) (fun B hb => by have hio := hb.trans hio; exact (rg_name (i := 1))) (fun B hb => by have hio := hb.trans hio; exact rt_yes) (fun B hb => by have hio := hb.trans hio; exact (re_int (ra_cons (re_var (i := 1) hio) ra_nil))) (fun _ h => h))) (ra_cons re_c (ra_cons re_c ra_nil))))
    (rel_start (N := ["script", "cell"]) ex (.cons ⟨a, _, rfl, hS, denL_ints ns⟩ rfl) trivial (by show 1 ≤ 2; decide)) (fun ρ d => ∃ ns' : List Int, d = .lst [.lst (ns'.map D.int), .int 0, .int 0] ∧ ns'.length ≤ 60) (fun p H' F' ρ' d r sf n ⟨ns', e, hl'⟩ => ?_) ?_
  · subst e
    obtain ⟨xs, h1, x1, r1, e1, ⟨pc, ys, e2, hs2, hd2⟩, x2, r2, e3, e4, x3, r3, e5, e6, e7⟩ := n.own
    have e4 : x2 = .int 0 := e4
    have e6 : x3 = .int 0 := e6
    have e7 : r3 = [] := e7
    subst e1 e2 e3 e4 e5 e6 e7
    rw [denL_ints_inv hd2] at hs2
    exact q p pc H' F' ns' ⟨r.f0, r.ex, fun a o h1 h2 h3 => r.keep a o h1 h2 h3, fun a h1 h2 => r.new a h1 h2⟩ n.h0 n.fp hl' h1 hs2
  · have ec : cutD (ns.map D.int) none (some 60) = (ns.take 60).map D.int := by
      unfold cutD
      rw [show HT.sIx (ns.map D.int).length (ns.map D.int).length (some 60) = min 60 (ns.map D.int).length from HT.sIx_nat _ _ 60, HT.sIx_none]
      rw [List.drop_zero, Nat.sub_zero, ← List.map_take, List.length_map]
      congr 1
      rw [List.take_eq_take_iff]
      omega
    refine ⟨rfl, ?_⟩
    rw [ec]
    refine lc_ints (fun ρ n Q h q => ?_) (ns.take 60) _ [] (by show 1 < 2; decide) (by rw [List.length_take]; show 0 + _ ≤ sizeLine; rw [sizeLine_eq]; omega) fun ρ' _ _ => ?_
    · show dVar 1 ρ _
      unfold dVar
      rw [h]
      exact q
    · refine ⟨by show 3 ≤ sizeLine; decide, ns.take 60, rfl, by rw [List.length_take]; omega⟩
end
end K00
end DL

-- part DX2
set_option maxHeartbeats 4000000
/-! type(x).__name__ of an instance of an own class -/
namespace DL
open PySem PySem.Spec PyProof.Rows L2
/-- what the written part tells of a class's name -/
structure CName (K : PySem.W.Frag) (C : Addr) (nm : Str) : Prop where
  at_ : ∃ o cd tk, K.lookup C = some o ∧ o.cls = .type "type" ∧ o.data = .cls cd ∧ o.slots[2]? = some (some (.str nm tk))
  found : PySem.W.findCls K (.ref C) (.type "type") "__name__" = some (.get (.builtin "getset_descriptor.__get__") (.builtin "type.__name__") (.ref C) (.type "type"))
  no : PySem.W.nsIn K cStatics "thirdparty.any" = some none
open PySem.W PySem.Calls Builtin Builtin.ObjectAttr Builtin.Getset_descriptor in
theorem cn_dga (C : Addr) (d tp : Value) : descrGetArgs ⟨[d, .ref C, tp], []⟩ = pure (d, some (.ref C), given tp) := by kernel_rfl
section
variable {prog : Program} {w : World} {A : Around} {E : Value → Shared → Prop} {s : Shared} {K : PySem.W.Frag} {C : Addr} {nm : Str}
open PySem.W PySem.Calls Builtin Builtin.ObjectAttr Builtin.Getset_descriptor in
theorem own_name {expr : Bool} {Q : Value → Shared → Prop} (X : K.In s.heap) (N : CName K C nm) (h : ∀ tk u, Q (.str nm tk) { s with toks := u }) : wpAny (model prog w) A (getAttr (.ref C) "__name__" expr) Q E s := by
  obtain ⟨o, cd, tk, lc, hc, hd, hs⟩ := N.at_
  have L0 : PySem.W.Looks (model prog w) s.heap (typeOf (.ref C)) (.type "type") := PySem.W.looks_typeIn X (by show (K.lookup C).map (·.cls) = _; rw [lc]; exact congrArg some hc)
  have hg : PySem.W.findIn K (.type "type") "__getattribute__" = some (some (.builtin "type.__getattribute__")) := PySem.W.type_tga
  refine PySem.W.cls_open X (PySem.W.looks_opaque X N.no) L0 hg (PySem.W.looks_hook X (r := none) (by rfl)) (by show PySem.W.subIn K _ _ = _; rfl) N.found ?_
  show wpAny _ _ (do ret (← holding [Value.builtin "type.__name__"] (call (.builtin "getset_descriptor.__get__") [.builtin "type.__name__", .ref C, .type "type"]))) _ _ _
  refine wpAny_bind (wpAny_holding (wpAny_call ?_))
  have hC : s.heap.get? C = some o := X _ _ lc
  obtain ⟨hh, g, dr, t, os⟩ := s
  dsimp only at L0 hC ⊢
  have L1 : PySem.W.Looks (model prog w) hh (isSubtype (.type "type") (.type "type")) true := PySem.W.Looks.of_pure (by rw [isSubtype_type]; kernel_rfl)
  refine codeAny_call_builtin KF.slot_gs.plain KF.entry_gs (KF.slot_gs.check _ _ _ _ _ _ _ _ PySem.W.ktyn_type (KF.args_gs _ _ _) ?_)
  unfold Builtin.«getset_descriptor.__get__» descrGet
  rw [cn_dga]
  refine wpAny_bind (wpAny_pure ?_)
  unfold descrGetter descrCheckInstance descrNameAndClass isInstance
  simp only [PySem.W.ktyn_owner]
  repeat lk
  refine ⟨Code.quiet_builtin _ (by decide +kernel), codeAny_builtin PySem.W.ktyn_entry ?_⟩
  unfold Builtin.«type.__name__»
  dsimp only
  unfold keptObject slotAt
  dsimp only
  refine wpAny_bind (wpAny_bind (wpAny_loadPart (o := o) hC ?_))
  rw [hs]
  refine wpAny_pure ?_
  show wpAny _ _ (ret (Value.str nm tk)) _ _ _
  refine wpAny_pure ?_
  show wpAny _ _ (ret (Value.str nm tk)) _ _ _
  refine wpAny_pure ?_
  exact handed_on rfl (h tk _)
end
/-- type(e).__name__ -/
def tTn (K : PySem.W.Frag) (ta : TE) : TE := fun σ H Q => ta σ H fun x H1 => ∃ p C dx fs nm, x = .ref p ∧ H1 p = some (.ins C dx fs) ∧ CName K C nm ∧ Q (.str nm) H1
section
variable {X : Cx} {o : Expr} {ta : TE} {p0 p1 p2 : Pos}
theorem pe_tname (ha : PE X o ta) (hg : Gl X "type") (hm : X.mg "type" = none) (na : starEach [o] X.env = (false, eval o X.env) :: starEach [] X.env := by rfl)
    (hb : attributeBase (.Call (.Name "type" p0) [o] [] p1) "__name__" X.env (eval (.Call (.Name "type" p0) [o] [] p1) X.env) = eval (.Call (.Name "type" p0) [o] [] p1) X.env := by rfl) :
    PE X (.Attribute (.Call (.Name "type" p0) [o] [] p1) "__name__" p2) (tTn X.K ta) := by
  refine ⟨fun pins s σ H Q I h => ?_⟩
  refine attr_of hb ?_
  refine Call_ (ld_blt (u := .type "type") I hg hm (by decide +kernel) (PyProof.Rows.callWith_type1 (one_arg ha I h (fun v s2 x H2 I2 r q => ?_) na) na))
  obtain ⟨p, C, dx, fs, nm, e, hp, hn, q⟩ := q
  subst e
  obtain rfl : v = Value.ref p := r
  obtain ⟨mA, O, _⟩ := ins_get I2.hok hp
  obtain ⟨oda, J, _⟩ := O.look
  refine PySem.W.kto_own J ?_
  exact own_name I2.kIn hn fun tk u => ⟨.str nm, H2, I2.tok u, ⟨_, rfl⟩, q⟩
end
end DL

-- part DL7
set_option maxHeartbeats 4000000
/-! what __init__ does: an object of one's own that the caller gave -/
namespace DL
open PySem L2
/-- class, arguments, draws; the attributes, draws -/
abbrev GI := Str → List D → Nat → (List Str → List D → Nat → Prop) → Prop
def spI (K : PySem.W.Frag) (cls : Str → Option Addr) (G : GI) : Sp := fun vs H Q _ => ∃ (F : Hp) (us : List V) (ds : List D) (c : Nat) (cn : Str) (C dx p : Addr) (pw : Option Addr) (QD : List Str → List D → Nat → Prop),
  vs = .ref p :: us ∧ Same F H ∧ F p = none ∧ pw ≠ some p ∧ H p = some (.ins C dx []) ∧ cls cn = some C ∧ DenL ⟨K, cls, pw⟩ F ds us ∧ WellOk ⟨K, cls, pw⟩ (bs0 F H) F H c ∧ G cn ds c QD ∧
  ∀ H' F' ns es c', Kept F H F' H' pw [p] → F' p = none → OwnAt ⟨K, cls, pw⟩ F' H' p (.obj cn ns es) → WellOk ⟨K, cls, pw⟩ (bs0 F H) F' H' c' → QD ns es c' → Q .non H'
def bsI (F H : Hp) (p : Addr) : Bs := ⟨F, H, [p], []⟩
def entI (n : Nat) (cn : Str) (ds : List D) (c : Nat) : Ev := ⟨Sl.o (.obj cn [] []) :: (ds.map .v ++ List.replicate (n - 1 - ds.length) Sl.un), c⟩
section
variable {W : Wd} {B : Bs} {F F' H H' : Hp} {σ : St} {ρ : Ev}
theorem WellOk.npw {c : Nat} {p : Addr} (h : WellOk W B F H c) (hp : p ∈ B.io) : W.pw ≠ some p := fun e => by
  unfold WellOk at h
  rw [e] at h
  exact h.2.1 hp
theorem rel_startI {N : List Str} {us : List V} {ds : List D} {c : Nat} {cn : Str} {C dx p : Addr} (ex : Same F H) (fp : F p = none) (hw : W.pw ≠ some p) (hp : H p = some (.ins C dx [])) (hc : W.cls cn = some C) (hd : DenL W F ds us) (w : WellOk W (bs0 F H) F H c) (hn : ds.length + 1 ≤ N.length) :
    Rel W (bsI F H p) F H (start N (.ref p :: us)) (entI N.length cn ds c) := by
  have hl := hd.length
  have own : OwnAt W F H p (.obj cn [] []) := ⟨C, dx, [], hp, hc, rfl, rfl⟩
  have get : ∀ (i : Nat) (s : Sl), (entI N.length cn ds c).sl[i]? = some s → (i = 0 ∧ s = .o (.obj cn [] [])) ∨ s = .un ∨ ∃ d v, s = .v d ∧ (start N (.ref p :: us))[i]? = some (some v) ∧ Den W F d v := fun i s h => by
    cases i with
    | zero => exact .inl ⟨rfl, (Option.some.inj h).symm⟩
    | succ i =>
      have h : (ds.map Sl.v ++ List.replicate (N.length - 1 - ds.length) Sl.un)[i]? = some s := h
      by_cases hi : i < ds.length
      · rw [List.getElem?_append_left (by rw [List.length_map]; exact hi), List.getElem?_map] at h
        have e : ds[i]? = some ds[i] := List.getElem?_eq_getElem hi
        rw [e] at h
        obtain ⟨v, hv, dv⟩ := hd.get e
        refine .inr (.inr ⟨_, v, (Option.some.inj h).symm, ?_, dv⟩)
        unfold L2.start
        rw [List.getElem?_append_left (by rw [List.length_map, List.length_cons, ← hl]; omega), List.getElem?_map, List.getElem?_cons_succ, hv]
        rfl
      · rw [List.getElem?_append_right (by rw [List.length_map]; omega), List.getElem?_replicate] at h
        split at h
        · exact .inr (.inl (Option.some.inj h).symm)
        · cases h
  have z0 : (start N (.ref p :: us))[0]? = some (some (.ref p)) := by
    unfold L2.start
    rw [List.getElem?_append_left (by rw [List.length_map, List.length_cons]; omega)]
    rfl
  refine ⟨ex, ?_, fun i s h => ?_, fun i j d e q h h' h1 h2 => ?_, ?_, fun a o h _ _ => h, fun a h1 h2 => h2, Same.refl _, (fun a ha => ?_), (fun q hq => nomatch hq), (fun q hq => nomatch hq), List.nodup_nil⟩
  · show (start N (.ref p :: us)).length = (Sl.o (.obj cn [] []) :: (ds.map Sl.v ++ List.replicate (N.length - 1 - ds.length) Sl.un)).length
    unfold L2.start
    simp only [List.length_append, List.length_map, List.length_replicate, List.length_cons]
    omega
  · rcases get i s h with ⟨e0, e⟩ | e | ⟨d, v, e, hv, dv⟩
    · subst e e0
      exact ⟨p, z0, fp, .inr (by show p ∈ [p]; simp), hw, own⟩
    · subst e; trivial
    · subst e; exact ⟨v, hv, dv⟩
  · rcases get i _ h with ⟨e0, e⟩ | e | ⟨d, v, e, _⟩
    · rcases get j _ h' with ⟨e1, e⟩ | e | ⟨d, v, e, _⟩
      · rw [e0, e1]
      · cases e
      · cases e
    · cases e
    · cases e
  · refine w.base fun q hq => ?_
    show q ∉ [p]
    rw [List.mem_singleton]
    intro z
    exact hw (by rw [hq, z])
  · have : a = p := List.mem_singleton.mp ha
    rw [this]; exact nt_of hp fun _ z => nomatch z
/-- a statement that sets no slot -/
def RSI (W : Wd) (B : Bs) (ts : TS) (t : DS) : Prop := ∀ (σ : St) (H F : Hp) (ρ : Ev) (D : Ends) (DD : DEnds), Rel W B F H σ ρ → t DD ρ → (∀ H' F' ρ', Rel W B F' H' σ ρ' → Same F F' → DD.nx ρ' → D.nx σ H') → ts D σ H
theorem rsi_next : RSI W B tNext dNext := fun σ H F ρ D DD r h f => f H F ρ r (Same.refl _) h
theorem rsi_seq {t u : TS} {a b : DS} (ra : RSI W B t a) (rb : RSI W B u b) : RSI W B (tSeq t u) (dSeq a b) := fun σ H F ρ D DD r h f =>
  ra σ H F ρ _ { DD with nx := b DD } r h fun H1 F1 ρ1 r1 s1 h1 => rb σ H1 F1 ρ1 D DD r1 h1 fun H2 F2 ρ2 r2 s2 h2 => f H2 F2 ρ2 r2 (s1.trans s2) h2
/-- an __init__'s body keeps its promise -/
theorem bodyI_of {K : PySem.W.Frag} {cls : Str → Option Addr} {G : GI} {N : List Str} {ts : TS} {T : DS} {vs : List V} {Q : VK} {E : XK} (rs : ∀ pw B p, B.io = [p] → RSI ⟨K, cls, pw⟩ B ts T)
    (hG : ∀ cn ds c QD, G cn ds c QD → ds.length + 1 ≤ N.length ∧ T { nx := fun ρ => ∃ ns es, getO ρ 0 = some (.obj cn ns es) ∧ QD ns es ρ.c, rt := fun _ _ => False } (entI N.length cn ds c))
    (h : spI K cls G vs H Q E) : ts { nx := fun _ H' => Q .non H', rt := Q } (start N vs) H := by
  obtain ⟨F, us, ds, c, cn, C, dx, p, pw, QD, rfl, ex, fp, hw, hp, hc, hd, w, g, k⟩ := h
  obtain ⟨hn, ht⟩ := hG cn ds c QD g
  have r0 := rel_startI (W := ⟨K, cls, pw⟩) (N := N) ex fp hw hp hc hd w hn
  refine rs pw (bsI F H p) p rfl (start N (.ref p :: us)) H F (entI N.length cn ds c) _ _ r0 ht (fun H' F' ρ' r' s' ⟨ns, es, q1, q2⟩ => ?_)
  have z0 : (start N (.ref p :: us))[0]? = some (some (.ref p)) := by
    unfold L2.start
    rw [List.getElem?_append_left (by rw [List.length_map, List.length_cons]; omega)]
    rfl
  unfold getO at q1
  split at q1
  · rename_i d e
    cases q1
    obtain ⟨p', e1, fp', _, _, ow⟩ := r'.sl 0 _ e
    rw [z0] at e1
    cases e1
    exact k H' F' ns es ρ'.c ⟨r'.f0, r'.ex, fun a o h1 h2 h3 => r'.keep a o h1 h2 h3, fun a h1 h2 => r'.new a h1 h2⟩ fp' ow (r'.well.base fun p hp z => nomatch z) q2
  · cases q1
/-- behind an __init__ of the object at p, which is at slot i or new -/
theorem Rel.calledI {c' : Nat} {p : Addr} (r : Rel W B F H σ ρ) (hp : B.H0 p = none ∨ p ∈ B.io) (ap : ∀ (i : Nat) (e : D), ρ.sl[i]? = some (.o e) → σ[i]? ≠ some (some (.ref p))) (nh : ∀ q ∈ B.hid, q.1 ≠ p) (hne : nt (H' p))
    (k : Kept F H F' H' W.pw [p]) (w : WellOk W (bs0 F H) F' H' c') : Rel W B F' H' σ (ρ.cnt c') := by
  have wk : WellOk W B F' H' c' := w.base fun p hp => by
    have := r.well
    unfold WellOk at this
    rw [hp] at this
    exact this.2.1
  have hneH : ∀ {p : Addr} {o : HO}, H p = some o → H p ≠ none := fun h q => by rw [h] at q; cases q
  have keepO : ∀ {q : Addr} {d : D}, OwnAt W F H q d → F q = none → W.pw ≠ some q → q ≠ p → F' q = none ∧ OwnAt W F' H' q d := fun {q d} own fp hw hq => by
    obtain ⟨o, ho⟩ := own.ne
    exact ⟨k.new q own.nt fp, own.mono k.ff ((k.hh q o ho hw (by rw [List.mem_singleton]; exact hq)).trans ho.symm)⟩
  refine ⟨k.fh, r.len, fun i s h => ?_, r.inj, wk, fun a o h1 h2 h3 => ?_, fun a h1 h2 => ?_, r.f0.trans k.ff, fun a ha => ?_, fun q hq => ?_, r.hap, r.hnd⟩
  · have q := r.sl i s h
    cases s with
    | un => trivial
    | v d => obtain ⟨u, e, hd⟩ := q; exact ⟨u, e, hd.mono k.ff⟩
    | o d =>
      obtain ⟨q, e, fp, h0, hw, own⟩ := q
      obtain ⟨f', own'⟩ := keepO own fp hw fun z => ap i d h (by rw [e, z])
      exact ⟨q, e, f', h0, hw, own'⟩
  · have ha : a ≠ p := fun z => by
      subst z
      rcases hp with hp | hp
      · rw [hp] at h1; cases h1
      · exact h3 hp
    exact k.hh a o (r.keep a o h1 h2 h3) h2 (by rw [List.mem_singleton]; exact ha)
  · exact k.new a (r.ntH h1) (r.new a h1 h2)
  · by_cases ha2 : a = p
    · rw [ha2]; exact hne
    · have hw : W.pw ≠ some a := fun e => by
        have w := r.well
        unfold WellOk at w
        rw [e] at w
        exact w.2.1 ha
      exact nt_eq (r.ioH a ha) fun o q => k.hh a o q hw (by rw [List.mem_singleton]; exact ha2)
  · obtain ⟨h1, h2, h3, h4⟩ := r.hid q hq
    obtain ⟨f', own'⟩ := keepO h4 h1 h3 (nh q hq)
    exact ⟨f', h2, h3, own'⟩
/-! ### C(..): a new instance -/
def dMakeI (cn : Str) (G : GI) (a : DA) : DE := fun ρ Q => a ρ fun ρ1 ds => G cn ds ρ1.c fun ns es c' => Q (ρ1.cnt c') (.obj cn ns es)
theorem Rel.made {G : GI} {C x dx : Addr} {cn : Str} {us : List V} {ds : List D} {Q : Ev → D → Prop} {R : VK} {E : XK} (r : Rel W B F H σ ρ) (hc : W.cls cn = some C) (hd : DenL W F ds us) (g : G cn ds ρ.c fun ns es c' => Q (ρ.cnt c') (.obj cn ns es))
    (hx : H x = none) (hdx : H dx = none) (hne : dx ≠ x) (k : ∀ p H' F' ρ' d, Rel W B F' H' σ ρ' → Same F F' → New W B F' H' σ ρ' p d → Q ρ' d → R (.ref p) H') :
    spI W.K W.cls G (.ref x :: us) (upd (upd H dx (.own x)) x (.ins C dx [])) (fun v H2 => v = .non ∧ R (.ref x) H2) E := by
  have s1 : Stp F H F (upd H dx (.own x)) := Stp.lay r.ex hdx
  have hx2 : (upd H dx (.own x)) x = none := by rw [upd_ne hne.symm]; exact hx
  have s2 : Stp F (upd H dx (.own x)) F (upd (upd H dx (.own x)) x (.ins C dx [])) := Stp.lay s1.fh hx2
  have r2 := (r.stp s1).stp s2
  refine ⟨F, us, ds, ρ.c, cn, C, dx, x, W.pw, _, rfl, r2.ex, r.fF hx, r.npw hx, upd_same, hc, hd, r2.well.base (fun p hp z => nomatch z), g, fun H' F' ns es c' kp fx own w q => ⟨rfl, ?_⟩⟩
  have ap : ∀ (i : Nat) (e : D), ρ.sl[i]? = some (.o e) → σ[i]? ≠ some (some (.ref x)) := fun i e h z => by
    obtain ⟨p, e1, _, _, _, ow⟩ := r.sl i _ h
    rw [z] at e1; cases e1
    obtain ⟨o, ho⟩ := ow.ne
    rw [hx] at ho; cases ho
  have nh : ∀ q ∈ B.hid, q.1 ≠ x := fun q hq z => by
    obtain ⟨_, _, _, ow⟩ := r.hid q hq
    obtain ⟨o, ho⟩ := ow.ne
    rw [z, hx] at ho; cases ho
  obtain ⟨o', ho'⟩ := own.ne
  have r3 := r2.calledI (c' := c') (.inl (r.fresh0 hx)) ap nh own.nt kp w
  exact k x H' F' _ (.obj cn ns es) r3 kp.ff ⟨own, fx, r.fresh0 hx, r.npw hx, ap, nh⟩ q
theorem rn_make {G : GI} {C : Addr} {cn : Str} {ta : TA} {a : DA} {E : XK} (hc : W.cls cn = some C) (ra : RA W B ta a) : RN W B (tMake C (spI W.K W.cls G) [] E ta) (dMakeI cn G a) := by
  intro σ H F ρ Q R rl h k
  refine ra σ H F ρ _ _ rl h fun vs H1 F1 ρ1 ds r1 s1 d1 h1 => ?_
  intro x dx hx hdx hne
  rw [List.append_nil]
  exact r1.made hc d1 h1 hx hdx hne fun p H' F' ρ' d r' s' n q => k p H' F' ρ' d r' (s1.trans s') n q
theorem rn_makeK0 {G : GI} {C : Addr} {cn : Str} {ta : TA} {a : DA} {E : XK} {m : Nat} {gV : List V → List V → List V} {pm : List D → List D} (hc : W.cls cn = some C) (ra : RA W B ta a)
    (hp : ∀ F x zs ds, DenL W F ds zs → ds.length = m → ∃ us, gV [x] zs = x :: us ∧ DenL W F (pm ds) us) : RN W B (tMakeK C 0 m (spI W.K W.cls G) gV E tNil ta) (fun ρ Q => a ρ fun ρ1 ds => ds.length = m ∧ G cn (pm ds) ρ1.c fun ns es c' => Q (ρ1.cnt c') (.obj cn ns es)) := by
  intro σ H F ρ Q R rl h k
  refine ra σ H F ρ _ _ rl h fun vs H1 F1 ρ1 ds r1 s1 d1 h1 => ?_
  refine ⟨rfl, by rw [← d1.length]; exact h1.1, fun x dx hx hdx hne => ?_⟩
  obtain ⟨us, e, hd⟩ := hp F1 (.ref x) vs ds d1 h1.1
  rw [e]
  exact r1.made hc hd h1.2 hx hdx hne fun p H' F' ρ' d r' s' n q => k p H' F' ρ' d r' (s1.trans s') n q
/-! ### in the body of an __init__ -/
/-- self.f = e -/
def dSetA (i : Nat) (f : Str) (t : DE) : DS := fun DD ρ => t ρ fun ρ1 d => match getO ρ1 i with
  | some (.obj c ns ds) => ns.contains f = false ∧ ns.length < 1000 ∧ DD.nx (ρ1.set i (.o (.obj c (ns ++ [f]) (ds ++ [d]))))
  | _ => False
theorem putF_new {f : Str} {v : V} : ∀ {gs : List (Str × V)}, (gs.map (·.1)).contains f = false → putF f v gs = gs ++ [(f, v)]
  | [], _ => rfl
  | (g, x) :: r, h => by
    rw [List.map_cons, List.contains_cons, Bool.or_eq_false_iff] at h
    have hne : ¬ g = f := fun z => by
      subst z
      rw [beq_self_eq_true] at h
      exact Bool.noConfusion h.1
    show (if g = f then (g, v) :: r else (g, x) :: putF f v r) = _
    rw [if_neg hne, putF_new h.2]; rfl
theorem rsi_setA {i : Nat} {f : Str} {te : TE} {t : DE} (re : RE W B te t) (hcls : ∀ c C, W.cls c = some C → Cls W.K C) (hno : ∀ c C, W.cls c = some C → NoAttr W.K C f) : RSI W B (sFld W.K (tVar i) te f) (dSetA i f t) := by
  intro σ H F ρ D DD rl h k
  refine re σ H F ρ _ _ rl h fun y H1 F1 ρ1 d r1 s1 d1 h1 => ?_
  split at h1
  · rename_i c ns ds g1
    obtain ⟨p, e2, e3, C, dx, gs, hx, hc, hn, hd⟩ := r1.own g1
    subst hn
    refine ⟨.ref p, e3, p, C, dx, gs, rfl, hx, hcls _ _ hc, hno _ _ hc, (by have := h1.2.1; rw [List.length_map] at this; exact this), ?_⟩
    rw [putF_new h1.1]
    exact k _ F1 _ (r1.oset (d' := .obj c (gs.map (·.1) ++ [f]) (ds ++ [d])) e2 e3 ⟨C, dx, _, upd_same, hc, by rw [List.map_append]; rfl, by rw [List.map_append]; exact hd.append ⟨y, [], rfl, d1, rfl⟩⟩) s1 h1.2.2
  · exact h1.elim
/-- self.f -/
def dFldO (i : Nat) (f : Str) : DE := fun ρ Q => match getO ρ i with
  | some (.obj _ ns ds) => match fldD ns ds f with | some d => Q ρ d | none => False
  | _ => False
theorem re_fldO {i : Nat} {f : Str} (hcls : ∀ c C, W.cls c = some C → Cls W.K C) (hno : ∀ c C, W.cls c = some C → NoAttr W.K C f) : RE W B (tFld W.K (tVar i) f) (dFldO i f) := by
  intro σ H F ρ Q R rl h k
  unfold dFldO at h
  split at h
  · rename_i c ns ds g1
    obtain ⟨p, e2, e3, C, dx, gs, hx, hc, hn, hd⟩ := rl.own g1
    split at h
    · rename_i d ed
      subst hn
      obtain ⟨v, hv, dv⟩ := fld_lookup hd ed
      exact ⟨.ref p, e3, p, C, dx, gs, v, rfl, hx, hcls _ _ hc, hno _ _ hc, hv, k v H F ρ d rl (Same.refl _) dv h⟩
    · exact h.elim
  · exact h.elim
/-- type(self).__name__ -/
def dTnO (nmOf : Str → Option Str) (i : Nat) : DE := fun ρ Q => match getO ρ i with
  | some (.obj c _ _) => match nmOf c with | some nm => Q ρ (.str nm) | none => False
  | _ => False
theorem re_tnO {i : Nat} {nmOf : Str → Option Str} (hn : ∀ c C nm, W.cls c = some C → nmOf c = some nm → CName W.K C nm) : RE W B (tTn W.K (tVar i)) (dTnO nmOf i) := by
  intro σ H F ρ Q R rl h k
  unfold dTnO at h
  split at h
  · rename_i c ns ds g1
    obtain ⟨p, e2, e3, C, dx, gs, hx, hc, _, hd⟩ := rl.own g1
    split at h
    · rename_i nm en
      exact ⟨.ref p, e3, p, C, dx, gs, nm, rfl, hx, hn _ _ _ hc en, k _ H F ρ (.str nm) rl (Same.refl _) rfl h⟩
    · exact h.elim
  · exact h.elim
def dLower (t : DE) : DE := fun ρ Q => t ρ fun ρ1 x => match x with | .str a => a.length ≤ 5592405 ∧ Q ρ1 (.str (Txt.lower a)) | _ => False
theorem re_lower {te : TE} {t : DE} (re : RE W B te t) : RE W B (tM0 (fun x xs H Q => ∃ a, x = .str a ∧ xs = [] ∧ a.length ≤ 5592405 ∧ Q (.str (Txt.lower a)) H) te) (dLower t) := by
  intro σ H F ρ Q R rl h k
  refine re σ H F ρ _ _ rl h fun x H1 F1 ρ1 dx r1 s1 d1 h1 => ?_
  split at h1
  · rename_i a
    have e : x = .str a := d1
    exact ⟨⟨a, e⟩, a, e, rfl, h1.1, k _ H1 F1 ρ1 (.str _) r1 s1 rfl h1.2⟩
  · exact h1.elim
/-- self.f, self.g = a tuple of two -/
def gFld (K : PySem.W.Frag) (ta : TE) (f : Str) : TG := fun v σ H Q => ta σ H fun x H1 => ∃ a C dx fs, x = .ref a ∧ H1 a = some (.ins C dx fs) ∧ Cls K C ∧ NoAttr K C f ∧ fs.length < 1000 ∧ Q σ (upd H1 a (.ins C dx (putF f v fs)))
theorem pg_fld {X : Cx} {o : Expr} {f : Str} {ta : TE} {pos : Pos} (ha : PE X o ta) : PG X (.Attribute o f pos) (gFld X.K ta f) := by
  refine ⟨fun pins s σ H v u Q I r h => ?_⟩
  rw [arm_assign_Attribute]
  refine wpAny_bind (wpAny_holding (thn (ha.run pins s σ H _ I h) fun ov s1 ⟨x, H1, I1, r1, a, C, dx, fs, ex, ea, c, n, l, q⟩ => ?_))
  subst ex
  obtain rfl : ov = Value.ref a := r1
  refine wpAny_bind (wpAny_standAt (wpAny_bind (wpAny_holding ?_)))
  exact setattr_ok I1 ea c n l r fun s3 I3 => wpAny_release ⟨σ, _, I3, q⟩
def dUnp2 (i : Nat) (f g : Str) (t : DE) : DS := fun DD ρ => t ρ fun ρ1 d => match d, getO ρ1 i with
  | .tup [x, y], some (.obj c ns ds) => ns.contains f = false ∧ (ns ++ [f]).contains g = false ∧ ns.length < 900 ∧ DD.nx ((ρ1.set i (.o (.obj c (ns ++ [f]) (ds ++ [x])))).set i (.o (.obj c (ns ++ [f] ++ [g]) (ds ++ [x] ++ [y]))))
  | _, _ => False
theorem getO_set {ρ : Ev} {i : Nat} {d : D} {s : Sl} (h : ρ.sl[i]? = some s) : (ρ.set i (.o d)).sl[i]? = some (.o d) := by
  have hi : i < ρ.sl.length := (List.getElem?_eq_some_iff.mp h).1
  show (ρ.sl.set i _)[i]? = _
  rw [List.getElem?_set_self hi]
theorem rsi_unp2 {i : Nat} {f g : Str} {te : TE} {t : DE} (re : RE W B te t) (hcls : ∀ c C, W.cls c = some C → Cls W.K C) (hnf : ∀ c C, W.cls c = some C → NoAttr W.K C f) (hng : ∀ c C, W.cls c = some C → NoAttr W.K C g) :
    RSI W B (tAsg te (gTup W.K 2 (gCons (gFld W.K (tVar i) f) (gCons (gFld W.K (tVar i) g) gNil)))) (dUnp2 i f g t) := by
  intro σ H F ρ D DD rl h k
  refine re σ H F ρ _ _ rl h fun y H1 F1 ρ1 d r1 s1 d1 h1 => ?_
  split at h1
  · rename_i x1 x2 c ns ds g1
    obtain ⟨a, xs, e, hs, hd1⟩ := d1
    obtain ⟨v1, v2, rfl, dv1, dv2⟩ := den2 hd1
    obtain ⟨p, e2, e3, C, dx, gs, hx, hc, hn, hd⟩ := r1.own g1
    subst hn
    obtain ⟨c1, c2, hl, hq⟩ := h1
    rw [List.length_map] at hl
    have own1 : OwnAt W F1 (upd H1 p (.ins C dx (gs ++ [(f, v1)]))) p (.obj c (gs.map (·.1) ++ [f]) (ds ++ [x1])) := ⟨C, dx, _, upd_same, hc, by rw [List.map_append]; rfl, by rw [List.map_append]; exact hd.append ⟨v1, [], rfl, dv1, rfl⟩⟩
    have r2 := r1.oset e2 e3 own1
    have own2 : OwnAt W F1 (upd (upd H1 p (.ins C dx (gs ++ [(f, v1)]))) p (.ins C dx (gs ++ [(f, v1)] ++ [(g, v2)]))) p (.obj c (gs.map (·.1) ++ [f] ++ [g]) (ds ++ [x1] ++ [x2])) := ⟨C, dx, _, upd_same, hc, by rw [List.map_append, List.map_append]; rfl, by
      rw [List.map_append, List.map_append]; exact (hd.append (DenL.cons dv1 DenL.nil)).append (DenL.cons dv2 DenL.nil)⟩
    have r3 := r2.oset (getO_set e2) e3 own2
    refine ⟨a, [v1, v2], e, sqT_of r1.ex hs, rfl, v1, [v2], rfl, .ref p, e3, p, C, dx, gs, rfl, hx, hcls _ _ hc, hnf _ _ hc, by omega, ?_⟩
    rw [putF_new c1]
    refine ⟨v2, [], rfl, .ref p, e3, p, C, dx, _, rfl, upd_same, hcls _ _ hc, hng _ _ hc, by rw [List.length_append, List.length_singleton]; omega, ?_⟩
    rw [putF_new (by rw [List.map_append]; exact c2)]
    exact ⟨rfl, k _ F1 _ r3 s1 hq⟩
  · exact h1.elim
/-- super().__init__(..): what stands above sets the attributes -/
def dSup (okc : Str → Bool) (G : GI) (a : DA) : DS := fun DD ρ => match getO ρ 0 with
  | some (.obj c0 _ _) => okc c0 = true ∧ a ρ fun ρ1 es => match getO ρ1 0 with
    | some (.obj c [] []) => G c es ρ1.c fun ns ds c' => DD.nx ((ρ1.set 0 (.o (.obj c ns ds))).cnt c')
    | _ => False
  | _ => False
theorem Rel.setO {i : Nat} {d d' : D} {p : Addr} (r : Rel W B F H σ ρ) (hs : ρ.sl[i]? = some (.o d)) (hp : σ[i]? = some (some (.ref p))) (own : OwnAt W F H p d') : Rel W B F H σ (ρ.set i (.o d')) := by
  obtain ⟨o, ho⟩ := own.ne
  have e : upd H p o = H := by
    funext b
    by_cases hb : b = p
    · subst hb; rw [upd_same, ho]
    · rw [upd_ne hb]
  have := r.oset (o := o) (d' := d') hs hp (by rw [e]; exact own)
  rw [e] at this
  exact this
/-- an own slot's object is changed by a call -/
theorem Rel.calledO {i c' : Nat} {d d' : D} {p : Addr} (r : Rel W B F H σ ρ) (hs : ρ.sl[i]? = some (.o d)) (hp : σ[i]? = some (some (.ref p))) (own : OwnAt W F' H' p d') (fp' : F' p = none)
    (k : Kept F H F' H' W.pw [p]) (w : WellOk W (bs0 F H) F' H' c') : Rel W B F' H' σ ((ρ.set i (.o d')).cnt c') := by
  have hi : i < ρ.sl.length := (List.getElem?_eq_some_iff.mp hs).1
  obtain ⟨p', e, fp, h0, hw, ow⟩ := r.sl i _ hs
  rw [hp] at e; cases e
  obtain ⟨o', ho'⟩ := own.ne
  -- the slot is emptied first
  have ru : Rel W B F H σ (ρ.set i .un) := by
    have at_ : ∀ {m : Nat} {z : D}, (ρ.set i .un).sl[m]? = some (.o z) → i ≠ m ∧ ρ.sl[m]? = some (.o z) := fun {m z} t => by
      have t : (ρ.sl.set i .un)[m]? = some (.o z) := t
      by_cases e : i = m
      · subst e
        rw [List.getElem?_set_self hi] at t; cases t
      · rw [List.getElem?_set_ne e] at t; exact ⟨e, t⟩
    refine ⟨r.ex, by show σ.length = (ρ.sl.set i _).length; rw [List.length_set]; exact r.len, fun j s hj => ?_, fun j k x y q hj hk h1 h2 => r.inj j k x y q (at_ hj).2 (at_ hk).2 h1 h2, r.well, r.keep, r.new, r.f0, r.ioH, r.hid, fun q hq j x hj h1 => r.hap q hq j x (at_ hj).2 h1, r.hnd⟩
    have t : (ρ.sl.set i .un)[j]? = some s := hj
    by_cases e : i = j
    · subst e
      rw [List.getElem?_set_self hi] at t; cases t; trivial
    · rw [List.getElem?_set_ne e] at t; exact r.sl j s t
  have ap : ∀ (j : Nat) (e : D), (ρ.set i .un).sl[j]? = some (.o e) → σ[j]? ≠ some (some (.ref p)) := fun j e h z => by
    have t : (ρ.sl.set i .un)[j]? = some (.o e) := h
    by_cases hij : i = j
    · subst hij
      rw [List.getElem?_set_self hi] at t; cases t
    · rw [List.getElem?_set_ne hij] at t
      exact hij (r.inj i j d e p hs t hp z)
  have nh : ∀ q ∈ B.hid, q.1 ≠ p := fun q hq z => r.hap q hq i d hs (by rw [z]; exact hp)
  have r3 := ru.calledI (c' := c') h0 ap nh own.nt k w
  -- and filled again
  have e : ∀ j, ((ρ.set i (.o d')).cnt c').sl[j]? = if i = j then some (.o d') else ((ρ.set i .un).cnt c').sl[j]? := fun j => by
    show (ρ.sl.set i (.o d'))[j]? = if i = j then some (.o d') else (ρ.sl.set i .un)[j]?
    by_cases hij : i = j
    · subst hij; rw [if_pos rfl, List.getElem?_set_self hi]
    · rw [if_neg hij, List.getElem?_set_ne hij, List.getElem?_set_ne hij]
  refine ⟨r3.ex, by show σ.length = (ρ.sl.set i _).length; rw [List.length_set]; exact r.len, fun j s hj => ?_, fun j k x y q hj hk h1 h2 => ?_, r3.well, r3.keep, r3.new, r3.f0, r3.ioH, r3.hid, fun q hq j x hj h1 => ?_, r3.hnd⟩
  · rw [e] at hj
    by_cases hij : i = j
    · subst hij
      rw [if_pos rfl] at hj
      cases hj
      exact ⟨p, hp, fp', h0, hw, own⟩
    · rw [if_neg hij] at hj; exact r3.sl j s hj
  · rw [e] at hj hk
    by_cases h3 : i = j <;> by_cases h4 : i = k
    · rw [← h3, ← h4]
    · rw [if_neg h4] at hk
      subst h3
      rw [hp] at h1; cases h1
      exact absurd h2 (ap k y hk)
    · rw [if_neg h3] at hj
      subst h4
      rw [hp] at h2; cases h2
      exact absurd h1 (ap j x hj)
    · rw [if_neg h3] at hj
      rw [if_neg h4] at hk
      exact r3.inj j k x y q hj hk h1 h2
  · rw [e] at hj
    by_cases hij : i = j
    · subst hij
      rw [hp] at h1; cases h1
      exact nh q hq rfl
    · rw [if_neg hij] at hj; exact r3.hap q hq j x hj h1
theorem rsi_sup {G : GI} {sp : Sp} {Dc f2 : Addr} {ta : TA} {a : DA} {E : XK} {okc : Str → Bool} (hsp : ∀ vs H Q E, spI W.K W.cls G vs H Q E → sp vs H Q E) (ra : RA W B ta a)
    (hok : ∀ c C, W.cls c = some C → okc c = true → PySem.W.mroIn W.K C (.ref Dc) = some true ∧ PySem.W.ks_superIn W.K C Dc "__init__" = some (some (.ref f2))) : RSI W B (tSup W.K Dc f2 sp E ta) (dSup okc G a) := by
  intro σ H F ρ D DD rl h k
  unfold dSup at h
  split at h
  · rename_i c0 ns0 ds0 g0
    obtain ⟨p, e2, e3, C, dx, gs, hx, hc, hn, hd⟩ := rl.own g0
    obtain ⟨hc0, h⟩ := h
    obtain ⟨m1, m2⟩ := hok c0 C hc hc0
    refine ⟨p, C, dx, gs, e3, hx, m1, m2, ?_⟩
    refine ra σ H F ρ _ _ rl h fun vs H1 F1 ρ1 es r1 s1 d1 h1 => ?_
    split at h1
    · rename_i c g1
      obtain ⟨p1, e4, e5, C1, dx1, gs1, hx1, hc1, hn1, hd1⟩ := r1.own g1
      have ep : p = p1 := by rw [e3] at e5; cases e5; rfl
      subst ep
      have eg : gs1 = [] := List.map_eq_nil_iff.mp hn1
      subst eg
      obtain ⟨p2, e6, fp, h0, hw, _⟩ := r1.sl 0 _ e4
      rw [e5] at e6; cases e6
      refine hsp _ _ _ _ ⟨F1, vs, es, ρ1.c, c, C1, dx1, p, W.pw, _, rfl, r1.ex, fp, hw, hx1, hc1, d1, r1.well.base (fun p hp z => nomatch z), h1, fun H' F' ns ds c' kp fx own w q => ?_⟩
      exact k H' F' _ (r1.calledO e4 e5 own fx kp w) (s1.trans kp.ff) q
    · exact h1.elim
  · exact h.elim
/-- def __init__(self, *parts) -/
theorem star_of {K : PySem.W.Frag} {cls : Str → Option Addr} {G : GI} {vs : List V} {Q : VK} {E : XK} (h : spI K cls (fun cn ds c QD => ds.length ≤ sizeLine ∧ G cn [.tup ds] c QD) vs H Q E) :
    ∃ ws rest, vs = ws ++ rest ∧ ws.length = 1 ∧ rest.length ≤ sizeLine ∧ ∀ p, H p = none → spI K cls G (ws ++ [V.ref p]) (upd H p (.tup rest)) Q E := by
  obtain ⟨F, us, ds, c, cn, C, dx, p, pw, QD, rfl, ex, fp, hw, hp, hc, hd, w, ⟨hl, g⟩, k⟩ := h
  refine ⟨[.ref p], us, rfl, rfl, by rw [← hd.length]; exact hl, fun q hq => ?_⟩
  have st := Stp.one (o := .tup us) ex hq
  have hpq : p ≠ q := fun z => by rw [← z, hp] at hq; cases hq
  have w2 : WellOk ⟨K, cls, pw⟩ (bs0 (upd F q (.tup us)) (upd H q (.tup us))) (upd F q (.tup us)) (upd H q (.tup us)) c := (w.mono st.ff fun a ha => by
    have hna : a ≠ q := fun z => w.hp (p := a) ha (by rw [z]; exact hq)
    exact ⟨by rw [upd_ne hna]; exact w.fp ha, by rw [upd_ne hna]⟩).base fun p hp z => nomatch z
  refine ⟨upd F q (.tup us), [.ref q], [.tup ds], c, cn, C, dx, p, pw, QD, rfl, st.fh, by rw [upd_ne hpq]; exact fp, hw, by rw [upd_ne hpq]; exact hp, hc, .cons ⟨q, us, rfl, upd_same, hd.mono st.ff⟩ rfl, w2, g, fun H' F' ns es c' kp fx own w' q' => ?_⟩
  refine k H' F' ns es c' ⟨st.ff.trans kp.ff, kp.fh, fun a o h1 h2 h3 => kp.hh a o (st.hh _ _ h1) h2 h3, fun a h1 h2 => kp.new a ?_ (st.new a h1 h2)⟩ fx own (w'.base fun p hp z => nomatch z) q'
  exact nt_eq h1 fun o e => st.hh _ _ e
end
end DL

-- part DX3
set_option maxHeartbeats 4000000
/-! == and != by an own __eq__; bool by an own __bool__ -/
namespace DL
open PySem PySem.Spec PyProof.Rows L2
section
variable {M : Model} {prog : Program} {w : World} {A : Around} {E : Value → Shared → Prop} {s : Shared} {K : PySem.W.Frag} {x C f L : Addr} {ox : Obj} {od : Option Obj} {b tb : Value} {h₀ : Heap} {m : Str → Option Value}
open PySem.W in
theorem ifBound_objNe {args : List Value} {Q : Option Value → Shared → Prop} (X : K.In s.heap) (I : PySem.W.InstAt s.heap x ox C od) (hs : PySem.W.findIn K (.ref C) "__ne__" = some (some (.builtin "object.__ne__")))
    (h : wpAny M A (call (.builtin "object.__ne__") (.ref x :: args)) (fun v => Q (some v)) E s) : wpAny M A (callSpecialIfBound? (.ref x) "__ne__" args) Q E s := by
  simp only [callSpecialIfBound?, bindSpecialIfBound?]
  refine wpAny_holding (wpAny_bind (wpAny_bind (wpAny_bind (I.type.here ((PySem.W.looks_findIn X hs).here ?_)))))
  refine wpAny_bind (wpAny_askSetting (wpAny_ite ?_))
  have fin : wpAny M A (call (.builtin "object.__ne__") ([.ref x] ++ args) >>= fun v => pure (some v)) Q E s := wpAny_bind (wpAny_mono h (fun v s' h' => wpAny_pure h') fun _ _ h' => h')
  split
  · exact wpAny_bind (wpAny_of_eq (F.cmp_object.ne.bind _) (wpAny_pure (by exact fin)))
  · exact wpAny_tryCatch (wpAny_bind (wpAny_of_eq (F.cmp_object.ne.bind _) (wpAny_pure (by exact fin))))
theorem entry_objNe {Q : Fin → Shared → Prop} (X : K.In s.heap) (I : PySem.W.InstAt s.heap x ox C od) (hs : PySem.W.findIn K (.ref C) "__eq__" = some (some (.ref f))) (hf : PySem.W.isFn K (.ref f) = true) (hu : A.units < cLine)
    (hcall : wpAny (model prog w) A (call (.ref f) [.ref x, b]) (fun v s' => ∃ c, v = .bool c ∧ Q (.done (.ret (.bool (!c)))) s') E s) : wpAny (model prog w) A (Builtin.«object.__ne__» ⟨[.ref x, b], []⟩) Q E s := by
  obtain ⟨h, g, d, t, os⟩ := s
  unfold Builtin.«object.__ne__»
  repeat (first
    | with_reducible refine wpAny_cRoomFor hu ?_
    | (refine wpAny_bind (m := callSpecialIfBound? (.ref x) (Str.ofString "__eq__") [b])
        (PySem.W.ifBound_K X I hs hf (wpAny_mono hcall (fun r s' hr => by
          obtain ⟨b, rfl, hq⟩ := hr
          repeat (first | exact hq | exact wpAny_pure hq | exact wpAny_truthy_bool hq | (refine wpAny_bind (m := truthy (.bool _)) (wpAny_truthy_bool ?_)) | wp_step)) fun _ _ e => e)))
    | wp_step)
theorem ne_K {Q : Value → Shared → Prop} (hu : A.units + 1 < cLine) (X : K.In s.heap) (I : PySem.W.InstAt s.heap x ox C od) (hb : PySem.W.Looks (model prog w) s.heap (typeOf b) tb) (hn : PySem.W.notFirst K C tb = true)
    (hne : PySem.W.findIn K (.ref C) "__ne__" = some (some (.builtin "object.__ne__"))) (hm : PySem.W.mroIn K C (.type "object") = some true) (hs : PySem.W.findIn K (.ref C) "__eq__" = some (some (.ref f))) (hf : PySem.W.isFn K (.ref f) = true)
    (h : wpAny (model prog w) A.in1 (call (.ref f) [.ref x, b]) (fun v s' => ∃ c, v = .bool c ∧ Q (.bool (!c)) s') E s) : wpAny (model prog w) A (richCompare .NotEq (.ref x) b) Q E s := by
  have one : wpAny (model prog w) A (tryCompare (.ref x) "__ne__" b) (fun r s' => ∃ v, r = some v ∧ Q v s') E s := by
    unfold tryCompare
    refine wpAny_bind (ifBound_objNe X I hne (wpAny_call (codeAny_call_builtin F.cmp_object.ne.plain F.cmpEntry_ne (PySem.W.check_slot F.cmpKind_ne F.cmpSplit_ne (I.type.andThen (PySem.W.looks_mroIn X hm)) (F.cmpArgs_ne _ _)
      (entry_objNe X I hs hf hu (wpAny_mono h (fun v s' hv => ?_) fun _ _ e => e))))))
    obtain ⟨c, rfl, hq⟩ := hv
    first | exact ⟨c, rfl, wpAny_pure ⟨_, rfl, hq⟩⟩ | exact ⟨c, rfl, wpAny_pure (wpAny_pure ⟨_, rfl, hq⟩)⟩
  unfold richCompare
  simp only [oneThing_ref]
  refine wpAny_holding (wpAny_bind (wpAny_cRoomFor (Nat.lt_of_succ_lt hu) ?_))
  refine wpAny_bind (I.type.here (wpAny_bind (hb.here ?_)))
  rw [cmpInfo_NotEq]
  dsimp only
  split
  · rename_i q
    have e : PySem.W.subIn K tb (.ref C) = some false := by
      rcases Bool.or_eq_true_iff.mp hn with e | e
      · rw [beq_iff_eq.mp e] at q; simp at q
      · exact beq_iff_eq.mp e
    refine wpAny_bind ((PySem.W.looks_subIn X e).here ?_)
    simp only [Bool.false_eq_true, if_false]
    refine wpAny_bind (wpAny_mono one (fun r s' z => ?_) fun _ _ e => e)
    obtain ⟨v, rfl, hq⟩ := z
    exact wpAny_pure hq
  · refine wpAny_bind (wpAny_pure ?_)
    simp only [Bool.false_eq_true, if_false]
    refine wpAny_bind (wpAny_mono one (fun r s' z => ?_) fun _ _ e => e)
    obtain ⟨v, rfl, hq⟩ := z
    exact wpAny_pure hq
end
/-- x == y, x an instance of an own class whose __eq__ is at f -/
def rEqI (K : PySem.W.Frag) (f : Addr) (sp : Sp) (E : XK) : R2 := fun x y H Q => ∃ a C dx fs tb, x = .ref a ∧ H a = some (.ins C dx fs) ∧ TyX K H y tb ∧ PySem.W.notFirst K C tb = true ∧ PySem.W.findIn K (.ref C) "__eq__" = some (some (.ref f)) ∧ sp [x, y] H Q E
def rNeI (K : PySem.W.Frag) (f : Addr) (sp : Sp) (E : XK) : R2 := fun x y H Q => ∃ a C dx fs tb, x = .ref a ∧ H a = some (.ins C dx fs) ∧ TyX K H y tb ∧ PySem.W.notFirst K C tb = true ∧ PySem.W.findIn K (.ref C) "__eq__" = some (some (.ref f)) ∧
  PySem.W.findIn K (.ref C) "__ne__" = some (some (.builtin "object.__ne__")) ∧ PySem.W.mroIn K C (.type "object") = some true ∧ sp [x, y] H (fun v H' => ∃ b, v = .bl b ∧ Q (.bl (!b)) H') E
section
variable {X : Cx} {CX : CXT} {n : Nat} {f : Addr} {sp : Sp} {E : XK}
theorem op_eqI (hf : PySem.W.isFn X.K (.ref f) = true) (F : FnR X.prog X.w X.K X.mg X.base CX n f sp) (hr : Room n X.A) (hx : Passes CX X E) : OpR X (compareOp .Eq) (rEqI X.K f sp E) := by
  intro pins s σ H x y v u Q I rx ry h
  obtain ⟨a, C, dx, fs, tb, rfl, ha, ty, hn, hs, q⟩ := h
  cases (show v = Value.ref a from rx)
  obtain ⟨mA, O, _⟩ := ins_get I.hok ha
  obtain ⟨oda, J, _⟩ := O.look
  obtain ⟨P, kx, hP, _⟩ := kit_of I ry ty
  obtain ⟨m, hF⟩ := I.fr
  refine PySem.W.cmp_K (op := .Eq) (tb := tb) hr.units0 hF I.ok.mod.kin J (kx.ty _ _ I.kIn hP) hn hs hf ?_
  refine wpAny_mono (wpAny_call (run_fnR (us := [.ref a, u]) (vs := [.ref a, y]) F hr hx I (.cons rfl (.cons ry .nil)) q)) (fun w s' z => ?_) fun _ _ x => x
  obtain ⟨z', H', I', rz, qz⟩ := z
  exact SlX.cmpback rz ⟨z', H', I', rz, qz⟩
theorem op_neI (hf : PySem.W.isFn X.K (.ref f) = true) (F : FnR X.prog X.w X.K X.mg X.base CX n f sp) (hr : Room (n + 1) X.A) (hx : Passes CX X E) : OpR X (compareOp .NotEq) (rNeI X.K f sp E) := by
  intro pins s σ H x y v u Q I rx ry h
  obtain ⟨a, C, dx, fs, tb, rfl, ha, ty, hn, hs, hne, hm, q⟩ := h
  cases (show v = Value.ref a from rx)
  obtain ⟨mA, O, _⟩ := ins_get I.hok ha
  obtain ⟨oda, J, _⟩ := O.look
  obtain ⟨P, kx, hP, _⟩ := kit_of I ry ty
  refine ne_K (tb := tb) (by have := hr.un; omega) I.kIn J (kx.ty _ _ I.kIn hP) hn hne hm hs hf ?_
  refine wpAny_call (codeAny_mono (F X.A.in1 X.stack s H [.ref a, u] [.ref a, y] _ E hr.in1 I.env0.in1 (.cons rfl (.cons ry .nil)) q) fun r s' hq => ?_)
  cases r with
  | error e => exact hx pins σ _ _ e s' I hq
  | ok fl =>
    cases fl with
    | ret u' =>
      obtain ⟨v', H', I3, rv, c, ev, q3⟩ := I.after hq
      subst ev
      exact ⟨c, rv, .bl (!c), H', I3, rfl, q3⟩
    | next => exact False.elim hq
    | brk => exact False.elim hq
    | cont => exact False.elim hq
end
/-! ### bool(x) -/
theorem meets_boolI {prog : Program} {w : World} (x : Addr) : PySem.MeetsIn prog w (Builtin.«bool.__new__» ⟨[.type "bool", .ref x], []⟩) (fun A R s => wpAny (model prog w) A.in1 (truthy (.ref x)) (fun b s' => R (.ok (.ret (.bool b))) s') (fun e s' => R (.error e) s') s) := fun A R s hs => by
  obtain ⟨hp, g, d, tk, os⟩ := s
  have f1 := F.conv_sub_bool
  have hs' : wpAny (model prog w) A.in1 (truthy (.ref x)) (fun b s' => R (.ok (.ret (.bool b))) s') (fun e s' => R (.error e) s') ⟨hp, g, d, tk, os⟩ := hs
  unfold Builtin.«bool.__new__»
  repeat (any_goals (first | assumption | (with_reducible refine wpAny_mono hs' (fun b s2 h2 => ?_) fun _ _ z => z) | wp_step))
/-- bool(x), x an instance of an own class with its own __bool__ -/
def rBoolI (K : PySem.W.Frag) (G : Addr → Prop) (sp : Addr → Sp) (E : XK) : List V → Hp → VK → Prop := fun xs H Q => ∃ a C dx fs g, xs = [.ref a] ∧ H a = some (.ins C dx fs) ∧ PySem.W.findIn K (.ref C) "__bool__" = some (some (.ref g)) ∧ G g ∧ sp g [.ref a] H (fun v H' => ∃ b, v = .bl b ∧ Q (.bl b) H') E
section
variable {X : Cx} {CX : CXT} {n : Nat} {G : Addr → Prop} {sp : Addr → Sp} {E : XK}
theorem call_boolI (hf : ∀ g, G g → PySem.W.isFn X.K (.ref g) = true) (Fb : ∀ g, G g → FnR X.prog X.w X.K X.mg X.base CX n g (sp g)) (hr : Room (n + 2) X.A) (hx : Passes CX X E) : CallR X (.type "bool") (rBoolI X.K G sp E) := by
  intro pins s σ H xs us Q I r h
  obtain ⟨a, C, dx, fs, g, rfl, ha, hs, hg, q⟩ := h
  obtain rfl := Vals.ref1 r
  obtain ⟨mA, O, _⟩ := ins_get I.hok ha
  obtain ⟨oda, J, _⟩ := O.look
  obtain ⟨m, hF⟩ := I.fr
  refine callType_newIn F.called_bool F.newNe_bool (F.typeCall_bool_1 _) (F.newCall_bool_1 _) (fun obj => F.args_object_init_2 obj _) F.entry_bool_new (meets_boolI a) ?_
  show wpAny (model X.prog X.w) X.A.in1.in1 (truthy (.ref a)) _ _ s
  refine PySem.W.truthy_K hF I.ok.mod.kin J hs (hf g hg) ?_
  refine wpAny_call (codeAny_mono (Fb g hg X.A.in1.in1 X.stack s H [.ref a] [.ref a] _ E hr.in1.in1 I.env0.in1.in1 (.cons rfl .nil) q) fun r s' hq => ?_)
  cases r with
  | error e => exact hx pins σ _ _ e s' I hq
  | ok fl =>
    cases fl with
    | ret u' =>
      obtain ⟨v', H', I3, rv, c, ev, q3⟩ := I.after hq
      subst ev
      obtain rfl : u' = Value.bool c := rv
      exact ⟨rfl, .bl c, H', I3, rfl, q3⟩
    | next => exact False.elim hq
    | brk => exact False.elim hq
    | cont => exact False.elim hq
end
end DL

-- part DL8
set_option maxHeartbeats 4000000
/-! == and != and bool of instances, isinstance of an own class, over trees -/
namespace DL
open PySem L2
structure InsT (K : PySem.W.Frag) (cls : Str → Option Addr) : Prop where
  cl : ∀ c C, cls c = some C → Cls K C
  ha : ∀ c C, cls c = some C → PySem.W.findIn K (.ref C) "__class__" = some (some (.builtin "object.__class__"))
  hn : PySem.W.specialIn K (.builtin "object.__class__") "__get__" = some (some (.builtin "getset_descriptor.__get__"))
  ht : PySem.W.takesIn K (.builtin "object.__class__") = some true
  hm : ∀ c C, cls c = some C → PySem.W.mroIn K C (.type "object") = some true
section
variable {W : Wd} {B : Bs} {F F' H H' : Hp} {σ : St} {ρ : Ev}
theorem tyx_obj (T : InsT W.K W.cls) (e : Same F H) {c : Str} {ns : List Str} {ds : List D} {v : V} {t : Value} (h : Den W F (.obj c ns ds) v) (ht : tyD W (.obj c ns ds) = some t) : TyX W.K H v t := by
  obtain ⟨a, C, dx, gs, ev, hf, hc, hn, hd⟩ := h
  have ht : (W.cls c).map Value.ref = some t := ht
  rw [hc] at ht
  cases ht
  rw [ev]
  exact .base (.ins (e _ _ hf) (T.cl _ _ hc) (T.ha _ _ hc) T.hn T.ht (T.hm _ _ hc))
/-- isinstance(x, an own class): of instances and tuples -/
def isSubD (isSub : Str → Option Bool) : D → Option Bool
  | .obj c _ _ => isSub c
  | .tup _ => some false
  | _ => none
theorem kok_own (T : InsT W.K W.cls) {C0 : Addr} {isSub : Str → Option Bool} (h1 : ∀ c C b, W.cls c = some C → isSub c = some b → PySem.W.kitOne W.K (.ref C) (.ref C0) = some b) (hcl : ∀ c b, isSub c = some b → ∃ C, W.cls c = some C)
    (h2 : PySem.W.kitOne W.K (.type "tuple") (.ref C0) = some false) : KOk W (isSubD isSub) (.ref C0) := fun d b h => by
  cases d with
  | obj c ns ds =>
    obtain ⟨C, hC⟩ := hcl c b h
    exact ⟨.ref C, by show (W.cls c).map Value.ref = _; rw [hC]; rfl, h1 c C b hC h, fun F H v e dv => tyx_obj T e dv (by show (W.cls c).map Value.ref = _; rw [hC]; rfl)⟩
  | tup xs =>
    cases h
    exact ⟨_, rfl, h2, fun F H v e dv => tyx_of e dv rfl⟩
  | _ => cases h
def isOT : D → Bool
  | .obj _ _ _ => true
  | .tup _ => true
  | _ => false
/-- what the written part tells of comparisons -/
structure EqT (K : PySem.W.Frag) (cls : Str → Option Addr) (f : Addr) : Prop where
  ins : InsT K cls
  eq : ∀ c C, cls c = some C → PySem.W.findIn K (.ref C) "__eq__" = some (some (.ref f))
  ne : ∀ c C, cls c = some C → PySem.W.findIn K (.ref C) "__ne__" = some (some (.builtin "object.__ne__"))
  nf : ∀ c C c' C', cls c = some C → cls c' = some C' → PySem.W.notFirst K C (.ref C') = true
  nt : ∀ c C, cls c = some C → PySem.W.notFirst K C (.type "tuple") = true
theorem EqT.ty (T : EqT W.K W.cls f) (e : Same F H) {c : Str} {C : Addr} {d : D} {v : V} (hc : W.cls c = some C) (ho : isOT d = true) (h : Den W F d v) : ∃ t, TyX W.K H v t ∧ PySem.W.notFirst W.K C t = true := by
  cases d with
  | obj c' ns ds =>
    have h' := h
    obtain ⟨a, C', dx, gs, ev, hf, hc', hn, hd⟩ := h
    exact ⟨.ref C', tyx_obj T.ins e h' (by show (W.cls c').map Value.ref = _; rw [hc']; rfl), T.nf _ _ _ _ hc hc'⟩
  | tup xs => exact ⟨_, tyx_of e h rfl, T.nt _ _ hc⟩
  | _ => cases ho
def gEqO (G : GF) : D → D → Ev → (Ev → D → Prop) → Prop := fun x y ρ Q => match x with
  | .obj c ns ds => isOT y = true ∧ G [.obj c ns ds, y] ρ.c fun d c' => Q (ρ.cnt c') d
  | _ => False
def gNeO (G : GF) : D → D → Ev → (Ev → D → Prop) → Prop := fun x y ρ Q => match x with
  | .obj c ns ds => isOT y = true ∧ G [.obj c ns ds, y] ρ.c fun d c' => match d with | .bl b => Q (ρ.cnt c') (.bl (!b)) | _ => False
  | _ => False
theorem re_eqI {f : Addr} {G : GF} {ta tb : TE} {a b : DE} {E : XK} (T : EqT W.K W.cls f) (ra : RE W B ta a) (rb : RE W B tb b) : RE W B (tOp (rEqI W.K f (spD W.K W.cls G) E) ta tb) (fun ρ Q => a ρ fun ρ1 x => b ρ1 fun ρ2 y => gEqO G x y ρ2 Q) :=
  re_bin ra rb fun σ H F ρ x y dx dy Q R r d1 d2 h k => by
    unfold gEqO at h
    split at h
    · rename_i c ns ds
      obtain ⟨ho, h⟩ := h
      have d1' := d1
      obtain ⟨p, C, dxx, gs, ev, hf, hc, hn, hd⟩ := d1
      obtain ⟨t, ht, hnf⟩ := T.ty r.ex hc ho d2
      refine ⟨p, C, dxx, gs, t, ev, r.ex _ _ hf, ht, hnf, T.eq _ _ hc, ?_⟩
      exact r.spD (.cons d1' (.cons d2 DenL.nil)) h fun v H' F' ρ' d r' s' dv q => k v H' F' ρ' d r' s' dv q
    · exact h.elim
theorem re_neI {f : Addr} {G : GF} {ta tb : TE} {a b : DE} {E : XK} (T : EqT W.K W.cls f) (ra : RE W B ta a) (rb : RE W B tb b) : RE W B (tOp (rNeI W.K f (spD W.K W.cls G) E) ta tb) (fun ρ Q => a ρ fun ρ1 x => b ρ1 fun ρ2 y => gNeO G x y ρ2 Q) :=
  re_bin ra rb fun σ H F ρ x y dx dy Q R r d1 d2 h k => by
    unfold gNeO at h
    split at h
    · rename_i c ns ds
      obtain ⟨ho, h⟩ := h
      have d1' := d1
      obtain ⟨p, C, dxx, gs, ev, hf, hc, hn, hd⟩ := d1
      obtain ⟨t, ht, hnf⟩ := T.ty r.ex hc ho d2
      refine ⟨p, C, dxx, gs, t, ev, r.ex _ _ hf, ht, hnf, T.eq _ _ hc, T.ne _ _ hc, T.ins.hm _ _ hc, ?_⟩
      refine r.spD (Q := fun ρ' d => match d with | .bl b => Q ρ' (.bl (!b)) | _ => False) (.cons d1' (.cons d2 DenL.nil)) h fun v H' F' ρ' d r' s' dv q => ?_
      split at q
      · rename_i b
        have ev : v = .bl b := dv
        exact ⟨b, ev, k (.bl (!b)) H' F' ρ' (.bl (!b)) r' s' rfl q⟩
      · exact q.elim
    · exact h.elim
/-- bool(x) -/
def gBoolO (bOf : Str → Option Bool) : List D → Ev → (Ev → D → Prop) → Prop := fun ds ρ Q => match ds with
  | [.obj c _ _] => match bOf c with | some b => Q ρ (.bl b) | none => False
  | _ => False
def gB (b : Bool) : GF := fun ds c Q => ∃ x, ds = [x] ∧ Q (.bl b) c
theorem re_boolI {G : Addr → Prop} {bv : Addr → Bool} {bOf : Str → Option Bool} {ta : TA} {a : DA} {E : XK} (hb : ∀ c C b, W.cls c = some C → bOf c = some b → ∃ g, PySem.W.findIn W.K (.ref C) "__bool__" = some (some (.ref g)) ∧ G g ∧ bv g = b) (ra : RA W B ta a) :
    RE W B (tCB (rBoolI W.K G (fun g => spD W.K W.cls (gB (bv g))) E) ta) (fun ρ Q => a ρ fun ρ1 ds => gBoolO bOf ds ρ1 Q) :=
  re_cb ra fun σ H F ρ vs ds Q R r d h k => by
    unfold gBoolO at h
    split at h
    · rename_i c ns ds
      obtain ⟨x, rfl, d1⟩ := den1 d
      have d1' := d1
      split at h
      · rename_i b eb
        obtain ⟨p, C, dxx, gs, ev, hf, hc, hn, hd⟩ := d1
        obtain ⟨g, hg, gg, bg⟩ := hb c C b hc eb
        subst ev
        refine ⟨p, C, dxx, gs, g, rfl, r.ex _ _ hf, hg, gg, ?_⟩
        refine r.spD (G := gB (bv g)) (Q := fun ρ' d => d = .bl b ∧ Q ρ' (.bl b)) (.cons d1' DenL.nil) ⟨_, rfl, by rw [bg]; exact ⟨rfl, h⟩⟩ fun v H' F' ρ' d r' s' dv q => ?_
        obtain ⟨q1, q2⟩ := q
        subst q1
        have ev : v = .bl b := dv
        exact ⟨b, ev, k (.bl b) H' F' ρ' (.bl b) r' s' rfl q2⟩
      · exact h.elim
    · exact h.elim
/-- x, y, z = a, b, c -/
def dPar3 (i j l : Nat) (t : DA) : DS := fun DD ρ => t ρ fun ρ1 ds => match ds with | [x, y, z] => DD.nx (((ρ1.set i (.v x)).set j (.v y)).set l (.v z)) | _ => False
theorem rs_par3 {i j l : Nat} {ta : TA} {t : DA} (ra : RA W B ta t) : RS W B (tPar3 i j l ta) (dPar3 i j l t) := by
  intro σ H F ρ D DD rl h f
  refine ra σ H F ρ _ _ rl h fun vs H1 F1 ρ1 ds r1 s1 d1 h1 => ?_
  split at h1
  · rename_i x y z
    obtain ⟨u, r0, e0, du, hr⟩ := d1
    obtain ⟨v, w', e1, dv, dw⟩ := den2 hr
    subst e1 e0
    exact ⟨u, v, w', rfl, f.nx _ _ F1 _ (((r1.setv du).setv dv).setv dw) s1 h1⟩
  · exact h1.elim
end
end DL

-- part DL9
set_option maxHeartbeats 4000000
/-! sums, all, any, greatest, least, sorted, joined, stars, slices of tuples, over trees -/
namespace DL
open PySem PySem.Spec PyProof.Rows L2
/-- list + list, whatever lists -/
def rCatS (K : PySem.W.Frag) : R2 := fun x y H Q => ∃ l b xs zs, x = .ref l ∧ y = .ref b ∧ SqL K H l xs ∧ SqL K H b zs ∧ xs.length + zs.length ≤ sizeLine ∧ ∀ p, H p = none → Q (.ref p) (upd H p (.lst (xs ++ zs)))
theorem op_catS {X : Cx} : OpR X (binaryOp .Add) (rCatS X.K) := by
  intro pins s σ H x y v u Q I rx ry h
  obtain ⟨l, b, xs, zs, rfl, rfl, hH, hB, hz, q⟩ := h
  cases rx
  cases ry
  obtain ⟨its, r, pl, z⟩ := I.list hH
  obtain ⟨its2, r2, pl2, z2⟩ := I.list hB
  obtain ⟨⟨c1, d1, da1, s1⟩, n1, g1, hc1, _, hd1⟩ := pl
  obtain ⟨⟨c2, d2, da2, s2⟩, n2, g2, hc2, _, hd2⟩ := pl2
  simp only at hc1 hd1 hc2 hd2
  subst hc1 hd1 hc2 hd2
  have hl := r.length
  have hl2 := r2.length
  refine concat_meets ⟨_, g1, rfl⟩ ⟨_, g2, rfl⟩ noFill_list_add seq_list_add PySem.F.slot_list_add PySem.F.entry_list_add (PySem.F.args_list_add_2 _ _) (list_addW l b its.toArray its2.toArray n1 n2 d1 d2 s1 s2 (by rw [List.size_toArray, List.size_toArray]; omega)) ⟨g1, g2, ?_⟩
  have ea : its.toArray ++ its2.toArray = (its ++ its2).toArray := by simp
  rw [ea]
  exact ⟨.ref _, _, I.lnew (t' := s.toks) (r.append r2) (by rw [List.length_append]; omega), rfl, q _ I.fresh⟩
section
variable {W : Wd} {B : Bs} {F F' H H' : Hp} {σ : L2.St} {ρ : Ev}
def gCat : D → D → Ev → (Ev → D → Prop) → Prop := fun x y ρ Q => match x, y with
  | .lst xs, .lst ys => xs.length + ys.length ≤ sizeLine ∧ Q ρ (.lst (xs ++ ys))
  | _, _ => False
theorem re_catS {ta tb : TE} {a b : DE} (ra : RE W B ta a) (rb : RE W B tb b) : RE W B (tOp (rCatS W.K) ta tb) (fun ρ Q => a ρ fun ρ1 x => b ρ1 fun ρ2 y => gCat x y ρ2 Q) :=
  re_bin ra rb fun σ H F ρ x y dx dy Q R r d1 d2 h k => by
    unfold gCat at h
    split at h
    · obtain ⟨p, xs, e1, hs1, hd1⟩ := d1
      obtain ⟨q, ys, e2, hs2, hd2⟩ := d2
      refine ⟨p, q, xs, ys, e1, e2, same_sqL r.ex hs1, same_sqL r.ex hs2, by rw [← hd1.length, ← hd2.length]; exact h.1, fun l hl => ?_⟩
      have st := Stp.one (o := .lst (xs ++ ys)) r.ex hl
      exact k _ _ _ ρ (.lst _) (r.stp st) st.ff ⟨l, _, rfl, .inl (.inl upd_same), (hd1.append hd2).mono st.ff⟩ h.2
    · exact h.elim
def gCatT : D → D → Ev → (Ev → D → Prop) → Prop := fun x y ρ Q => match x, y with
  | .tup xs, .tup ys => xs ≠ [] ∧ xs.length + ys.length ≤ sizeLine ∧ Q ρ (.tup (xs ++ ys))
  | _, _ => False
theorem re_catT {ta tb : TE} {a b : DE} (ra : RE W B ta a) (rb : RE W B tb b) : RE W B (tOp (rCatT W.K) ta tb) (fun ρ Q => a ρ fun ρ1 x => b ρ1 fun ρ2 y => gCatT x y ρ2 Q) :=
  re_bin ra rb fun σ H F ρ x y dx dy Q R r d1 d2 h k => by
    unfold gCatT at h
    split at h
    · obtain ⟨p, xs, e1, hs1, hd1⟩ := d1
      obtain ⟨q, ys, e2, hs2, hd2⟩ := d2
      have l1 := hd1.length
      have l2 := hd2.length
      refine ⟨p, q, xs, ys, e1, e2, sqT_of r.ex hs1, sqT_of r.ex hs2, fun z => h.1 (List.length_eq_zero_iff.mp (by rw [l1, z]; rfl)), by rw [← l1, ← l2]; exact h.2.1, fun z => ?_, fun _ l hl => ?_⟩
      · subst z
        have e0 := List.length_eq_zero_iff.mp (l2.trans rfl)
        subst e0
        exact k _ H F ρ (.tup _) r (Same.refl _) ⟨p, xs, rfl, hs1, by rw [List.append_nil]; exact hd1⟩ h.2.2
      · have st := Stp.one (o := .tup (xs ++ ys)) r.ex hl
        exact k _ _ _ ρ (.tup _) (r.stp st) st.ff ⟨l, _, rfl, upd_same, (hd1.append hd2).mono st.ff⟩ h.2.2
    · exact h.elim
/-- sum of a list of ints -/
theorem re_sum {ta : TA} {a : DA} (ra : RA W B ta a) : RE W B (tCB (rSum W.K) ta) (fun ρ Q => a ρ fun ρ1 ds => ∃ ns : List Int, ds = [.lst (ns.map .int)] ∧ Q ρ1 (.int ns.sum)) :=
  re_cb ra (g := fun ds ρ1 Q => ∃ ns : List Int, ds = [.lst (ns.map .int)] ∧ Q ρ1 (.int ns.sum)) fun σ H F ρ vs ds Q R r d h k => by
    obtain ⟨ns, rfl, h⟩ := h
    obtain ⟨x, rfl, p, xs, rfl, hs, hd⟩ := den1 d
    rw [denL_ints_inv hd] at hs
    exact ⟨p, ns, rfl, same_sqL r.ex hs, k _ H F ρ (.int _) r (Same.refl _) rfl h⟩
theorem denL_bls_inv {W : Wd} {F : Hp} : ∀ {ns : List Bool} {xs : List V}, DenL W F (ns.map D.bl) xs → xs = ns.map V.bl
  | [], _, h => h
  | n :: ns, _, ⟨x, r, ev, h1, h2⟩ => by
    have h1 : x = .bl n := h1
    rw [ev, h1, denL_bls_inv h2]; rfl
theorem re_all {ta : TA} {a : DA} (ra : RA W B ta a) : RE W B (tCB (rAll W.K) ta) (fun ρ Q => a ρ fun ρ1 ds => ∃ bs : List Bool, ds = [.lst (bs.map .bl)] ∧ Q ρ1 (.bl (bs.all id))) :=
  re_cb ra (g := fun ds ρ1 Q => ∃ bs : List Bool, ds = [.lst (bs.map .bl)] ∧ Q ρ1 (.bl (bs.all id))) fun σ H F ρ vs ds Q R r d h k => by
    obtain ⟨ns, rfl, h⟩ := h
    obtain ⟨x, rfl, p, xs, rfl, hs, hd⟩ := den1 d
    rw [denL_bls_inv hd] at hs
    exact ⟨p, ns, rfl, same_sqL r.ex hs, k _ H F ρ (.bl _) r (Same.refl _) rfl h⟩
theorem re_any {ta : TA} {a : DA} (ra : RA W B ta a) : RE W B (tCB (rAny W.K) ta) (fun ρ Q => a ρ fun ρ1 ds => ∃ bs : List Bool, ds = [.lst (bs.map .bl)] ∧ Q ρ1 (.bl (bs.any id))) :=
  re_cb ra (g := fun ds ρ1 Q => ∃ bs : List Bool, ds = [.lst (bs.map .bl)] ∧ Q ρ1 (.bl (bs.any id))) fun σ H F ρ vs ds Q R r d h k => by
    obtain ⟨ns, rfl, h⟩ := h
    obtain ⟨x, rfl, p, xs, rfl, hs, hd⟩ := den1 d
    rw [denL_bls_inv hd] at hs
    exact ⟨p, ns, rfl, same_sqL r.ex hs, k _ H F ρ (.bl _) r (Same.refl _) rfl h⟩
theorem re_max {ta : TA} {a : DA} (ra : RA W B ta a) : RE W B (tCB (rMax W.K) ta) (fun ρ Q => a ρ fun ρ1 ds => ∃ ns : List Int, ds = [.lst (ns.map .int)] ∧ 0 < ns.length ∧ ∀ m, m ∈ ns → (∀ y, y ∈ ns → y ≤ m) → Q ρ1 (.int m)) :=
  re_cb ra (g := fun ds ρ1 Q => ∃ ns : List Int, ds = [.lst (ns.map .int)] ∧ 0 < ns.length ∧ ∀ m, m ∈ ns → (∀ y, y ∈ ns → y ≤ m) → Q ρ1 (.int m)) fun σ H F ρ vs ds Q R r d h k => by
    obtain ⟨ns, rfl, h0, h⟩ := h
    obtain ⟨x, rfl, p, xs, rfl, hs, hd⟩ := den1 d
    rw [denL_ints_inv hd] at hs
    exact ⟨p, ns, rfl, same_sqL r.ex hs, h0, fun m h1 h2 => k _ H F ρ (.int _) r (Same.refl _) rfl (h m h1 h2)⟩
theorem re_min {ta : TA} {a : DA} (ra : RA W B ta a) : RE W B (tCB (rMin W.K) ta) (fun ρ Q => a ρ fun ρ1 ds => ∃ ns : List Int, ds = [.lst (ns.map .int)] ∧ 0 < ns.length ∧ ∀ m, m ∈ ns → (∀ y, y ∈ ns → m ≤ y) → Q ρ1 (.int m)) :=
  re_cb ra (g := fun ds ρ1 Q => ∃ ns : List Int, ds = [.lst (ns.map .int)] ∧ 0 < ns.length ∧ ∀ m, m ∈ ns → (∀ y, y ∈ ns → m ≤ y) → Q ρ1 (.int m)) fun σ H F ρ vs ds Q R r d h k => by
    obtain ⟨ns, rfl, h0, h⟩ := h
    obtain ⟨x, rfl, p, xs, rfl, hs, hd⟩ := den1 d
    rw [denL_ints_inv hd] at hs
    exact ⟨p, ns, rfl, same_sqL r.ex hs, h0, fun m h1 h2 => k _ H F ρ (.int _) r (Same.refl _) rfl (h m h1 h2)⟩
theorem re_sortedI {ta : TA} {a : DA} (ra : RA W B ta a) : RE W B (tCB (rSorted W.K) ta) (fun ρ Q => a ρ fun ρ1 ds => ∃ ns : List Int, ds = [.lst (ns.map .int)] ∧ ns.length < 64 ∧ ∀ ms : List Int, ms.Perm ns → ms.Pairwise (· ≤ ·) → Q ρ1 (.lst (ms.map .int))) :=
  re_cb ra (g := fun ds ρ1 Q => ∃ ns : List Int, ds = [.lst (ns.map .int)] ∧ ns.length < 64 ∧ ∀ ms : List Int, ms.Perm ns → ms.Pairwise (· ≤ ·) → Q ρ1 (.lst (ms.map .int))) fun σ H F ρ vs ds Q R r d h k => by
    obtain ⟨ns, rfl, h0, h⟩ := h
    obtain ⟨x, rfl, p, xs, rfl, hs, hd⟩ := den1 d
    rw [denL_ints_inv hd] at hs
    refine ⟨p, ns, rfl, same_sqL r.ex hs, h0, fun ms q h1 h2 hq => ?_⟩
    have st := Stp.one (o := .lst (ms.map V.int)) r.ex hq
    exact k _ _ _ ρ (.lst _) (r.stp st) st.ff ⟨q, _, rfl, .inl (.inl upd_same), denL_ints ms⟩ (h ms h1 h2)
/-- *e among arguments or in a display -/
theorem ra_star {te : TE} {t : DE} {ta : TA} {a : DA} (re : RE W B te t) (ra : RA W B ta a) : RA W B (StX.tStar W.K te ta) (fun ρ Q => t ρ fun ρ1 x => match x with
    | .lst xs => a ρ1 fun ρ2 ys => Q ρ2 (xs ++ ys)
    | .tup xs => a ρ1 fun ρ2 ys => Q ρ2 (xs ++ ys)
    | _ => False) := by
  intro σ H F ρ Q R rl h k
  refine re σ H F ρ _ _ rl h fun x H1 F1 ρ1 dx r1 s1 d1 h1 => ?_
  split at h1
  · obtain ⟨p, xs, e, hs, hd⟩ := d1
    refine ⟨p, xs, e, .inr (same_sqL r1.ex hs), ?_⟩
    exact ra σ H1 F1 ρ1 _ _ r1 h1 fun vs H2 F2 ρ2 ds r2 s2 d2 h2 => k _ H2 F2 ρ2 _ r2 (s1.trans s2) ((hd.mono s2).append d2) h2
  · obtain ⟨p, xs, e, hs, hd⟩ := d1
    refine ⟨p, xs, e, .inl (sqT_of r1.ex hs), ?_⟩
    exact ra σ H1 F1 ρ1 _ _ r1 h1 fun vs H2 F2 ρ2 ds r2 s2 d2 h2 => k _ H2 F2 ρ2 _ r2 (s1.trans s2) ((hd.mono s2).append d2) h2
  · exact h1.elim
/-- a slice of a tuple, the whole of it too -/
theorem re_slT {te : TE} {tl th : TO} {t : DE} {a b : DO} (re : RE W B te t) (ra : RO W B tl a) (rb : RO W B th b) :
    RE W B (tSl (rSlA W.K) te tl th) (fun ρ Q => t ρ fun ρ1 x => a ρ1 fun ρ2 lo => b ρ2 fun ρ3 hi => match x with | .tup ds => Q ρ3 (.tup (cutD ds lo hi)) | _ => False) := by
  intro σ H F ρ Q R rl h k
  refine re σ H F ρ _ _ rl h fun x H1 F1 ρ1 dx r1 s1 d1 h1 => ?_
  refine ra σ H1 F1 ρ1 _ _ r1 h1 fun lo H2 F2 ρ2 r2 s2 h2 => ?_
  refine rb σ H2 F2 ρ2 _ _ r2 h2 fun hi H3 F3 ρ3 r3 s3 h3 => ?_
  split at h3
  · rename_i ds
    obtain ⟨a, xs, e, hs, hd⟩ := (d1.mono (s2.trans s3))
    have hl := hd.length
    refine ⟨a, xs, e, sqT_of r3.ex hs, fun w => ?_, fun _ p hp => ?_⟩
    · have ec : cutD ds lo hi = ds := by
        unfold cutD
        rw [hl, w.1, w.2, List.drop_zero, Nat.sub_zero, ← hl, List.take_length]
      rw [ec] at h3
      exact k _ H3 F3 ρ3 (.tup ds) r3 ((s1.trans s2).trans s3) ⟨a, xs, rfl, hs, hd⟩ h3
    · have st := Stp.one (o := .tup (cutV xs lo hi)) r3.ex hp
      exact k _ _ _ ρ3 (.tup (cutD ds lo hi)) (r3.stp st) (((s1.trans s2).trans s3).trans st.ff) ⟨p, _, rfl, upd_same, (denL_cut hd).mono st.ff⟩ h3
  · exact h3.elim
end
end DL

-- part DX5
set_option maxHeartbeats 4000000
/-! sorted(a list of data that are alike) -/
namespace DL
open PySem PySem.Spec PyProof.Rows L2
def pD (d : D) : PyData := (toP d).getD .none
def leD (x y : D) : Bool := PySem.W.dataLe false pD x y
def rSortedDat (K : PySem.W.Frag) : List V → Hp → VK → Prop := fun vs H Q => ∃ (a : Addr) (bs : List (V × D)), vs = [V.ref a] ∧ SqL K H a (bs.map (·.1)) ∧ (∀ b ∈ bs, Dp K H b.1 (pD b.2)) ∧ PySem.W.AllAlike (bs.map fun b => pD b.2) ∧ PySem.W.Sortable (bs.map fun b => pD b.2) ∧ (∀ b ∈ bs, (pD b.2).depth ≤ 60) ∧
  ∀ p, H p = none → Q (.ref p) (upd H p (.lst ((bs.mergeSort (PySem.W.dataLe false fun b => pD b.2)).map (·.1))))
theorem each_vals : ∀ {bs : List (V × D)} {us : List Value}, Vals (bs.map (·.1)) us → PySem.W.EachIs (fun v (b : V × D) => RelV b.1 v) us bs
  | [], _, .nil => .nil
  | _ :: _, _, .cons a r => .cons a (each_vals r)
theorem vals_each : ∀ {bs : List (V × D)} {us : List Value}, PySem.W.EachIs (fun v (b : V × D) => RelV b.1 v) us bs → Vals (bs.map (·.1)) us
  | [], _, .nil => .nil
  | _ :: _, _, .cons a r => .cons a (vals_each r)
theorem cr_sortedDat {X : Cx} (hu : X.A.units + 64 < cLine) : CallR X (.builtin "sorted") (rSortedDat X.K) := by
  intro pins s σ H vs us Q I r h
  obtain ⟨a, bs, rfl, hs, hd, hal, hk, hdep, q⟩ := h
  obtain ⟨its, rv, hl, hz⟩ := I.list hs
  rw [Vals.ref1 r]
  have e := each_vals rv
  have er : PySem.W.EachIs (fun v (b : V × D) => ∃ as, Reads s.heap v (pD b.2) as) its bs := (PySem.W.each_mem e).mono fun v b ⟨rb, hm⟩ => Dp.reads I _ _ _ (hd b hm) rb
  rw [List.length_map] at hz
  refine PySem.W.sorted_data (enc := fun b : V × D => pD b.2) hl.isList e er hal hk hz (fun b hb => by have := hdep b hb; omega) fun out hlen ho => ?_
  obtain ⟨ep, he'⟩ := PyProof.Rows.sortedAll_at s.heap its out.toArray
  have hv := vals_each ho
  exact ⟨.ref _, upd H (s.heap.objs.size + 1) (.lst ((bs.mergeSort (PySem.W.dataLe false fun b => pD b.2)).map (·.1))), I.laid (t' := s.toks) (fun _ _ => PyProof.Rows.sortedAll_old) (Nat.le_succ _) ⟨by rw [hv.length, hlen]; exact hz, out, ep, hv, he'⟩, rfl, q _ (I.hok.fresh (Nat.le_succ _))⟩
section
variable {W : Wd} {B : Bs} {F F' H H' : Hp} {σ : L2.St} {ρ : Ev}
theorem denL_pairs : ∀ {l : List (V × D)}, (∀ b ∈ l, Den W F b.2 b.1) → DenL W F (l.map (·.2)) (l.map (·.1))
  | [], _ => rfl
  | b :: l, h => ⟨b.1, l.map (·.1), rfl, h b List.mem_cons_self, denL_pairs fun c hc => h c (List.mem_cons_of_mem _ hc)⟩
theorem denL_zip : ∀ {ds : List D} {xs : List V}, DenL W F ds xs → (xs.zip ds).map (·.1) = xs ∧ (xs.zip ds).map (·.2) = ds ∧ ∀ b ∈ xs.zip ds, Den W F b.2 b.1
  | [], _, h => by cases h; exact ⟨rfl, rfl, fun b hb => by cases hb⟩
  | d :: ds, _, ⟨x, r, e, h1, h2⟩ => by
    subst e
    obtain ⟨a, b, c⟩ := denL_zip h2
    refine ⟨by rw [List.zip_cons_cons, List.map_cons, a], by rw [List.zip_cons_cons, List.map_cons, b], fun p hp => ?_⟩
    rw [List.zip_cons_cons] at hp
    rcases List.mem_cons.mp hp with e | hp
    · rw [e]; exact h1
    · exact c p hp
/-- data: toP tells it -/
def isData (d : D) : Prop := ∃ p, toP d = some p
theorem re_sortedD {ta : TA} {a : DA} (ra : RA W B ta a) : RE W B (tCB (rSortedDat W.K) ta) (fun ρ Q => a ρ fun ρ1 ds => ∃ xs : List D, ds = [.lst xs] ∧ (∀ d ∈ xs, isData d) ∧ PySem.W.AllAlike (xs.map pD) ∧ PySem.W.Sortable (xs.map pD) ∧ (∀ d ∈ xs, (pD d).depth ≤ 60) ∧ Q ρ1 (.lst (xs.mergeSort leD))) :=
  re_cb ra (g := fun ds ρ1 Q => ∃ xs : List D, ds = [.lst xs] ∧ (∀ d ∈ xs, isData d) ∧ PySem.W.AllAlike (xs.map pD) ∧ PySem.W.Sortable (xs.map pD) ∧ (∀ d ∈ xs, (pD d).depth ≤ 60) ∧ Q ρ1 (.lst (xs.mergeSort leD))) fun σ H F ρ vs ds Q R r d h k => by
    obtain ⟨xs, rfl, h1, h2, h3, h4, h⟩ := h
    obtain ⟨x, rfl, p, us, rfl, hs, hd⟩ := den1 d
    obtain ⟨z1, z2, z3⟩ := denL_zip hd
    have em : ∀ b ∈ us.zip xs, b.2 ∈ xs := fun b hb => by rw [← z2]; exact List.mem_map.mpr ⟨b, hb, rfl⟩
    have ez : (us.zip xs).map (fun b => pD b.2) = xs.map pD := by
      conv => rhs; rw [← z2]
      rw [List.map_map]; rfl
    refine ⟨p, us.zip xs, rfl, by rw [z1]; exact same_sqL r.ex hs, fun b hb => ?_, by rw [ez]; exact h2, by rw [ez]; exact h3, fun b hb => h4 _ (em b hb), fun q hq => ?_⟩
    · obtain ⟨py, hp⟩ := h1 b.2 (em b hb)
      have : pD b.2 = py := by unfold pD; rw [hp]; rfl
      rw [this]
      exact dp_of r.ex (z3 b hb) hp
    · have em2 : ((us.zip xs).mergeSort (PySem.W.dataLe false fun b => pD b.2)).map (·.2) = xs.mergeSort leD := by
        have e3 := List.map_mergeSort (r := PySem.W.dataLe false fun b : V × D => pD b.2) (s := leD) (f := fun b : V × D => b.2) (l := us.zip xs) (fun a _ b _ => rfl)
        rw [e3, z2]
      have st := Stp.one (o := .lst (((us.zip xs).mergeSort (PySem.W.dataLe false fun b => pD b.2)).map (·.1))) r.ex hq
      refine k _ _ _ ρ (.lst (xs.mergeSort leD)) (r.stp st) st.ff ⟨q, _, rfl, .inl (.inl upd_same), ?_⟩ h
      rw [← em2]
      exact (denL_pairs fun b hb => z3 b (List.mem_mergeSort.mp hb)).mono st.ff
end
end DL

-- part DL10
set_option maxHeartbeats 4000000
/-! dicts with tuple keys, over trees -/
namespace DL
open PySem L2
def keyOf1 : D → Option Key
  | .int i => some (.inl i)
  | .str x => some (.inr x)
  | _ => none
def keyOfL : List D → Option (List Key)
  | [] => some []
  | d :: ds => match keyOf1 d, keyOfL ds with
    | some k, some ks => some (k :: ks)
    | _, _ => none
def keyOfD : D → Option (List Key)
  | .tup ds => keyOfL ds
  | _ => none
def lookP (l : List (List Key × D)) (k : List Key) : Option D := (l.find? fun p => decide (p.1 = k)).map (·.2)
def putP (l : List (List Key × D)) (k : List Key) (d : D) : List (List Key × D) :=
  if (l.any fun p => decide (p.1 = k)) = true then l.map (fun p => if p.1 = k then (p.1, d) else p) else l ++ [(k, d)]
def dicP (l : List (List Key × D)) : D := .dic (l.map (·.1)) (l.map (·.2))
section
variable {W : Wd} {B : Bs} {F F' H H' : Hp} {σ : St} {ρ : Ev}
theorem key_den : ∀ {ds : List D} {xs : List V} {k : List Key}, DenL W F ds xs → keyOfL ds = some k → xs = k.map kV
  | [], _, _, h, e => by cases e; exact h
  | d :: ds, _, k, ⟨x, r, ev, h1, h2⟩, e => by
    unfold keyOfL at e
    subst ev
    cases e1 : keyOf1 d with
    | none => rw [e1] at e; cases e
    | some k1 =>
      cases e2 : keyOfL ds with
      | none => rw [e1, e2] at e; cases e
      | some ks =>
        rw [e1, e2] at e
        cases e
        rw [key_den h2 e2]
        cases d with
        | int i => cases e1; rw [show x = .int i from h1]; rfl
        | str y => cases e1; rw [show x = .str y from h1]; rfl
        | _ => cases e1
/-- what a dict's content is over trees -/
def DenP (W : Wd) (F : Hp) (l : List (List Key × D)) (kvs : List (List Key × V)) : Prop := kvs.map (·.1) = l.map (·.1) ∧ DenL W F (l.map (·.2)) (kvs.map (·.2))
theorem DenP.look : ∀ {l : List (List Key × D)} {kvs : List (List Key × V)} {k : List Key}, DenP W F l kvs → (valV kvs k = none ∧ lookP l k = none) ∨ ∃ v d, valV kvs k = some v ∧ lookP l k = some d ∧ Den W F d v
  | [], [], _, _ => .inl ⟨rfl, rfl⟩
  | [], _ :: _, _, h => by have := h.1; simp at this
  | _ :: _, [], _, h => by have := h.1; simp at this
  | (k1, d) :: l, (k2, v) :: kvs, k, ⟨h1, h2⟩ => by
    rw [List.map_cons, List.map_cons, List.cons.injEq] at h1
    obtain ⟨x, r, ev, g1, g2⟩ := h2
    rw [List.map_cons, List.cons.injEq] at ev
    obtain ⟨e1, e2⟩ := ev
    subst e1 e2
    have hk : k2 = k1 := h1.1
    subst hk
    unfold valV lookP
    by_cases hq : k2 = k
    · refine .inr ⟨v, d, ?_, ?_, g1⟩
      · rw [List.find?_cons_of_pos (by exact decide_eq_true hq)]; rfl
      · rw [List.find?_cons_of_pos (by exact decide_eq_true hq)]; rfl
    · rw [List.find?_cons_of_neg (by simpa using hq), List.find?_cons_of_neg (by simpa using hq)]
      exact DenP.look ⟨h1.2, g2⟩
theorem any_keys {α : Type} {k : List Key} : ∀ {l : List (List Key × α)}, (l.any fun p => decide (p.1 = k)) = (l.map (·.1)).any fun q => decide (q = k)
  | [] => rfl
  | p :: r => by rw [List.any_cons, List.map_cons, List.any_cons, any_keys]
theorem DenP.mapped {k : List Key} {d : D} {v : V} (hd : Den W F d v) : ∀ {l : List (List Key × D)} {kvs : List (List Key × V)}, DenP W F l kvs → DenP W F (l.map (fun p => if p.1 = k then (p.1, d) else p)) (kvs.map (fun p => if p.1 = k then (p.1, v) else p))
  | [], [], _ => ⟨rfl, rfl⟩
  | [], _ :: _, h => by have := h.1; simp at this
  | _ :: _, [], h => by have := h.1; simp at this
  | (k1, d1) :: l, (k2, v1) :: kvs, ⟨h1, h2⟩ => by
    rw [List.map_cons, List.map_cons, List.cons.injEq] at h1
    obtain ⟨x, r, ev, g1, g2⟩ := h2
    rw [List.map_cons, List.cons.injEq] at ev
    obtain ⟨e1, e2⟩ := ev
    subst e1 e2
    have hk : k2 = k1 := h1.1
    subst hk
    obtain ⟨i1, i2⟩ := DenP.mapped (k := k) hd (l := l) (kvs := kvs) ⟨h1.2, g2⟩
    by_cases hq : k2 = k
    · rw [List.map_cons, List.map_cons, if_pos hq, if_pos hq]
      exact ⟨by rw [List.map_cons, List.map_cons, i1], _, _, rfl, hd, i2⟩
    · rw [List.map_cons, List.map_cons, if_neg hq, if_neg hq]
      exact ⟨by rw [List.map_cons, List.map_cons, i1], _, _, rfl, g1, i2⟩
theorem DenP.put {k : List Key} {d : D} {v : V} {l : List (List Key × D)} {kvs : List (List Key × V)} (h : DenP W F l kvs) (hd : Den W F d v) : DenP W F (putP l k d) (putK kvs k v) := by
  have e : (l.any fun p => decide (p.1 = k)) = (kvs.any fun p => decide (p.1 = k)) := by rw [any_keys, any_keys, h.1]
  unfold putP putK
  rw [e]
  by_cases c : (kvs.any fun p => decide (p.1 = k)) = true
  · rw [if_pos c, if_pos c]; exact h.mapped hd
  · rw [if_neg c, if_neg c]
    exact ⟨by rw [List.map_append, List.map_append, h.1]; rfl, by rw [List.map_append, List.map_append]; exact h.2.append (DenL.cons hd DenL.nil)⟩
theorem DenP.mono {l : List (List Key × D)} {kvs : List (List Key × V)} (e : Same F F') (h : DenP W F l kvs) : DenP W F' l kvs := ⟨h.1, h.2.mono e⟩
theorem DenP.length {l : List (List Key × D)} {kvs : List (List Key × V)} (h : DenP W F l kvs) : l.length = kvs.length := by
  have := congrArg List.length h.1
  rw [List.length_map, List.length_map] at this
  exact this.symm
/-- {} -/
theorem rn_dnewT : RN W B tDNewT (dC (dicP [])) := by
  intro σ H F ρ Q R r h k
  intro p hp
  exact k p _ F ρ (dicP []) (r.stp (Stp.lay (o := .dT []) r.ex hp)) (Same.refl _) (new_of r hp ⟨[], upd_same, rfl, rfl⟩) h
/-- a key's value -/
theorem key_at {y : D} {v : V} {k : List Key} (e : Same F H) (hd : Den W F y v) (hk : keyOfD y = some k) : ∃ b, v = .ref b ∧ H b = some (.tup (k.map kV)) := by
  cases y with
  | tup ds =>
    obtain ⟨b, xs, ev, hf, hl⟩ := hd
    rw [key_den hl hk] at hf
    exact ⟨b, ev, e _ _ hf⟩
  | _ => cases hk
/-- x.get(k, z), x at slot i -/
theorem re_get2O {i : Nat} {ty tx : TE} {t z : DE} (rt : RE W B ty t) (rz : RE W B tx z) :
    RE W B (tDGet2 (tVar i) ty tx) (fun ρ Q => (∃ l, getO ρ i = some (dicP l)) ∧ t ρ fun ρ1 y => z ρ1 fun ρ2 d => ∃ l k, getO ρ2 i = some (dicP l) ∧ keyOfD y = some k ∧ Q ρ2 ((lookP l k).getD d)) := by
  intro σ H F ρ Q R rl h kk
  obtain ⟨⟨l0, g0⟩, h⟩ := h
  obtain ⟨p, e2, e3, kv0, hp0, _⟩ := rl.own g0
  refine ⟨.ref p, e3, p, rfl, .inr ⟨kv0, .inl hp0⟩, ?_⟩
  refine rt σ H F ρ _ _ rl h fun y H1 F1 ρ1 dy r1 s1 d1 h1 => ?_
  refine rz σ H1 F1 ρ1 _ _ r1 h1 fun w H2 F2 ρ2 dw r2 s2 d2 h2 => ?_
  obtain ⟨l, k, g2, hk, hq⟩ := h2
  obtain ⟨p2, e4, e5, kvs, hp, hks, hvs⟩ := r2.own g2
  have ep : p = p2 := by rw [e3] at e5; cases e5; rfl
  subst ep
  obtain ⟨b, rfl, hb⟩ := key_at r2.ex (d1.mono s2) hk
  refine ⟨valV kvs k, .t hp hb, ?_⟩
  rcases DenP.look (l := l) (kvs := kvs) (k := k) ⟨hks, hvs⟩ with ⟨q1, q2⟩ | ⟨v, d, q1, q2, q3⟩
  · rw [q1]; rw [q2] at hq
    exact kk w H2 F2 ρ2 dw r2 (s1.trans s2) d2 hq
  · rw [q1]; rw [q2] at hq
    exact kk v H2 F2 ρ2 d r2 (s1.trans s2) q3 hq
/-- x.get(k, z) -/
theorem re_get2 {td ty tx : TE} {td' t z : DE} (re : RE W B td td') (rt : RE W B ty t) (rz : RE W B tx z) :
    RE W B (tDGet2 td ty tx) (fun ρ Q => td' ρ fun ρ0 x => ∃ l, x = dicP l ∧ t ρ0 fun ρ1 y => z ρ1 fun ρ2 d => ∃ k, keyOfD y = some k ∧ Q ρ2 ((lookP l k).getD d)) := by
  intro σ H F ρ Q R rl h kk
  refine re σ H F ρ _ _ rl h fun x H0 F0 ρ0 dx r0 s0 d0 h => ?_
  obtain ⟨l, rfl, h⟩ := h
  obtain ⟨p, kvs, ev, hp, hks, hvs⟩ := d0
  subst ev
  refine ⟨p, rfl, .inr ⟨kvs, .inl (r0.ex _ _ hp)⟩, ?_⟩
  refine rt σ H0 F0 ρ0 _ _ r0 h fun y H1 F1 ρ1 dy r1 s1 d1 h1 => ?_
  refine rz σ H1 F1 ρ1 _ _ r1 h1 fun w H2 F2 ρ2 dw r2 s2 d2 h2 => ?_
  obtain ⟨k, hk, hq⟩ := h2
  obtain ⟨b, rfl, hb⟩ := key_at r2.ex (d1.mono s2) hk
  refine ⟨valV kvs k, .t (r2.ex _ _ (s2 _ _ (s1 _ _ hp))) hb, ?_⟩
  rcases DenP.look (l := l) (kvs := kvs) (k := k) ⟨hks, hvs.mono (s1.trans s2)⟩ with ⟨q1, q2⟩ | ⟨v, d, q1, q2, q3⟩
  · rw [q1]; rw [q2] at hq
    exact kk w H2 F2 ρ2 dw r2 ((s0.trans s1).trans s2) d2 hq
  · rw [q1]; rw [q2] at hq
    exact kk v H2 F2 ρ2 d r2 ((s0.trans s1).trans s2) q3 hq
/-- x[k], x at slot i -/
theorem re_getO {i : Nat} {ty : TE} {t : DE} (rt : RE W B ty t) :
    RE W B (tDGet (tVar i) ty) (fun ρ Q => (∃ l, getO ρ i = some (dicP l)) ∧ t ρ fun ρ1 y => ∃ l k d, getO ρ1 i = some (dicP l) ∧ keyOfD y = some k ∧ lookP l k = some d ∧ Q ρ1 d) := by
  intro σ H F ρ Q R rl h kk
  obtain ⟨⟨l0, g0⟩, h⟩ := h
  obtain ⟨p, e2, e3, kv0, hp0, _⟩ := rl.own g0
  refine ⟨.ref p, e3, ?_⟩
  refine rt σ H F ρ _ _ rl h fun y H1 F1 ρ1 dy r1 s1 d1 h1 => ?_
  obtain ⟨l, k, d, g2, hk, hl, hq⟩ := h1
  obtain ⟨p2, e4, e5, kvs, hp, hks, hvs⟩ := r1.own g2
  have ep : p = p2 := by rw [e3] at e5; cases e5; rfl
  subst ep
  obtain ⟨b, rfl, hb⟩ := key_at r1.ex d1 hk
  rcases DenP.look (l := l) (kvs := kvs) (k := k) ⟨hks, hvs⟩ with ⟨q1, q2⟩ | ⟨v, d', q1, q2, q3⟩
  · rw [q2] at hl; cases hl
  · rw [q2] at hl; cases hl
    exact ⟨p, v, rfl, by rw [← q1]; exact .t hp hb, kk v H1 F1 ρ1 d r1 s1 q3 hq⟩
/-- x[k] -/
theorem re_get {td ty : TE} {td' t : DE} (re : RE W B td td') (rt : RE W B ty t) :
    RE W B (tDGet td ty) (fun ρ Q => td' ρ fun ρ0 x => ∃ l, x = dicP l ∧ t ρ0 fun ρ1 y => ∃ k d, keyOfD y = some k ∧ lookP l k = some d ∧ Q ρ1 d) := by
  intro σ H F ρ Q R rl h kk
  refine re σ H F ρ _ _ rl h fun x H0 F0 ρ0 dx r0 s0 d0 h => ?_
  obtain ⟨l, rfl, h⟩ := h
  obtain ⟨p, kvs, ev, hp, hks, hvs⟩ := d0
  subst ev
  refine rt σ H0 F0 ρ0 _ _ r0 h fun y H1 F1 ρ1 dy r1 s1 d1 h1 => ?_
  obtain ⟨k, d, hk, hl, hq⟩ := h1
  obtain ⟨b, rfl, hb⟩ := key_at r1.ex d1 hk
  rcases DenP.look (l := l) (kvs := kvs) (k := k) ⟨hks, hvs.mono s1⟩ with ⟨q1, q2⟩ | ⟨v, d', q1, q2, q3⟩
  · rw [q2] at hl; cases hl
  · rw [q2] at hl; cases hl
    exact ⟨p, v, rfl, by rw [← q1]; exact .t (r1.ex _ _ (s1 _ _ hp)) hb, kk v H1 F1 ρ1 d r1 (s0.trans s1) q3 hq⟩
/-- x[k] = e, x at slot i -/
theorem rs_putO {i : Nat} {ty tv : TE} {t v : DE} (rv : RE W B tv v) (rt : RE W B ty t) :
    RS W B (sDPut (tVar i) ty tv) (fun DD ρ => v ρ fun ρ1 d => (∃ l, getO ρ1 i = some (dicP l)) ∧ t ρ1 fun ρ2 y => ∃ l k, getO ρ2 i = some (dicP l) ∧ keyOfD y = some k ∧ l.length < sizeLine ∧ DD.nx (ρ2.set i (.o (dicP (putP l k d))))) := by
  intro σ H F ρ D DD rl h f
  refine rv σ H F ρ _ _ rl h fun w H1 F1 ρ1 dw r1 s1 d1 h1 => ?_
  obtain ⟨⟨l0, g0⟩, h1⟩ := h1
  obtain ⟨p, e2, e3, kv0, hp0, _⟩ := r1.own g0
  refine ⟨.ref p, e3, ?_⟩
  refine rt σ H1 F1 ρ1 _ _ r1 h1 fun y H2 F2 ρ2 dy r2 s2 d2 h2 => ?_
  obtain ⟨l, k, g2, hk, hz, hq⟩ := h2
  obtain ⟨p2, e4, e5, kvs, hp, hks, hvs⟩ := r2.own g2
  have ep : p = p2 := by rw [e3] at e5; cases e5; rfl
  subst ep
  obtain ⟨b, rfl, hb⟩ := key_at r2.ex d2 hk
  have dp : DenP W F2 l kvs := ⟨hks, hvs⟩
  have dq := dp.put (k := k) (d1.mono s2)
  refine ⟨p, _, rfl, .inr ⟨kvs, k, b, hp, rfl, hb, by rw [← dp.length]; exact hz, rfl⟩, ?_⟩
  exact f.nx _ _ F2 _ (r2.oset (d' := dicP (putP l k dw)) e4 e5 ⟨_, upd_same, dq.1, dq.2⟩) (s1.trans s2) hq
end
end DL

-- part DX6
set_option maxHeartbeats 4000000
/-! defs that ask for repr: the promise told where nothing is being shown -/
namespace DL
open PySem PySem.Spec PyProof.Rows L2
/-- a def's promise where no repr is under way -/
structure FnG (P : Program) (w : World) (K : PySem.W.Frag) (mg : Str → Option Value) (base : Heap) (CX : CXT) (k : Nat) (f : Addr) (fd : FuncData) (ps : List Str) (sp : Sp) : Prop where
  len : ∀ vs H Q E, sp vs H Q E → vs.length = ps.length
  run : ∀ (A : Around), Room k A → A.guards = some [] → ∀ (outer : List Env) (s : Shared) (H : Hp) (args : Args) (us : List Value) (vs : List V) (Q : VK) (E : XK), Env0 P w K mg base A outer s H → BindsTo s fd args (ps.zip us) → Vals vs us → sp vs H Q E →
    codeAny (model P w) A (.call (.ref f) args) (CR CX outer P w H s Q E) s
section
variable {CX : CXT} {P : Program} {w : World} {K : PySem.W.Frag} {mg : Str → Option Value} {base : Heap} {k : Nat} {f : Addr} {N ps : List Str} {sp : Sp}
theorem FnOk.g {fd : FuncData} (F : FnOk P w K mg base CX k f fd ps sp) : FnG P w K mg base CX k f fd ps sp := ⟨F.len, fun A hr _ outer s H args us vs Q E => F.run A outer s H args us vs Q E hr⟩
theorem okG {x qual : Str} {st : Stmt} {fd : FuncData} (F : Fun K x qual st f fd) (S : FnScope N ps (defScope st)) (len : ∀ vs H Q E, sp vs H Q E → vs.length = ps.length)
    (hbody : ∀ (cdv : Value) (A : Around) (outer : List Env) (s : Shared) (H : Hp) (vs : List V) (Q : VK) (E : XK), Room k (A.deeper (envOfC qual (defScope st) s.heap.objs.size f cdv)) → A.guards = some [] → sp vs H Q E →
      ∃ t, PSs (cxOf CX0 P w K mg base N qual (defScope st) f cdv A outer s H E).nox (defBody st) t ∧ t { nx := fun _ H' => Q .non H', rt := Q } (start N vs) H) : FnG P w K mg base CX0 (k + 1) f fd ps sp := by
  obtain ⟨oc, od, kV, doc, pm, an, cdv, ct, osl, rfl, lk, hcd⟩ := F.ex
  refine ⟨len, fun A hr hg outer s H args us vs Q E e0 hb r hsp => ?_⟩
  have inK : K.In s.heap := e0.mod.kin.keeps fun b o e => (e0.bs b o e).1
  have noLim : s.heap.NoLimit := e0.mod.nolimit.keeps fun b o e => (e0.bs b o e).1
  have kinds : ∀ y ∈ ps.zip us, (defScope st).names.lookup y.1 = some .local ∨ ((defScope st).names.lookup y.1 = some .cell ∧ ((cellsFrom (s.heap.objs.size + 1) (defScope st).names []).lookup y.1).isSome = true) := fun y hy =>
    (S.par y.1 (List.of_mem_zip hy).1).imp id fun q => ⟨q, PySem.W.cellsFrom_some _ _ _ (.inl q)⟩
  refine codeAny_call_function hr.depth (inK _ _ lk) rfl S.co S.gen rfl (PySem.W.codeRec_of inK hcd) (hb _ _ _ _ (wpAny_newFunctionEnv_cells S.kind kinds fun env he s1 x => ?_))
  subst he
  refine ⟨noLim.keeps x.toInCall.keep, codeAny_func ?_⟩
  obtain ⟨t, ht, hq⟩ := hbody cdv A outer s H vs Q E (hr.deeper _) hg hsp
  have I : Inv (cxOf CX0 P w K mg base N qual (defScope st) f cdv A outer s H E) [] (start N vs) H s1 := inv_start S hr.hd e0 (len _ _ _ _ hsp) r x
  refine wpAny_mono (ht.nox.run [] s1 (start N vs) H _ I hq) (fun fl s' hs => ?_) fun e s' hs => hs
  cases fl with
  | ret u =>
    obtain ⟨v, σ', H', J, rv, q⟩ := hs
    exact ⟨v, H', J.os, J.bare, J.base, J.hok, rv, q⟩
  | next =>
    obtain ⟨σ', H', J, q⟩ := hs
    exact ⟨V.non, H', J.os, J.bare, J.base, J.hok, rfl, q⟩
  | brk =>
    obtain ⟨_, _, _, q⟩ := hs
    exact q.elim
  | cont =>
    obtain ⟨_, _, _, q⟩ := hs
    exact q.elim
end
section
variable {X : Cx} {CX : CXT} {k : Nat} {f : Addr} {fd : FuncData} {ps : List Str} {sp : Sp} {E : XK} {ds : List Value} {dvs : List V} {x : Str} {p pos : Pos} {e : Expr} {es : List Expr} {t : TA}
theorem pe_callG (F : FnG X.prog X.w X.K X.mg X.base CX k f fd ps sp) (hr : Room k X.A) (hgd : X.A.guards = some []) (hg : Gl X x) (hm : X.mg x = some (.ref f)) (hk : PySem.W.keepIn X.K (.ref f) = true) (hb : Binds X.K fd ps ds) (hd : Vals dvs ds) (hx : Passes CX X E)
    (ha : PA X (e :: es) t) (hdb : (x == ("__debug__" : Str)) = false := by decide) (he : starEach (e :: es) X.env = (false, eval e X.env) :: starEach es X.env := by rfl) (hpl : (backTo pos (starEach es X.env)).any (·.1) = false := by rfl) :
    PE X (.Call (.Name x p) (e :: es) [] pos) (tCall sp dvs E t) := by
  refine ⟨fun pins s σ H Q I h => ?_⟩
  refine wpAny_Call_Name_kw (ld_glob I hg hm ?_ hdb)
  refine PySem.W.callWith_K (h₀ := X.base) I.ok.mod.kin hk (thn (ha.run pos pins s σ H _ I h) fun us s1 ⟨vs, H1, I1, r, q⟩ => ⟨I1.kIn, ?_⟩) he hpl
  have r2 : Vals (vs ++ dvs) (us ++ ds) := r.append hd
  refine wpAny_call (codeAny_mono (F.run X.A hr hgd X.stack s1 H1 ⟨us, []⟩ (us ++ ds) (vs ++ dvs) Q E I1.env0 (hb s1 us I1.kIn (by rw [← r2.length]; exact F.len _ _ _ _ q)) r2 q) fun r s' hq => ?_)
  cases r with
  | error e => exact hx pins σ H1 s1 e s' I1 hq
  | ok fl =>
    cases fl with
    | ret u => exact I1.after hq
    | next => exact hq.elim
    | brk => exact hq.elim
    | cont => exact hq.elim
end
/-! ### repr of data -/
def rRepr (K : PySem.W.Frag) : List V → Hp → VK → Prop := fun xs H Q => ∃ (a : Addr) (d : PyData), xs = [.ref a] ∧ Dp K H (.ref a) d ∧ d.showable = true ∧ d.hasDict = false ∧ d.depth ≤ 60 ∧ d.shown.length ≤ sizeLine ∧ Q (.str d.shown) H
theorem call_reprD {X : Cx} (hgd : X.A.guards = some []) (hu : X.A.units + 64 < cLine) : CallR X (.builtin "repr") (rRepr X.K) := by
  intro pins s σ H xs us Q I r h
  obtain ⟨a, d, rfl, hd, h1, h2, h3, h4, q⟩ := h
  obtain rfl := Vals.ref1 r
  obtain ⟨as, rd⟩ := Dp.reads I d (.ref a) (.ref a) hd rfl
  refine repr_of_reads' rd h1 (fun z => by rw [h2] at z; cases z) hgd (by omega) (fun _ _ e => e) (fun h' u tk k => ?_) h4
  exact ⟨.str d.shown, H, I.kept k, ⟨u, rfl⟩, q⟩
end DL

-- part DX7
set_option maxHeartbeats 4000000
/-! the end for a law whose def asks for repr: the kit's walk_of, for the weaker promise FnG -/
namespace DL
open PySem PySem.Spec PyProof.Rows L2
section
variable {P : Program} {w : World} {K : PySem.W.Frag} {mg mb : Str → Option Value} {k : Nat} {fa a : Addr} {fd : FuncData} {x : Str} {sp : Sp} {s₁ : Shared} {vs : List Value} {ns : List Int}
/-- from a tracked heap that holds the script at most -/
theorem law_coreG (inK : K.In s₁.heap) (gl : s₁.heap.Ns mainGlobals mg) (bl : s₁.heap.Ns builtinsNs mb) (bb : ∀ x : Str, x ≠ "__name__" → mb x = bootBuiltins x) (lim : s₁.heap.NoLimit) (hg : s₁.gens = #[])
    (ha : s₁.heap.get? a = some { cls := .type "list", data := .seq vs.toArray }) (hr : Room k callerA)
    (F : ∀ base : Heap, K.In base → base.Ns mainGlobals mg → FnG P w K mg base CX0 k fa fd [x] sp) (bind : ∀ (s : Shared) (u : Value), BindsTo s fd ⟨[u], []⟩ [(x, u)])
    (H : Hp) (only : Only H) (hok : HOk P w H s₁.heap) (hA : ∀ b, H b ≠ none → b = a) (hK : H a ≠ none → K.lookup a = none) (law : sp [.ref a] H (fun v _ => v = .bl true) fun _ _ _ => False) :
    codeAny (model P w) callerA (.call (.ref fa) ⟨[.ref a], []⟩) (fun r s' => r = .ok (.ret (.bool true)) ∧ OldK s₁.heap s'.heap ∧ s'.os = s₁.os ∧ AllBare s'.gens) s₁ := by
  -- whatever stands and is not the script stands in the base
  have none_of : ∀ {b : Addr} {o : Obj}, s₁.heap.get? b = some o → (b = a → False) → H b = none := fun {b o} e n => by
    cases q : H b with
    | none => rfl
    | some u => exact (n (hA b (by rw [q]; exact fun z => nomatch z))).elim
  have dict_ne : ∀ {b : Addr} {o : Obj} {es : Array DictEntry} {ep : Nat}, s₁.heap.get? b = some o → o.data = .dict es ep → b = a → False := fun {b o es ep} e d z => by
    rw [z, ha] at e
    cases e
    have d' : Data.seq vs.toArray _ = Data.dict es ep := d
    cases d'
  have ns_of : ∀ {b : Addr} {m : Str → Option Value}, s₁.heap.Ns b m → (hidT s₁.heap H).Ns b m := fun {b m} ⟨o, es, ep, e, d, r⟩ => ⟨o, es, ep, hidT_get e (none_of e (dict_ne e d)), d, r⟩
  have inB : K.In (hidT s₁.heap H) := fun b o e => hidT_get (inK b o e) (by
    cases q : H b with
    | none => rfl
    | some u =>
      have z := hA b (by rw [q]; exact fun z => nomatch z)
      rw [z] at q e
      rw [hK (by rw [q]; exact fun z => nomatch z)] at e
      cases e)
  obtain ⟨mc, l1, l2⟩ := lim
  have e0 : Env0 P w K mg (hidT s₁.heap H) callerA [] s₁ H := ⟨rfl, ⟨inB, ns_of gl, ⟨mb, ns_of bl, bb⟩, ⟨mc, ns_of l1, l2⟩⟩, fun b o e => of_hidT e, Nat.le_of_eq (hidT_size _ _), trivial, (fun b hb => nomatch hb), hok, .of_eq hg⟩
  refine codeAny_mono ((F _ inB (ns_of gl)).run callerA hr rfl [] s₁ H ⟨[.ref a], []⟩ [.ref a] [.ref a] _ _ e0 (bind s₁ (.ref a)) (.cons rfl .nil) law) fun r s' h => ?_
  match r, h with
  | .ok (.ret u), ⟨v, H', os, bare, un, hok', r', q⟩ =>
    have q : v = .bl true := q
    subst q
    obtain rfl : u = Value.bool true := r'
    refine ⟨rfl, OldK.of_keep fun b o e => ?_, os, bare⟩
    rcases only b with q | ⟨ob, xs, q⟩
    · exact un.keep b o e q (fun z => nomatch z) (fun z => nomatch z)
    · have e1 := (hok b _ q).1
      have e2 := (hok' b _ (un.frzs b ob _ q)).1
      rw [e] at e1
      cases e1
      exact e2
theorem law_callG (inK : K.In s₁.heap) (gl : s₁.heap.Ns mainGlobals mg) (bl : s₁.heap.Ns builtinsNs mb) (bb : ∀ x : Str, x ≠ "__name__" → mb x = bootBuiltins x) (lim : s₁.heap.NoLimit) (hg : s₁.gens = #[])
    (ha : s₁.heap.get? a = some { cls := .type "list", data := .seq vs.toArray }) (hi : IntsAre vs ns) (hl : ns.length ≤ sizeLine) (hr : Room k callerA)
    (F : ∀ base : Heap, K.In base → base.Ns mainGlobals mg → FnG P w K mg base CX0 k fa fd [x] sp) (bind : ∀ (s : Shared) (u : Value), BindsTo s fd ⟨[u], []⟩ [(x, u)])
    (law : ∀ H : Hp, Only H → SqL K H a (ns.map V.int) → sp [.ref a] H (fun v _ => v = .bl true) fun _ _ _ => False) :
    codeAny (model P w) callerA (.call (.ref fa) ⟨[.ref a], []⟩) (fun r s' => r = .ok (.ret (.bool true)) ∧ OldK s₁.heap s'.heap ∧ s'.os = s₁.os ∧ AllBare s'.gens) s₁ := by
  have rv := vals_ints hi
  cases hk : K.lookup a with
  | some o =>
    have e := inK a o hk
    rw [ha] at e
    cases e
    have only0 : Only (fun _ => none) := fun _ => .inl rfl
    refine law_coreG inK gl bl bb lim hg ha hr F bind (fun _ => none) only0 (fun b u z => nomatch z) (fun b z => absurd rfl z) (fun z => absurd rfl z) (law _ only0 ?_)
    exact .inr ⟨_, vs.toArray, _, hk, rfl, rfl, rfl, by rw [List.size_toArray, hi.length]; exact hl, by simpa using rv⟩
  | none =>
    obtain ⟨H, hH⟩ : ∃ H : Hp, H = fun b => if b = a then some (.frz { cls := .type "list", data := .seq vs.toArray } (.lst (ns.map V.int))) else none := ⟨_, rfl⟩
    have at_ : H a = some (.frz { cls := .type "list", data := .seq vs.toArray } (.lst (ns.map V.int))) := by rw [hH]; exact if_pos rfl
    have off : ∀ b, b ≠ a → H b = none := fun b hb => by rw [hH]; exact if_neg hb
    have only1 : Only H := fun b => by
      by_cases hb : b = a
      · rw [hb]; exact .inr ⟨_, _, at_⟩
      · exact .inl (off b hb)
    refine law_coreG inK gl bl bb lim hg ha hr F bind H only1 (fun b u z => ?_) (fun b z => ?_) (fun _ => hk) (law _ only1 (.inl (.inr ⟨_, at_⟩)))
    · by_cases hb : b = a
      · subst hb
        rw [at_] at z
        cases z
        exact ⟨ha, by rw [List.length_map]; exact hl, vs, _, rv, ha⟩
      · rw [off b hb] at z; cases z
    · by_cases hb : b = a
      · exact hb
      · exact absurd (off b hb) z
end
theorem walk_ofG {l : PySem.W.OpenLaw} {n k : Nat} {q : Program} {loose : List Str} {XP : (Str → Option Value) → Heap → Prop} {YP : World → Heap → Prop} {d : PySem.DefRec} {K : Params → PySem.W.Frag} {sp : World → Sp} {x : Str}
    (hn : l.most = some n) (hn2 : n ≤ sizeLine) (hdf : d.params.defaults = []) (hr : Room k callerA) (hY : ∀ (w : World) (h : Heap), YP w h → (K w.params).In h)
    (F : ∀ (w : World) (mg : Str → Option Value) (fa : Addr) (h : Heap), (K w.params).In h → h.Ns mainGlobals mg → mg d.name = some (.ref fa) →
      ∃ fd : FuncData, (∀ (s : Shared) (u : Value), BindsTo s fd ⟨[u], []⟩ [(x, u)]) ∧ ∀ base : Heap, (K w.params).In base → base.Ns mainGlobals mg → FnG l.prog w (K w.params) mg base CX0 k fa fd [x] (sp w))
    (hsp : ∀ (w : World) (H : Hp) (a : Addr) (ns : List Int), ns.length ≤ n → Only H → SqL (K w.params) H a (ns.map V.int) → sp w [.ref a] H (fun v _ => v = .bl true) fun _ _ _ => False) :
    PySem.W.WalkO q loose XP YP l.row.toRowW d [] (fun f vs => PySem.call f vs) := by
  refine Att.attach_call hn hdf fun w s₀ s₁ mg mb fa o pm cd doc a vs ns G Y ho hd hcd hmg hobj hints hlen hg => ?_
  have inK := hY w _ Y
  obtain ⟨fd, hb, hF⟩ := F w mg fa _ inK G.T.g hmg
  exact law_callG inK G.T.g G.T.b G.T.builtins G.T.nolimit hg hobj hints (Nat.le_trans hlen hn2) hr hF hb fun H hO hS => hsp w H a ns hlen hO hS
end DL

-- part DL11
set_option maxHeartbeats 4000000
/-! tuples that stand may be frozen; repr over trees -/
namespace DL
open PySem L2
section
variable {W : Wd} {B : Bs} {F F' H H' : Hp} {σ : St} {ρ : Ev}
/-- a tuple that stands is frozen -/
theorem Stp.letT {q : Addr} {xs : List V} (e : Same F H) (h : H q = some (.tup xs)) : ∃ F', Stp F H F' H ∧ F' q = some (.tup xs) := by
  cases hf : F q with
  | some o =>
    have := e _ _ hf
    rw [h] at this
    cases this
    exact ⟨F, Stp.refl e, hf⟩
  | none =>
    refine ⟨upd F q (.tup xs), ⟨same_upd hf, Same.refl _, fun b u z => ?_, fun a h1 h2 => ?_⟩, upd_same⟩
    · by_cases hb : b = q
      · subst hb; rw [upd_same] at z; cases z; exact h
      · rw [upd_ne hb] at z; exact e _ _ z
    · have : a ≠ q := fun z => by
        subst z
        exact h1.2 xs h
      rw [upd_ne this]; exact h2
/-- the tree of a key -/
def keyT1 : Key → D
  | .inl i => .int i
  | .inr x => .str x
theorem den_key : ∀ (k : List Key), DenL W F (k.map keyT1) (k.map kV)
  | [] => rfl
  | .inl i :: k => ⟨_, _, rfl, rfl, den_key k⟩
  | .inr x :: k => ⟨_, _, rfl, rfl, den_key k⟩
/-! ### repr -/
theorem re_repr {ta : TA} {a : DA} (ra : RA W B ta a) : RE W B (tCB (rRepr W.K) ta) (fun ρ Q => a ρ fun ρ1 ds => ∃ x p, ds = [x] ∧ toP x = some p ∧ (∃ xs, x = .lst xs ∨ x = .tup xs) ∧ p.showable = true ∧ p.hasDict = false ∧ p.depth ≤ 60 ∧ p.shown.length ≤ sizeLine ∧ Q ρ1 (.str p.shown)) :=
  re_cb ra (g := fun ds ρ1 Q => ∃ x p, ds = [x] ∧ toP x = some p ∧ (∃ xs, x = .lst xs ∨ x = .tup xs) ∧ p.showable = true ∧ p.hasDict = false ∧ p.depth ≤ 60 ∧ p.shown.length ≤ sizeLine ∧ Q ρ1 (.str p.shown)) fun σ H F ρ vs ds Q R r d h k => by
    obtain ⟨x, p, rfl, hp, ⟨xs, hx⟩, h1, h2, h3, h4, h⟩ := h
    obtain ⟨v, rfl, hd⟩ := den1 d
    have dp := dp_of r.ex hd hp
    have hv : ∃ a, v = .ref a := by
      rcases hx with e | e
      · subst e; obtain ⟨a, _, e, _⟩ := hd; exact ⟨a, e⟩
      · subst e; obtain ⟨a, _, e, _⟩ := hd; exact ⟨a, e⟩
    obtain ⟨a, rfl⟩ := hv
    exact ⟨a, p, rfl, dp, h1, h2, h3, h4, k _ H F ρ (.str p.shown) r (Same.refl _) rfl h⟩
end
/-- a text is itself -/
theorem eqD_self {x : Str} (h : SeqAt.shaped (.str x) = true) : eqD (.str x) (.str x) = some true := by
  have e : PyData.eqv (.str x) (.str x) = true := by simp [PyData.eqv]
  show (bif SeqAt.shaped (.str x) && SeqAt.shaped (.str x) then some (PyData.eqv (.str x) (.str x)) else none) = some true
  rw [h, e]
  rfl
end DL

-- part DL12
set_option maxHeartbeats 4000000
/-! a <= b <= c of ints; zip of two lists or of two tuples -/
namespace DL
open PySem L2 RZ
section
variable {W : Wd} {B : Bs} {F F' H H' : Hp} {σ : St} {ρ : Ev}
/-- a op1 b op2 c of ints -/
theorem re_chainI {ta tb tc : TE} {a b c : DE} {f g : Int → Int → Bool} (ra : RE W B ta a) (rb : RE W B tb b) (rc : RE W B tc c) :
    RE W B (tChain (rI0 fun i j => .bl (f i j)) (rI0 fun i j => .bl (g i j)) ta tb tc) (fun ρ Q => a ρ fun ρ1 x => b ρ1 fun ρ2 y => ∃ i j, x = .int i ∧ y = .int j ∧ ((f i j = true ∧ c ρ2 fun ρ3 z => ∃ k, z = .int k ∧ Q ρ3 (.bl (g j k))) ∨ (f i j = false ∧ Q ρ2 (.bl false)))) := by
  intro σ H F ρ Q R rl h k
  refine ra σ H F ρ _ _ rl h fun x H1 F1 ρ1 dx r1 s1 d1 h1 => ?_
  refine rb σ H1 F1 ρ1 _ _ r1 h1 fun y H2 F2 ρ2 dy r2 s2 d2 h2 => ?_
  obtain ⟨i, j, rfl, rfl, h2⟩ := h2
  have e1 : x = .int i := d1
  have e2 : y = .int j := d2
  refine ⟨i, j, e1, e2, f i j, rfl, ?_⟩
  rcases h2 with ⟨ef, h2⟩ | ⟨ef, h2⟩
  · rw [if_pos ef]
    refine rc σ H2 F2 ρ2 _ _ r2 h2 fun z H3 F3 ρ3 dz r3 s3 d3 h3 => ?_
    obtain ⟨m, rfl, h3⟩ := h3
    have e3 : z = .int m := d3
    exact ⟨j, m, e2, e3, k _ H3 F3 ρ3 (.bl _) r3 ((s1.trans s2).trans s3) rfl h3⟩
  · rw [if_neg (by rw [ef]; exact Bool.false_ne_true)]
    exact k _ H2 F2 ρ2 (.bl false) r2 (s1.trans s2) rfl h2
theorem iter_zipT {a b : Addr} {xs ys : List V} {ds es : List D} (h1 : F a = some (.tup xs)) (h2 : F b = some (.tup ys)) (d1 : DenL W F ds xs) (d2 : DenL W F es ys) :
    Iter W (ItzT W.K a b) F ((ds.zip es).map fun p => .tup [p.1, p.2]) := by
  intro F2 H e1 e2
  have q1 : SqT W.K H a xs := sqT_of (e1.trans e2) h1
  have q2 : SqT W.K H b ys := sqT_of (e1.trans e2) h2
  have l1 := d1.length
  have l2 := d2.length
  refine ⟨⟨xs, ys, q1, q2, ?_⟩, fun i d hi => ?_⟩
  · rw [List.length_map, List.length_zip]
    omega
  · rw [List.getElem?_map] at hi
    cases hz : (ds.zip es)[i]? with
    | none => rw [hz] at hi; cases hi
    | some p =>
      rw [hz] at hi
      cases hi
      obtain ⟨g1, g2⟩ := zip_get hz
      obtain ⟨x, hx, dx⟩ := d1.get g1
      obtain ⟨y, hy, dy⟩ := d2.get g2
      refine ⟨⟨xs, ys, x, y, q1, q2, hx, hy⟩, fun v H' ⟨T, x', y', ev, hT, eH, a1, a2⟩ => ?_⟩
      have ex : x' = x := Option.some.inj ((a1 xs q1).symm.trans hx)
      have ey : y' = y := Option.some.inj ((a2 ys q2).symm.trans hy)
      subst ex ey ev eH
      have st := Stp.one (o := .tup [x', y']) e2 hT
      exact ⟨_, st, ⟨T, _, rfl, upd_same, ⟨_, _, rfl, dx.mono (e1.trans st.ff), ⟨_, _, rfl, dy.mono (e1.trans st.ff), rfl⟩⟩⟩⟩
theorem ri_zipA {ta : TA} {t : DA} (h : RA W B ta t) : RI W B (iZipA W.K ta) (dZip t) := by
  intro σ H F ρ Q R rl hq k
  refine h σ H F ρ _ _ rl hq fun xs H1 F1 ρ1 ds r1 s1 d1 h1 => ?_
  split at h1
  · obtain ⟨u, v, rfl, ⟨a, xs, e1, hs, hd⟩, ⟨b, ys, e2, hs2, hd2⟩⟩ := den2 d1
    subst e1 e2
    exact ⟨a, b, xs, ys, rfl, .inl ⟨same_sqL r1.ex hs, same_sqL r1.ex hs2, k _ H1 F1 ρ1 _ r1 s1 (iter_zipL hs hs2 hd hd2) h1⟩⟩
  · obtain ⟨u, v, rfl, ⟨a, xs, e1, hs, hd⟩, ⟨b, ys, e2, hs2, hd2⟩⟩ := den2 d1
    subst e1 e2
    exact ⟨a, b, xs, ys, rfl, .inr ⟨sqT_of r1.ex hs, sqT_of r1.ex hs2, k _ H1 F1 ρ1 _ r1 s1 (iter_zipT hs hs2 hd hd2) h1⟩⟩
  · exact h1.elim
end
end DL

-- part DL13
set_option maxHeartbeats 4000000
/-! comprehensions and for loops by an invariant; a comprehension that is a map -/
namespace DL
open PySem L2
/-- two states alike but for the slots vs and the counter -/
def Agr (vs : List Nat) (ρ ρ' : Ev) : Prop := ρ'.sl.length = ρ.sl.length ∧ ∀ j, j ∉ vs → ρ'.sl[j]? = ρ.sl[j]?
theorem Agr.refl {vs : List Nat} {ρ : Ev} : Agr vs ρ ρ := ⟨rfl, fun _ _ => rfl⟩
theorem Agr.back {vs : List Nat} {ρ ρ' : Ev} (h : Agr vs ρ ρ') : ρ.back vs ρ' = ρ.cnt ρ'.c := by
  show (⟨resS vs 0 ρ.sl ρ'.sl, ρ'.c⟩ : Ev) = ⟨ρ.sl, ρ'.c⟩
  congr 1
  refine List.ext_getElem? fun i => ?_
  rw [resS_get vs 0 ρ.sl ρ'.sl i h.1, Nat.zero_add]
  split
  · rfl
  · rename_i hc
    exact h.2 i fun hm => hc (by simpa using hm)
theorem lc_inv {g : DG} {tt : DT} {e : DE} {vs : List Nat} {ρ : Ev} {K : Ev → List D → Prop} {ds : List D} (I : Nat → Nat → List D → Prop)
    (step : ∀ k d acc c (T : Ev → D → Prop) (U : Ev → Prop), ds[k]? = some d → I k c acc → (∀ ρ3 y, Agr vs ρ ρ3 → I (k + 1) ρ3.c (acc ++ [y]) → T ρ3 y) → (∀ ρ2, Agr vs ρ ρ2 → I (k + 1) ρ2.c acc → U ρ2) →
      g d ((ρ.cnt c).wipe vs) fun ρ1 => tt ρ1 fun ρ2 b => match b with | true => e ρ2 T | false => U ρ2)
    (hl : ∀ k c acc, k < ds.length → I k c acc → acc.length < sizeLine) (h0 : I 0 ρ.c []) (hK : ∀ c acc, I ds.length c acc → K (ρ.cnt c) acc) : dLcL g tt e vs ds ρ [] K := by
  have go : ∀ m k c acc, k + m = ds.length → I k c acc → dLcL g tt e vs (ds.drop k) (ρ.cnt c) acc K := by
    intro m
    induction m with
    | zero =>
      intro k c acc hk hi
      rw [List.drop_eq_nil_of_le (by omega)]
      have : k = ds.length := by omega
      subst this
      exact hK c acc hi
    | succ m ih =>
      intro k c acc hk hi
      have hlt : k < ds.length := by omega
      rw [List.drop_eq_getElem_cons hlt]
      refine step k ds[k] acc c _ _ (List.getElem?_eq_getElem hlt) hi (fun ρ3 y ha h => ⟨hl k c acc hlt hi, ?_⟩) (fun ρ2 ha h => ?_)
      · have hb : (ρ.cnt c).back vs ρ3 = ρ.cnt ρ3.c := Agr.back (ρ := ρ.cnt c) ha
        rw [hb]
        exact ih (k + 1) _ _ (by omega) h
      · have hb : (ρ.cnt c).back vs ρ2 = ρ.cnt ρ2.c := Agr.back (ρ := ρ.cnt c) ha
        rw [hb]
        exact ih (k + 1) _ _ (by omega) h
  exact go ds.length 0 ρ.c [] (by omega) h0
theorem Agr.setw {i : Nat} {s : Sl} {ρ : Ev} {c : Nat} : Agr [i] ρ (((ρ.cnt c).wipe [i]).set i s) := by
  refine ⟨?_, fun j hj => ?_⟩
  · show ((wipeS ρ.sl [i]).set i s).length = _
    rw [List.length_set, wipeS_length]
  · have hne : i ≠ j := fun e => hj (e ▸ List.mem_singleton.mpr rfl)
    show ((wipeS ρ.sl [i]).set i s)[j]? = _
    rw [List.getElem?_set_ne hne]
    show (wipeS ρ.sl [i])[j]? = _
    unfold wipeS
    rw [List.getElem?_set_ne hne]; rfl
/-- [f(one) for one in ds], where f draws nothing -/
theorem lc_map {i : Nat} {e : DE} {ρ : Ev} {K : Ev → List D → Prop} {ds : List D} (f : D → D) (hs : ds.length ≤ sizeLine)
    (he : ∀ d ∈ ds, ∀ ρ1 Q, Agr [i] ρ ρ1 → ρ1.c = ρ.c → ρ1.sl[i]? = some (.v d) → Q ρ1 (f d) → e ρ1 Q) (hi : i < ρ.sl.length) (hK : K ρ (ds.map f)) : dLcL (dgName i) dYes e [i] ds ρ [] K := by
  refine lc_inv (fun k c acc => c = ρ.c ∧ acc = (ds.take k).map f) (fun k d acc c T U hd hI hT hU => ?_) (fun k c acc hk hI => ?_) ⟨rfl, by rw [List.take_zero]; rfl⟩ (fun c acc hI => ?_)
  · obtain ⟨rfl, rfl⟩ := hI
    have hlt : k < ds.length := by
      rcases Nat.lt_or_ge k ds.length with h | h
      · exact h
      · rw [List.getElem?_eq_none h] at hd; cases hd
    show e (((ρ.cnt ρ.c).wipe [i]).set i (.v d)) T
    refine he d (List.mem_of_getElem? hd) _ _ Agr.setw rfl ?_ (hT _ _ Agr.setw ⟨rfl, ?_⟩)
    · show ((wipeS ρ.sl [i]).set i _)[i]? = _
      rw [List.getElem?_set_self (by rw [wipeS_length]; exact hi)]
    · rw [List.take_add_one, hd, List.map_append]; rfl
  · rw [hI.2, List.length_map, List.length_take]; omega
  · obtain ⟨rfl, rfl⟩ := hI
    rw [List.take_length]; exact hK
/-- for: by an invariant, where the body does not break -/
theorem for_inv {g : DG} {b : DS} {ds : List D} {DD : DEnds} {ρ : Ev} (J : Nat → Ev → Prop)
    (step : ∀ k d ρ (N : Ev → Prop), ds[k]? = some d → J k ρ → (∀ ρ', J (k + 1) ρ' → N ρ') → g d ρ fun ρ1 => b { nx := N, ct := N, bk := DD.nx, rt := DD.rt } ρ1)
    (h0 : J 0 ρ) (hK : ∀ ρ, J ds.length ρ → DD.nx ρ) : dForL g b ds DD ρ := by
  have go : ∀ m k ρ, k + m = ds.length → J k ρ → dForL g b (ds.drop k) DD ρ := by
    intro m
    induction m with
    | zero =>
      intro k ρ hk hi
      rw [List.drop_eq_nil_of_le (by omega)]
      have : k = ds.length := by omega
      subst this
      exact hK ρ hi
    | succ m ih =>
      intro k ρ hk hi
      have hlt : k < ds.length := by omega
      rw [List.drop_eq_getElem_cons hlt]
      exact step k ds[k] ρ _ (List.getElem?_eq_getElem hlt) hi fun ρ' h => ih (k + 1) ρ' (by omega) h
  exact go ds.length 0 ρ (by omega) h0
end DL

-- part ZX1
set_option maxHeartbeats 4000000
/-! zip of two sequences, each a list or a tuple: one turn (the shape follows the kit's zip of two tuples) -/
namespace ZX
open PySem PySem.Spec PyProof.Rows L2
/-- an iterator over a list (true), over a tuple (false) -/
def ItS (k : Bool) (h : Heap) (it l : Addr) (i : Nat) : Prop := match k with
  | true => h.IsListIter it l i
  | false => h.IsTupleIter it l i
def SqS (k : Bool) (h : Heap) (l : Addr) (xs : Array Value) : Prop := match k with
  | true => h.IsList l xs
  | false => h.IsTuple l xs
theorem ItS.ext {k : Bool} {h h' : Heap} {a b l : Addr} {i : Nat} (x : ItS k h a l i) (hs : Heap.ExtBut b h h') (hab : a ≠ b) : ItS k h' a l i := by
  cases k
  · exact Heap.IsTupleIter.extBut x hs hab
  · exact Heap.IsListIter.extBut x hs hab
theorem ItS.at {k : Bool} {h h' : Heap} {a l : Addr} {i : Nat} (x : ItS k h a l i) (e : ∀ o, h.get? a = some o → h'.get? a = some o) : ItS k h' a l i := by
  cases k
  · exact Heap.IsTupleIter.at x e
  · exact Heap.IsListIter.at x e
theorem ItS.get {k : Bool} {h : Heap} {a l : Addr} {i : Nat} (x : ItS k h a l i) : ∃ o, h.get? a = some o ∧ o.data = .fields #[.ref l, .int i 0] := by
  cases k
  · obtain ⟨o, e, _, d⟩ := x; exact ⟨o, e, d⟩
  · obtain ⟨o, e, _, d⟩ := x; exact ⟨o, e, d⟩
theorem SqS.ext {k : Bool} {h h' : Heap} {a b : Addr} {xs : Array Value} (x : SqS k h a xs) (hs : Heap.ExtBut b h h') (hab : a ≠ b) : SqS k h' a xs := by
  cases k
  · exact Heap.IsTuple.extBut x hs hab
  · exact Heap.IsList.extBut x hs hab
section
variable {prog : Program} {w : World} {A : Around} {E : Value → Shared → Prop} {s : Shared}
theorem nextS_item {k : Bool} {it l : Addr} {i : Nat} {items : Array Value} {x : Value} {Q : Value → Shared → Prop} (hit : ItS k s.heap it l i) (hl : SqS k s.heap l items) (hx : items[i]? = some x)
    (hQ : ∀ h', ItS k h' it l (i + 1) → Heap.SameBut it s.heap h' → Q x { s with heap := h' }) : wpAny (model prog w) A (Builtin.SmallTypes.nextOf (.ref it)) Q E s := by
  cases k
  · exact RZ.nextOf_tuple_item hit hl hx hQ
  · exact wpAny_nextOf_list_item hit hl hx hQ
theorem nextS_end {k : Bool} {it l : Addr} {i : Nat} {items : Array Value} {Q : Value → Shared → Prop} (hh : A.handled = none) (hit : ItS k s.heap it l i) (hl : SqS k s.heap l items) (hx : items[i]? = none)
    (hE : ∀ h' e, Heap.ExtBut it s.heap h' → (∃ o, h'.get? e = some o ∧ o.cls = .type "StopIteration") → E (.ref e) { s with heap := h' }) : wpAny (model prog w) A (Builtin.SmallTypes.nextOf (.ref it)) Q E s := by
  cases k
  · exact RZ.nextOf_tuple_end hh hit hl hx hE
  · exact wpAny_nextOf_list_end hh hit hl hx hE
variable {p q : Bool}
/-- the turn's answer: a new pair -/
theorem next_item {z TI TO i1 i2 l1 l2 : Addr} {k1 k2 : Nat} {xs ys : Array Value} {x y a b : Value} {Q : Value → Shared → Prop} (D : ZipApart z TI TO i1 i2 l1 l2)
    (hz : IsZip s.heap z TI TO .none) (hTI : IsPair s.heap TI (.ref i1) (.ref i2)) (hTO : IsPair s.heap TO a b)
    (h1 : ItS p s.heap i1 l1 k1) (h2 : ItS q s.heap i2 l2 k2) (hl1 : SqS p s.heap l1 xs) (hl2 : SqS q s.heap l2 ys) (hx : xs[k1]? = some x) (hy : ys[k2]? = some y)
    (hQ : ∀ h', IsZip h' z TI TO (rawInt s.heap.objs.size) → IsPair h' TO x y → ItS p h' i1 l1 (k1 + 1) → ItS q h' i2 l2 (k2 + 1) → IsPair h' s.heap.objs.size x y → h'.objs.size = s.heap.objs.size + 1 →
      (∀ c o, c ≠ z → c ≠ TO → c ≠ i1 → c ≠ i2 → s.heap.get? c = some o → h'.get? c = some o) → Q (.ref s.heap.objs.size) { s with heap := h' }) :
    wpAny (model prog w) A (Builtin.«zip.__next__» ⟨[.ref z], []⟩) (fun fin s' => ∃ v, fin = .done (.ret v) ∧ Q v s') E s := by
  show wpAny _ _ (field (.ref z) 2 >>= _) _ _ _
  refine wpAny_bind (wpAny_field hz rfl (x := .bool false) rfl ?_)
  show wpAny _ _ (field (.ref z) 3 >>= _) _ _ _
  refine wpAny_bind (wpAny_field hz rfl (x := .ref TI) rfl ?_)
  refine wpAny_bind (wpAny_seqItems hTI rfl ?_)
  show wpAny _ _ (Builtin.SmallTypes.ownedTupleIsFree (.ref z) >>= _) _ _ _
  refine wpAny_bind ?_
  unfold Builtin.SmallTypes.ownedTupleIsFree
  refine wpAny_bind (wpAny_field hz rfl (x := .none) rfl (wpAny_pure ?_))
  simp only [if_true]
  refine wpAny_bind (wpAny_rule ?_)
  refine wpAny_bind (wpAny_field hz rfl (x := .ref TO) rfl ?_)
  refine wpAny_bind (wpAny_setField_rec hz (by simp) fun g1 z1 e1 => ?_)
  replace z1 : IsZip g1 z TI TO .ellipsis := z1
  refine wpAny_bind ?_
  simp only [List.zipIdx_cons, List.zipIdx_nil, List.forIn_cons, List.forIn_nil]
  -- the first iterator
  refine wpAny_bind (wpAny_bind (wpAny_onRaise ?_))
  show wpAny _ _ (Builtin.SmallTypes.nextOf (.ref i1) >>= _) _ _ _
  refine wpAny_bind (nextS_item (h1.ext e1.extBut D.i1z) (hl1.ext e1.extBut D.l1z) hx fun g2 f1 e2 => wpAny_pure ?_)
  have t2 : IsPair g2 TO a b := e2.extBut _ _ D.TOi1 (e1.extBut _ _ D.TOz hTO)
  refine wpAny_bind (wpAny_seqItems t2 rfl ?_)
  refine wpAny_bind (wpAny_updateSeq_pair t2 fun g3 t3 e3 => ?_)
  replace t3 : IsPair g3 TO x b := t3
  refine wpAny_bind (wpAny_letGo (wpAny_pure ?_))
  -- the second
  refine wpAny_bind (wpAny_bind (wpAny_onRaise ?_))
  show wpAny _ _ (Builtin.SmallTypes.nextOf (.ref i2) >>= _) _ _ _
  refine wpAny_bind (nextS_item (((h2.ext e1.extBut D.i2z).ext e2.extBut D.i12.symm).ext e3.extBut D.TOi2.symm) (((hl2.ext e1.extBut D.l2z).ext e2.extBut D.l2i1).ext e3.extBut D.l2TO) hy fun g4 f2 e4 => wpAny_pure ?_)
  have t4 : IsPair g4 TO x b := e4.extBut _ _ D.TOi2 t3
  refine wpAny_bind (wpAny_seqItems t4 rfl ?_)
  refine wpAny_bind (wpAny_updateSeq_pair t4 fun g5 t5 e5 => ?_)
  replace t5 : IsPair g5 TO x y := t5
  refine wpAny_bind (wpAny_letGo (wpAny_pure (wpAny_pure ?_)))
  -- the pair is handed out
  refine wpAny_bind (wpAny_seqItems t5 rfl ?_)
  refine wpAny_bind (wpAny_newTuple ?_)
  have hsz : g5.objs.size = s.heap.objs.size := by rw [e5.1, e4.1, e3.1, e2.1, e1.1]
  have z5 : IsZip g5 z TI TO .ellipsis := e5.extBut _ _ D.TOz.symm (e4.extBut _ _ D.i2z.symm (e3.extBut _ _ D.TOz.symm (e2.extBut _ _ D.i1z.symm z1)))
  have far : ∀ c o, c ≠ z → c ≠ TO → c ≠ i1 → c ≠ i2 → s.heap.get? c = some o → g5.get? c = some o := fun c o c1 c2 c3 c4 e =>
    e5.extBut _ _ c2 (e4.extBut _ _ c4 (e3.extBut _ _ c2 (e2.extBut _ _ c3 (e1.extBut _ _ c1 e))))
  have r1 : ItS p g5 i1 l1 (k1 + 1) := ((f1.ext e3.extBut D.TOi1.symm).ext e4.extBut D.i12).ext e5.extBut D.TOi1.symm
  have r2 : ItS q g5 i2 l2 (k2 + 1) := f2.ext e5.extBut D.TOi2.symm
  have hzlt : z < g5.objs.size := Heap.lt_size z5
  show wpAny _ _ (Builtin.SmallTypes.ownedTupleHandOut (.ref z) (.ref g5.objs.size) >>= _) _ _ _
  refine wpAny_bind ?_
  unfold Builtin.SmallTypes.ownedTupleHandOut
  have z6 : IsZip (g5.push { cls := .type "tuple", data := .seq #[x, y] }) z TI TO .ellipsis := Heap.get?_push_of_some _ z5
  refine wpAny_bind (wpAny_setField_rec z6 (by simp) fun g7 z7 e7 => ?_)
  replace z7 : IsZip g7 z TI TO (rawInt g5.objs.size) := z7
  refine wpAny_setField_rec z7 (by simp) fun g8 z8 e8 => ?_
  replace z8 : IsZip g8 z TI TO (rawInt g5.objs.size) := z8
  have up : ∀ c o, c ≠ z → g5.get? c = some o → g8.get? c = some o := fun c o c1 e => e8.extBut _ _ c1 (e7.extBut _ _ c1 (Heap.get?_push_of_some _ e))
  have t8 : IsPair g8 g5.objs.size x y := e8.extBut _ _ (Nat.ne_of_gt hzlt) (e7.extBut _ _ (Nat.ne_of_gt hzlt) (Heap.get?_push_size _ rfl))
  have s8 : g8.objs.size = g5.objs.size + 1 := by rw [e8.1, e7.1, Heap.size_push]
  rw [hsz] at z8 t8 s8
  refine wpAny_pure ⟨_, rfl, ?_⟩
  show Q (.ref g5.objs.size) _
  rw [hsz]
  exact hQ g8 z8 (up _ _ D.TOz t5) (r1.at fun o e => up _ o D.i1z e) (r2.at fun o e => up _ o D.i2z e) t8 s8 fun c o c1 c2 c3 c4 e => up c o c1 (far c o c1 c2 c3 c4 e)
theorem next_end {z TI TO i1 i2 l1 l2 : Addr} {k1 k2 : Nat} {xs ys : Array Value} {a b : Value} {Q : Fin → Shared → Prop} (hh : A.handled = none) (D : ZipApart z TI TO i1 i2 l1 l2)
    (hz : IsZip s.heap z TI TO .none) (hTI : IsPair s.heap TI (.ref i1) (.ref i2)) (hTO : IsPair s.heap TO a b)
    (h1 : ItS p s.heap i1 l1 k1) (h2 : ItS q s.heap i2 l2 k2) (hl1 : SqS p s.heap l1 xs) (hl2 : SqS q s.heap l2 ys) (hend : xs[k1]? = none ∨ ys[k2]? = none)
    (hE : ∀ h' e, (∀ c o, c ≠ z → c ≠ TO → c ≠ i1 → c ≠ i2 → s.heap.get? c = some o → h'.get? c = some o) → (∃ o, h'.get? e = some o ∧ o.cls = .type "StopIteration") → E (.ref e) { s with heap := h' }) :
    wpAny (model prog w) A (Builtin.«zip.__next__» ⟨[.ref z], []⟩) Q E s := by
  show wpAny _ _ (field (.ref z) 2 >>= _) _ _ _
  refine wpAny_bind (wpAny_field hz rfl (x := .bool false) rfl ?_)
  show wpAny _ _ (field (.ref z) 3 >>= _) _ _ _
  refine wpAny_bind (wpAny_field hz rfl (x := .ref TI) rfl ?_)
  refine wpAny_bind (wpAny_seqItems hTI rfl ?_)
  show wpAny _ _ (Builtin.SmallTypes.ownedTupleIsFree (.ref z) >>= _) _ _ _
  refine wpAny_bind ?_
  unfold Builtin.SmallTypes.ownedTupleIsFree
  refine wpAny_bind (wpAny_field hz rfl (x := .none) rfl (wpAny_pure ?_))
  simp only [if_true]
  refine wpAny_bind (wpAny_rule ?_)
  refine wpAny_bind (wpAny_field hz rfl (x := .ref TO) rfl ?_)
  refine wpAny_bind (wpAny_setField_rec hz (by simp) fun g1 z1 e1 => ?_)
  replace z1 : IsZip g1 z TI TO .ellipsis := z1
  refine wpAny_bind ?_
  simp only [List.zipIdx_cons, List.zipIdx_nil, List.forIn_cons, List.forIn_nil]
  refine wpAny_bind (wpAny_bind (wpAny_onRaise ?_))
  show wpAny _ _ (Builtin.SmallTypes.nextOf (.ref i1) >>= _) _ _ _
  cases hx : xs[k1]? with
  | none =>
    refine wpAny_bind (nextS_end hh (h1.ext e1.extBut D.i1z) (hl1.ext e1.extBut D.l1z) hx fun g2 e e2 ⟨oe, ho, hc⟩ => ?_)
    have z2 : IsZip g2 z TI TO .ellipsis := e2 _ _ D.i1z.symm z1
    have ne : e ≠ z := fun x => by subst x; rw [z2] at ho; cases ho; simp at hc
    refine wpAny_setField_rec z2 (by simp) fun g3 _ e3 => hE g3 e (fun c o c1 _ c3 _ x => e3.extBut _ _ c1 (e2 _ _ c3 (e1.extBut _ _ c1 x))) ⟨oe, e3.extBut _ _ ne ho, hc⟩
  | some x =>
    have hy : ys[k2]? = none := hend.resolve_left (by rw [hx]; exact Option.some_ne_none _)
    refine wpAny_bind (nextS_item (h1.ext e1.extBut D.i1z) (hl1.ext e1.extBut D.l1z) hx fun g2 f1 e2 => wpAny_pure ?_)
    have t2 : IsPair g2 TO a b := e2.extBut _ _ D.TOi1 (e1.extBut _ _ D.TOz hTO)
    refine wpAny_bind (wpAny_seqItems t2 rfl ?_)
    refine wpAny_bind (wpAny_updateSeq_pair t2 fun g3 t3 e3 => ?_)
    refine wpAny_bind (wpAny_letGo (wpAny_pure ?_))
    refine wpAny_bind (wpAny_bind (wpAny_onRaise ?_))
    show wpAny _ _ (Builtin.SmallTypes.nextOf (.ref i2) >>= _) _ _ _
    refine wpAny_bind (nextS_end hh (((h2.ext e1.extBut D.i2z).ext e2.extBut D.i12.symm).ext e3.extBut D.TOi2.symm) (((hl2.ext e1.extBut D.l2z).ext e2.extBut D.l2i1).ext e3.extBut D.l2TO) hy fun g4 e e4 ⟨oe, ho, hc⟩ => ?_)
    have z4 : IsZip g4 z TI TO .ellipsis := e4 _ _ D.i2z.symm (e3.extBut _ _ D.TOz.symm (e2.extBut _ _ D.i1z.symm z1))
    have ne : e ≠ z := fun x => by subst x; rw [z4] at ho; cases ho; simp at hc
    refine wpAny_setField_rec z4 (by simp) fun g5 _ e5 => hE g5 e (fun c o c1 c2 c3 c4 x => e5.extBut _ _ c1 (e4 _ _ c4 (e3.extBut _ _ c2 (e2.extBut _ _ c3 (e1.extBut _ _ c1 x))))) ⟨oe, e5.extBut _ _ ne ho, hc⟩
theorem pyNext_item {z TI TO i1 i2 l1 l2 : Addr} {k1 k2 : Nat} {xs ys : Array Value} {x y a b : Value} {Q : Option Value → Shared → Prop} (D : ZipApart z TI TO i1 i2 l1 l2)
    (hz : IsZip s.heap z TI TO .none) (hTI : IsPair s.heap TI (.ref i1) (.ref i2)) (hTO : IsPair s.heap TO a b)
    (h1 : ItS p s.heap i1 l1 k1) (h2 : ItS q s.heap i2 l2 k2) (hl1 : SqS p s.heap l1 xs) (hl2 : SqS q s.heap l2 ys) (hx : xs[k1]? = some x) (hy : ys[k2]? = some y)
    (hQ : ∀ h', IsZip h' z TI TO (rawInt s.heap.objs.size) → IsPair h' TO x y → ItS p h' i1 l1 (k1 + 1) → ItS q h' i2 l2 (k2 + 1) → IsPair h' s.heap.objs.size x y → h'.objs.size = s.heap.objs.size + 1 →
      (∀ c o, c ≠ z → c ≠ TO → c ≠ i1 → c ≠ i2 → s.heap.get? c = some o → h'.get? c = some o) → Q (some (.ref s.heap.objs.size)) { s with heap := h' }) :
    wpAny (model prog w) A (pyNext (.ref z)) Q E s := by
  have hT : s.TypeIs (.ref z) "zip" := ⟨_, hz, rfl⟩
  unfold pyNext
  exact wpAny_bind (wpAny_attempt (wpAny_callSpecial?_slot (name := Str.ofString "__next__") hT F.slot_zip_next
    (wpAny_call_entry F.slot_zip_next hT F.entry_zip_next
      (next_item D hz hTI hTO h1 h2 hl1 hl2 hx hy fun h' a1 a2 a3 a4 a5 a6 a7 => wpAny_pure (hQ h' a1 a2 a3 a4 a5 a6 a7)) (F.args_zip_next_1 _))))
theorem pyNext_end {z TI TO i1 i2 l1 l2 : Addr} {k1 k2 : Nat} {xs ys : Array Value} {a b : Value} {Q : Option Value → Shared → Prop} (hh : A.handled = none) (D : ZipApart z TI TO i1 i2 l1 l2)
    (hz : IsZip s.heap z TI TO .none) (hTI : IsPair s.heap TI (.ref i1) (.ref i2)) (hTO : IsPair s.heap TO a b)
    (h1 : ItS p s.heap i1 l1 k1) (h2 : ItS q s.heap i2 l2 k2) (hl1 : SqS p s.heap l1 xs) (hl2 : SqS q s.heap l2 ys) (hend : xs[k1]? = none ∨ ys[k2]? = none)
    (hQ : ∀ h', (∀ c o, c ≠ z → c ≠ TO → c ≠ i1 → c ≠ i2 → s.heap.get? c = some o → h'.get? c = some o) → Q none { s with heap := h' }) : wpAny (model prog w) A (pyNext (.ref z)) Q E s := by
  have hT : s.TypeIs (.ref z) "zip" := ⟨_, hz, rfl⟩
  unfold pyNext
  refine wpAny_bind (wpAny_attempt (wpAny_callSpecial?_slot (name := Str.ofString "__next__") hT F.slot_zip_next
    (wpAny_call_entry F.slot_zip_next hT F.entry_zip_next (next_end hh D hz hTI hTO h1 h2 hl1 hl2 hend fun h' e hk ⟨o, ho, hc⟩ => ?_) (F.args_zip_next_1 _))))
  exact wpAny_bind (wpAny_isInstance (T := "StopIteration") (b := true) ⟨o, ho, hc⟩ isSubtype_stop (wpAny_pure (hQ _ hk)))
end
end ZX

-- part ZX2
set_option maxHeartbeats 4000000
/-! zip of two sequences, each a list or a tuple: the making, the iteration -/
namespace ZX
open PySem PySem.Spec PyProof.Rows L2
def itN (k : Bool) : String := match k with
  | true => "list_iterator"
  | false => "tuple_iterator"
abbrev hp1 (p : Bool) (h : Heap) (l1 : Addr) : Heap := h.push { cls := .type (itN p), data := .fields #[.ref l1, .int 0 0] }
abbrev hp2 (p q : Bool) (h : Heap) (l1 l2 : Addr) : Heap := (hp1 p h l1).push { cls := .type (itN q), data := .fields #[.ref l2, .int 0 0] }
abbrev hp3 (p q : Bool) (h : Heap) (l1 l2 : Addr) : Heap := (hp2 p q h l1 l2).push { cls := .type "tuple", data := .seq #[.ref h.objs.size, .ref (hp1 p h l1).objs.size] }
abbrev hp4 (p q : Bool) (h : Heap) (l1 l2 : Addr) : Heap := (hp3 p q h l1 l2).push { cls := .type "tuple", data := .seq #[.none, .none] }
abbrev hp5 (p q : Bool) (h : Heap) (l1 l2 : Addr) : Heap := (hp4 p q h l1 l2).push { cls := .type "zip", data := .fields #[.none, .bool false, .bool false, .ref (hp2 p q h l1 l2).objs.size, .ref (hp3 p q h l1 l2).objs.size] }
theorem meets_new (p q : Bool) (l1 l2 : Addr) (xs ys : Array Value) :
    Meets (Builtin.«zip.__new__» ⟨[.type "zip", .ref l1, .ref l2], []⟩) (fun _ R s => SqS p s.heap l1 xs ∧ SqS q s.heap l2 ys ∧ R (.ok (.ret (.ref (hp4 p q s.heap l1 l2).objs.size))) { s with heap := hp5 p q s.heap l1 l2 }) :=
  .of_wp fun prog w A R s h => by
    obtain ⟨hp, g, d, tk, os⟩ := s
    obtain ⟨hl1, hl2, h⟩ := h
    have hsub := sub_zip
    cases p <;> cases q
    · have hL1 : Heap.IsTuple (Shared.heap ⟨hp, g, d, tk, os⟩) l1 xs := hl1
      have hL2 : Heap.IsTuple (Shared.heap ⟨hp.push { cls := .type "tuple_iterator", data := .fields #[.ref l1, .int 0 0] }, g, d, tk, os⟩) l2 ys := Heap.IsTuple.push hl2 _
      wp_walk using wpAny_pyIter_tuple hL1, wpAny_pyIter_tuple hL2
      exact ⟨_, rfl, h⟩
    · have hL1 : Heap.IsTuple (Shared.heap ⟨hp, g, d, tk, os⟩) l1 xs := hl1
      have hL2 : Heap.IsList (Shared.heap ⟨hp.push { cls := .type "tuple_iterator", data := .fields #[.ref l1, .int 0 0] }, g, d, tk, os⟩) l2 ys := Heap.IsList.push hl2 _
      wp_walk using wpAny_pyIter_tuple hL1, wpAny_pyIter_list hL2
      exact ⟨_, rfl, h⟩
    · have hL1 : Heap.IsList (Shared.heap ⟨hp, g, d, tk, os⟩) l1 xs := hl1
      have hL2 : Heap.IsTuple (Shared.heap ⟨hp.push { cls := .type "list_iterator", data := .fields #[.ref l1, .int 0 0] }, g, d, tk, os⟩) l2 ys := Heap.IsTuple.push hl2 _
      wp_walk using wpAny_pyIter_list hL1, wpAny_pyIter_tuple hL2
      exact ⟨_, rfl, h⟩
    · have hL1 : Heap.IsList (Shared.heap ⟨hp, g, d, tk, os⟩) l1 xs := hl1
      have hL2 : Heap.IsList (Shared.heap ⟨hp.push { cls := .type "list_iterator", data := .fields #[.ref l1, .int 0 0] }, g, d, tk, os⟩) l2 ys := Heap.IsList.push hl2 _
      wp_walk using wpAny_pyIter_list hL1, wpAny_pyIter_list hL2
      exact ⟨_, rfl, h⟩
theorem itS_mk {k : Bool} {h : Heap} {a l : Addr} (e : h.get? a = some { cls := .type (itN k), data := .fields #[.ref l, .int 0 0] }) : ItS k h a l 0 := by
  cases k
  · exact ⟨_, e, rfl, rfl⟩
  · exact ⟨_, e, rfl, rfl⟩
section
variable {prog : Program} {w : World} {A : Around} {E : Value → Shared → Prop} {s : Shared} {p q : Bool}
theorem call_zipS {l1 l2 : Addr} {xs ys : Array Value} {Q : Value → Shared → Prop} (hl1 : SqS p s.heap l1 xs) (hl2 : SqS q s.heap l2 ys)
    (h : ∀ h', IsZip h' (s.heap.objs.size + 4) (s.heap.objs.size + 2) (s.heap.objs.size + 3) .none → IsPair h' (s.heap.objs.size + 2) (.ref s.heap.objs.size) (.ref (s.heap.objs.size + 1)) →
      IsPair h' (s.heap.objs.size + 3) .none .none → ItS p h' s.heap.objs.size l1 0 → ItS q h' (s.heap.objs.size + 1) l2 0 →
      (∀ c o, s.heap.get? c = some o → h'.get? c = some o) → Q (.ref (s.heap.objs.size + 4)) { s with heap := h' }) :
    wpAny (model prog w) A (call (.type "zip") [.ref l1, .ref l2]) Q E s := by
  refine callType_new F.called_zip (by decide) (F.typeCall_zip_2 _ _) (F.newCall_zip_2 _ _) (fun obj => F.args_object_init_3 obj _ _) F.entry_zip_new (meets_new p q l1 l2 xs ys) ⟨hl1, hl2, ?_⟩
  have n1 : (hp1 p s.heap l1).objs.size = s.heap.objs.size + 1 := Heap.size_push ..
  have n2 : (hp2 p q s.heap l1 l2).objs.size = s.heap.objs.size + 2 := by rw [Heap.size_push, n1]
  have n3 : (hp3 p q s.heap l1 l2).objs.size = s.heap.objs.size + 3 := by rw [Heap.size_push, n2]
  have n4 : (hp4 p q s.heap l1 l2).objs.size = s.heap.objs.size + 4 := by rw [Heap.size_push, n3]
  have at5 : (hp5 p q s.heap l1 l2).get? (hp4 p q s.heap l1 l2).objs.size = some _ := Heap.get?_push_size _ rfl
  have at4 : (hp5 p q s.heap l1 l2).get? (hp3 p q s.heap l1 l2).objs.size = some _ := Heap.get?_push_of_some _ (Heap.get?_push_size _ rfl)
  have at3 : (hp5 p q s.heap l1 l2).get? (hp2 p q s.heap l1 l2).objs.size = some _ := Heap.get?_push_of_some _ (Heap.get?_push_of_some _ (Heap.get?_push_size _ rfl))
  have at2 : (hp5 p q s.heap l1 l2).get? (hp1 p s.heap l1).objs.size = some _ := Heap.get?_push_of_some _ (Heap.get?_push_of_some _ (Heap.get?_push_of_some _ (Heap.get?_push_size _ rfl)))
  have at1 : (hp5 p q s.heap l1 l2).get? s.heap.objs.size = some _ := Heap.get?_push_of_some _ (Heap.get?_push_of_some _ (Heap.get?_push_of_some _ (Heap.get?_push_of_some _ (Heap.get?_push_size _ rfl))))
  show _ ∧ _
  rw [n2, n3, n4] at at5
  rw [n1, n2] at at3
  rw [n3] at at4
  rw [n1] at at2
  rw [n4]
  exact ⟨⟨_, at5, rfl⟩, h _ at5 at3 at4 (itS_mk at1) (itS_mk at2) fun c o x =>
    Heap.get?_push_of_some _ (Heap.get?_push_of_some _ (Heap.get?_push_of_some _ (Heap.get?_push_of_some _ (Heap.get?_push_of_some _ x))))⟩
end
end ZX

-- part ZX3
set_option maxHeartbeats 4000000
/-! zip of two sequences, each a list or a tuple: the iteration -/
namespace ZX
open PySem PySem.Spec PyProof.Rows L2
/-- a sequence of the hand layer: a list (true), a tuple (false) -/
def SqH (k : Bool) (K : PySem.W.Frag) (H : Hp) (a : Addr) (xs : List V) : Prop := match k with
  | true => SqL K H a xs
  | false => SqT K H a xs
theorem SqH.inj {X : Cx} {pins : List (Addr × Obj)} {σ : L2.St} {H : Hp} {s : Shared} (I : L2.Inv X pins σ H s) {k : Bool} {a : Addr} {xs ys : List V} (h1 : SqH k X.K H a xs) (h2 : SqH k X.K H a ys) : xs = ys := by
  cases k
  · exact I.tuple_inj h1 h2
  · exact I.list_inj h1 h2
theorem SqH.its {X : Cx} {pins : List (Addr × Obj)} {σ : L2.St} {H : Hp} {s : Shared} (I : L2.Inv X pins σ H s) {k : Bool} {a : Addr} {xs : List V} (h : SqH k X.K H a xs) : ∃ its, Vals xs its ∧ SqS k s.heap a its.toArray ∧ a < s.heap.objs.size := by
  cases k
  · obtain ⟨its, rv, p, _⟩ := I.tuple h
    obtain ⟨o, e, r⟩ := id p
    exact ⟨its, rv, ⟨o, e, r⟩, Heap.lt_size e⟩
  · obtain ⟨its, rv, p, _⟩ := I.list h
    exact ⟨its, rv, p.isList, p.lt⟩
/-- the sequences at a and b as they stand at each turn, the items in new pairs -/
def ItzS (p q : Bool) (K : PySem.W.Frag) (a b : Addr) : It :=
  ⟨fun i H => ∃ (xs ys : List V) (x y : V), SqH p K H a xs ∧ SqH q K H b ys ∧ xs[i]? = some x ∧ ys[i]? = some y,
    fun i H v H' => ∃ T x y, v = .ref T ∧ H T = none ∧ H' = upd H T (.tup [x, y]) ∧ (∀ xs, SqH p K H a xs → xs[i]? = some x) ∧ ∀ ys, SqH q K H b ys → ys[i]? = some y,
    fun i H => ∃ xs ys : List V, SqH p K H a xs ∧ SqH q K H b ys ∧ (xs.length ≤ i ∨ ys.length ≤ i)⟩
theorem turnS {P : Program} {w : World} {K : PySem.W.Frag} {elts : List Expr} {kk : Nat} {tpos : Pos} {p q : Bool} {a b z TI TO i1 i2 : Addr} (D : ZipApart z TI TO i1 i2 a b) :
    Turn P w K (.Tuple elts kk tpos) (ItzS p q K a b) [z, TI, TO, i1, i2] z (fun i h => IsZip h z TI TO .none ∧ IsPair h TI (.ref i1) (.ref i2) ∧ (∃ x y, IsPair h TO x y) ∧ ItS p h i1 a i ∧ ItS q h i2 b i) where
  mem := by simp
  obj := fun i h ⟨hz, hTI, ⟨x, y, hTO⟩, h1, h2⟩ c hc => by
    obtain ⟨o1, e1, d1⟩ := h1.get
    obtain ⟨o2, e2, d2⟩ := h2.get
    have e' : c = z ∨ c = TI ∨ c = TO ∨ c = i1 ∨ c = i2 := by simpa using hc
    rcases e' with rfl | rfl | rfl | rfl | rfl
    · exact ⟨_, hz, fun v q => nomatch q⟩
    · exact ⟨_, hTI, fun v q => nomatch q⟩
    · exact ⟨_, hTO, fun v q => nomatch q⟩
    · exact ⟨o1, e1, fun v q => by rw [d1] at q; cases q⟩
    · exact ⟨o2, e2, fun v q => by rw [d2] at q; cases q⟩
  keep := fun i h h' ⟨hz, hTI, ⟨x, y, hTO⟩, h1, h2⟩ k =>
    ⟨k z (by simp) _ hz, k TI (by simp) _ hTI, ⟨x, y, k TO (by simp) _ hTO⟩, h1.at fun o q => k i1 (by simp) o q, h2.at fun o q => k i2 (by simp) o q⟩
  item := by
    intro X hP hw hK hc i pins s σ H E I hf st hg
    subst hP hw hK
    obtain ⟨hz, hTI, ⟨x0, y0, hTO⟩, h1, h2⟩ := st
    obtain ⟨xs, ys, x, y, hqx, hqy, hx, hy⟩ := hg
    obtain ⟨its, rv, s1, _⟩ := hqx.its I
    obtain ⟨its2, rv2, s2, _⟩ := hqy.its I
    obtain ⟨u, hu, ru⟩ := rv.get hx
    obtain ⟨u2, hu2, ru2⟩ := rv2.get hy
    have hzl : z < s.heap.objs.size := Heap.lt_size hz
    refine pyNext_item D hz hTI hTO h1 h2 s1 s2 (x := u) (y := u2) (by simpa using hu) (by simpa using hu2) fun h' z' TO' h1' h2' hT hsz hk => ?_
    refine ⟨_, rfl, wpAny_letOwnedTupleGo_zip (s := { s with heap := h' }) z' fun h'' z'' sb => ?_⟩
    have hT2 : h''.get? s.heap.objs.size = some { cls := .type "tuple", data := .seq #[u, u2] } := (sb.2 _ (Nat.ne_of_gt hzl)).trans hT
    have new : ObjOk X.prog X.w (upd H s.heap.objs.size (.tup [x, y])) h'' s.heap.objs.size (.tup [x, y]) := ⟨by show 2 ≤ sizeLine; decide, [u, u2], .cons ru (.cons ru2 .nil), ⟨_, hT2, rfl, _, rfl⟩⟩
    have I1 : Inv X pins σ (upd H s.heap.objs.size (.tup [x, y])) { s with heap := h'' } :=
      I.turnedNew (t' := s.toks) (ch := [z, TI, TO, i1, i2]) (fun c o hb q => (sb.2 c (fun q' => hb (by simp [q']))).trans (hk c o (fun q' => hb (by simp [q'])) (fun q' => hb (by simp [q'])) (fun q' => hb (by simp [q'])) (fun q' => hb (by simp [q'])) q)) hf (Nat.le_refl _) new
    refine ⟨.ref s.heap.objs.size, _, I1, rfl, ⟨_, x, y, rfl, I.hok.fresh (Nat.le_refl _), rfl, fun l hl => by rw [SqH.inj I hl hqx]; exact hx, fun l hl => by rw [SqH.inj I hl hqy]; exact hy⟩, ⟨z'', ?_, ⟨u, u2, ?_⟩, ?_, ?_⟩, fun c hcm => ?_⟩
    · exact (sb.2 _ D.TIz).trans (hk _ _ D.TIz D.TITO D.TIi1 D.TIi2 hTI)
    · exact (sb.2 _ D.TOz).trans TO'
    · exact h1'.at fun o q => (sb.2 _ D.i1z).trans q
    · exact h2'.at fun o q => (sb.2 _ D.i2z).trans q
    · have hlt : c < s.heap.objs.size := by
        obtain ⟨_, e1, _⟩ := h1.get
        obtain ⟨_, e2, _⟩ := h2.get
        have e' : c = z ∨ c = TI ∨ c = TO ∨ c = i1 ∨ c = i2 := by simpa using hcm
        rcases e' with rfl | rfl | rfl | rfl | rfl
        · exact hzl
        · exact Heap.lt_size hTI
        · exact Heap.lt_size hTO
        · exact Heap.lt_size e1
        · exact Heap.lt_size e2
      rw [upd_ne (Nat.ne_of_lt hlt)]
      exact (hf c hcm).1
  done := by
    intro X hP hw hK hc i pins s σ H E I hf st hg
    subst hP hw hK
    obtain ⟨hz, hTI, ⟨x0, y0, hTO⟩, h1, h2⟩ := st
    obtain ⟨xs, ys, hqx, hqy, hend⟩ := hg
    obtain ⟨its, rv, s1, _⟩ := hqx.its I
    obtain ⟨its2, rv2, s2, _⟩ := hqy.its I
    have l1 := rv.length
    have l2 := rv2.length
    have he : its.toArray[i]? = none ∨ its2.toArray[i]? = none := by
      rcases hend with q | q
      · exact .inl (by simp; omega)
      · exact .inr (by simp; omega)
    exact pyNext_end (I.ok.hd hc) D hz hTI hTO h1 h2 s1 s2 he fun h' hk => ⟨rfl, I.turnedL (t' := s.toks) (ch := [z, TI, TO, i1, i2]) (fun c o hb q =>
      hk c o (fun q' => hb (by simp [q'])) (fun q' => hb (by simp [q'])) (fun q' => hb (by simp [q'])) (fun q' => hb (by simp [q'])) q) hf⟩
  self := fun A i s Q E st h => wpAny_pyIter_zip st.1 h
/-- zip(x, y), each a list or a tuple -/
def iZipS (K : PySem.W.Frag) (ta : TA) : TI := fun σ H R => ta σ H fun vs H1 => ∃ a b xs ys p q, vs = [.ref a, .ref b] ∧ SqH p K H1 a xs ∧ SqH q K H1 b ys ∧ R (ItzS p q K a b) H1
theorem pi_zipS {X : Cx} {e e2 : Expr} {ta : TA} {pp pos tpos : Pos} {elts : List Expr} {kk : Nat} (hg : Gl X "zip") (hm : X.mg "zip" = none) (ha : PA X [e, e2] ta)
    (hs : starEach [e, e2] X.env = (false, eval e X.env) :: starEach [e2] X.env := by rfl) (hpl : (backTo pos (starEach [e2] X.env)).any (·.1) = false := by rfl) :
    PI X (.Tuple elts kk tpos) (.Call (.Name "zip" pp) [e, e2] [] pos) (iZipS X.K ta) := by
  refine ⟨fun pins s σ H R I h => ?_⟩
  refine Call_ (ld_blt I hg hm PyProof.Rows.boot_zip (PyProof.Rows.callWith_type1 (thn (ha.run pos pins s σ H _ I h) fun us s1 ⟨vs, H1, I1, r1, q1⟩ => ?_) hs hpl))
  obtain ⟨a, b, xs, ys, p, q, ex, hqx, hqy, q1⟩ := q1
  subst ex
  cases r1 with
  | cons r rr =>
    cases rr with
    | cons r' rr =>
      cases rr
      cases r
      cases r'
      have fresh5 : ∀ c, c ∈ [s1.heap.objs.size + 4, s1.heap.objs.size + 2, s1.heap.objs.size + 3, s1.heap.objs.size, s1.heap.objs.size + 1] → FpOk X pins H1 c := fun c hcm => by
        have hle : s1.heap.objs.size ≤ c := by
          simp only [List.mem_cons, List.not_mem_nil, or_false] at hcm
          rcases hcm with z | z | z | z | z <;> rw [z] <;> first | exact Nat.le_refl _ | exact Nat.le_add_right _ _
        exact I1.fpOk hle (I1.hok.fresh hle)
      obtain ⟨its, rv, p1, lt1⟩ := hqx.its I1
      obtain ⟨its2, rv2, p2, lt2⟩ := hqy.its I1
      refine call_zipS p1 p2 fun h' hz hTI hTO h1 h2 hk => wpAny_pyIter_zip hz ?_
      have I2 : Inv X pins σ H1 { s1 with heap := h' } := I1.kept (t' := s1.toks) hk
      exact ⟨s1.heap.objs.size + 4, [s1.heap.objs.size + 4, s1.heap.objs.size + 2, s1.heap.objs.size + 3, s1.heap.objs.size, s1.heap.objs.size + 1], _, _, H1, rfl, I2, turnS (PySem.W.ktu_apart s1.heap.objs.size a b lt1 lt2), ⟨hz, hTI, ⟨_, _, hTO⟩, h1, h2⟩, fresh5, q1⟩
end ZX

-- part DL14
set_option maxHeartbeats 4000000
/-! zip of two sequences, each a list or a tuple: the tree rule; products of large ints -/
namespace DL
open PySem PySem.Spec PyProof.Rows L2 ZX
/-- the members of a list or tuple -/
def rowD : D → Option (List D)
  | .lst xs => some xs
  | .tup xs => some xs
  | _ => none
section
variable {W : Wd} {B : Bs} {F F' H H' : Hp} {σ : L2.St} {ρ : Ev}
theorem SqH.same {k : Bool} {a : Addr} {xs : List V} (e : Same F H) (h : SqH k W.K F a xs) : SqH k W.K H a xs := by
  cases k
  · exact same_sqT e h
  · exact same_sqL e h
theorem iter_zipS {p q : Bool} {a b : Addr} {xs ys : List V} {ds es : List D} (h1 : SqH p W.K F a xs) (h2 : SqH q W.K F b ys) (d1 : DenL W F ds xs) (d2 : DenL W F es ys) :
    Iter W (ItzS p q W.K a b) F ((ds.zip es).map fun p => .tup [p.1, p.2]) := by
  intro F2 H e1 e2
  have q1 : SqH p W.K H a xs := SqH.same (e1.trans e2) h1
  have q2 : SqH q W.K H b ys := SqH.same (e1.trans e2) h2
  have l1 := d1.length
  have l2 := d2.length
  refine ⟨⟨xs, ys, q1, q2, by rw [List.length_map, List.length_zip]; omega⟩, fun i d hi => ?_⟩
  rw [List.getElem?_map] at hi
  cases hz : (ds.zip es)[i]? with
  | none => rw [hz] at hi; cases hi
  | some p =>
    rw [hz] at hi
    cases hi
    obtain ⟨g1, g2⟩ := zip_get hz
    obtain ⟨x, hx, dx⟩ := d1.get g1
    obtain ⟨y, hy, dy⟩ := d2.get g2
    refine ⟨⟨xs, ys, x, y, q1, q2, hx, hy⟩, fun v H' ⟨T, x', y', ev, hT, eH, a1, a2⟩ => ?_⟩
    have ex : x' = x := Option.some.inj ((a1 xs q1).symm.trans hx)
    have ey : y' = y := Option.some.inj ((a2 ys q2).symm.trans hy)
    subst ex ey ev eH
    have st := Stp.one (o := .tup [x', y']) e2 hT
    exact ⟨_, st, ⟨T, _, rfl, upd_same, ⟨_, _, rfl, dx.mono (e1.trans st.ff), ⟨_, _, rfl, dy.mono (e1.trans st.ff), rfl⟩⟩⟩⟩
/-- a list or a tuple, told -/
theorem den_row {d : D} {xs : List D} {v : V} (h : rowD d = some xs) (dv : Den W F d v) : ∃ (k : Bool) (a : Addr) (us : List V), v = .ref a ∧ SqH k W.K F a us ∧ DenL W F xs us := by
  cases d with
  | lst ys =>
    cases h
    obtain ⟨a, us, e, hs, hd⟩ := dv
    exact ⟨true, a, us, e, hs, hd⟩
  | tup ys =>
    cases h
    obtain ⟨a, us, e, hs, hd⟩ := dv
    exact ⟨false, a, us, e, sqT_of (Same.refl _) hs, hd⟩
  | _ => cases h
def dZipS (t : DA) : DI := fun ρ Q => t ρ fun ρ1 ds => match ds with
  | [x, y] => ∃ xs ys, rowD x = some xs ∧ rowD y = some ys ∧ Q ρ1 ((xs.zip ys).map fun p => .tup [p.1, p.2])
  | _ => False
theorem ri_zipS {ta : TA} {t : DA} (h : RA W B ta t) : RI W B (iZipS W.K ta) (dZipS t) := by
  intro σ H F ρ Q R rl hq k
  refine h σ H F ρ _ _ rl hq fun xs H1 F1 ρ1 ds r1 s1 d1 h1 => ?_
  split at h1
  · obtain ⟨u, v, rfl, du, dv⟩ := den2 d1
    obtain ⟨us, vs, hu, hv, h1⟩ := h1
    obtain ⟨p, a, xs, e1, hs, hd⟩ := den_row hu du
    obtain ⟨q, b, ys, e2, hs2, hd2⟩ := den_row hv dv
    subst e1 e2
    exact ⟨a, b, xs, ys, p, q, rfl, SqH.same r1.ex hs, SqH.same r1.ex hs2, k _ H1 F1 ρ1 _ r1 s1 (iter_zipS hs hs2 hd hd2) h1⟩
  · exact h1.elim
end
/-! K named, for the blocks of a comprehension -/
theorem pe_fldK {X : Cx} {K : PySem.W.Frag} {e : Expr} {f : Str} {pos : Pos} {ta : TE} (hK : X.K = K) (he : PE X e ta) (hb : attributeBase e f X.env (eval e X.env) = eval e X.env) : PE X (.Attribute e f pos) (tFld K ta f) := by
  subst hK
  exact pe_fld he hb
theorem pg_tupK {X : Cx} {K : PySem.W.Frag} {pos : Pos} {es : List Expr} {k : Nat} {t : TGs} {n : Nat} (hK : X.K = K) (hc : X.calm = true) (h : PGs X es t)
    (hn : (assignEach es X.env).length = n := by rfl) (hst : (assignEach es X.env).findIdx? (·.1) = none := by rfl) : PG X (.Tuple es k pos) (gTup K n t) := by
  subst hK
  exact pg_tup hc h hn hst
/-- a product that the model makes -/
theorem op_mulW {X : Cx} : OpR X (binaryOp .Mult) (rI PySem.IntMulOk fun i j => .int (i * j)) := opI fun _ _ _ _ _ _ _ hc q => PyProof.Rows.mul_int q hc
theorem intBits_le {i : Int} {n : Nat} (h : i.natAbs < 2 ^ n) : Builtin.Int.intBits i ≤ n := by
  unfold Builtin.Int.intBits
  split
  · exact Nat.zero_le _
  · rename_i h0
    have h1 : i.natAbs ≠ 0 := fun e => h0 (by rw [beq_iff_eq]; omega)
    exact (Nat.log2_lt h1).mpr h
theorem mulOk_of {i j : Int} {m n : Nat} (h1 : i.natAbs < 2 ^ m) (h2 : j.natAbs < 2 ^ n) (h : m + n ≤ 134217728) : PySem.IntMulOk i j := by
  have a := intBits_le h1
  have b := intBits_le h2
  have hb : Builtin.Int.intTooBig ((Builtin.Int.intBits i : Int) + (Builtin.Int.intBits j : Int)) = false := by
    unfold Builtin.Int.intTooBig
    have : ((bitsLine : Nat) : Int) = 134217728 := rfl
    rw [this]
    exact decide_eq_false (by omega)
  unfold PySem.IntMulOk
  rw [hb, Bool.and_false]
  exact Bool.false_ne_true
end DL

-- part DL15
set_option maxHeartbeats 4000000
/-! tuple(x) by pe_tupleOf, K named for the blocks of a comprehension -/
namespace DL
open PySem PySem.Spec PyProof.Rows L2
def gTupTh : D → Ev → (Ev → D → Prop) → Prop := fun x ρ Q => match x with
  | .lst xs => Q ρ (.tup xs)
  | .tup xs => Q ρ (.tup xs)
  | _ => False
theorem re_kTup {W : Wd} {B : Bs} {te : TE} {t : DE} (re : RE W B te t) : RE W B (tThen te (kTup W.K)) (fun ρ Q => t ρ fun ρ1 x => gTupTh x ρ1 Q) := by
  intro σ H F ρ Q R rl h k
  refine re σ H F ρ _ _ rl h fun x H1 F1 ρ1 dx r1 s1 d1 h1 => ?_
  unfold gTupTh at h1
  split at h1
  · obtain ⟨a, xs, rfl, hs, hd⟩ := d1
    refine .inl ⟨a, xs, rfl, same_sqL r1.ex hs, fun l hl => ?_⟩
    have st := Stp.one (o := .tup xs) r1.ex hl
    exact k _ _ _ ρ1 (.tup _) (r1.stp st) (s1.trans st.ff) ⟨l, xs, rfl, upd_same, hd.mono st.ff⟩ h1
  · obtain ⟨a, xs, rfl, hs, hd⟩ := d1
    exact .inr ⟨a, xs, rfl, sqT_of r1.ex hs, k _ H1 F1 ρ1 (.tup _) r1 s1 ⟨a, xs, rfl, hs, hd⟩ h1⟩
  · exact h1.elim
theorem pe_tupleOfK {X : Cx} {K : PySem.W.Frag} {a : Expr} {ta : TE} {p pos : Pos} (hK : X.K = K) (hg : Gl X "tuple") (hm : X.mg "tuple" = none) (ha : PE X a ta) (na : starEach [a] X.env = (false, eval a X.env) :: starEach [] X.env := by rfl) :
    PE X (.Call (.Name "tuple" p) [a] [] pos) (tThen ta (kTup K)) := by
  subst hK
  exact pe_tupleOf hg hm ha na
end DL

-- part K00C
set_option maxHeartbeats 4000000
/-! K00: kept, _law_as_kept -/
namespace DL
namespace K00
open PySem PySem.Spec PyProof.Rows L2
def isLst : D → Option Bool
  | .non => some false | .bl _ => some false | .int _ => some false | .str _ => some false | .lst _ => some true | .tup _ => some false | .dik _ _ => some false | _ => none
def isTup : D → Option Bool
  | .non => some false | .bl _ => some false | .int _ => some false | .str _ => some false | .lst _ => some false | .tup _ => some true | .dik _ _ => some false | _ => none
theorem kok_lst {W : Wd} : KOk W isLst (.type "list") := fun d b h => by
  cases d <;> cases h <;> exact ⟨_, rfl, by kernel_rfl, fun F H v e dv => tyx_of e dv rfl⟩
theorem kok_tup {W : Wd} : KOk W isTup (.type "tuple") := fun d b h => by
  cases d <;> cases h <;> exact ⟨_, rfl, by kernel_rfl, fun F H v e dv => tyx_of e dv rfl⟩
mutual
def keptD : D → D
  | .lst xs => .tup (keptL xs)
  | .tup xs => .tup (keptL xs)
  | d => d
def keptL : List D → List D
  | [] => []
  | x :: xs => keptD x :: keptL xs
end
def okK : Nat → D → Bool
  | 0, _ => false
  | n + 1, .lst xs => xs.all (okK n) && decide (xs.length ≤ 1000)
  | n + 1, .tup xs => xs.all (okK n) && decide (xs.length ≤ 1000)
  | _ + 1, .non => true
  | _ + 1, .bl _ => true
  | _ + 1, .int _ => true
  | _ + 1, .str _ => true
  | _ + 1, .dik _ _ => true
  | _, _ => false
def gK (n : Nat) : GF := fun ds c Q => ∃ x, ds = [x] ∧ okK n x = true ∧ Q (keptD x) c
abbrev sKept : Stmt := topS 12
abbrev sAk : Stmt := topS 22
theorem scK : FnScope ["value", "one"] ["value"] (defScope sKept) := ⟨rfl, rfl, rfl, by decide +kernel, rfl, by decide +kernel, by decide +kernel⟩
theorem scA : FnScope ["value", "one"] ["value"] (defScope sAk) := ⟨rfl, rfl, rfl, by decide +kernel, rfl, by decide +kernel, by decide +kernel⟩
theorem lc_kept {n i : Nat} {e : DE} {K : Ev → List D → Prop} (he : ∀ ρ d Q, ρ.sl[i]? = some (.v d) → okK n d = true → Q ρ (keptD d) → e ρ Q) :
    ∀ (ds : List D) (ρ : Ev) (acc : List D), i < ρ.sl.length → acc.length + ds.length ≤ sizeLine → ds.all (okK n) = true → (∀ ρ', ρ'.c = ρ.c → ρ'.sl.length = ρ.sl.length → K ρ' (acc ++ keptL ds)) → dLcL (dgName i) dYes e [i] ds ρ acc K
  | [], ρ, acc, hi, hl, ho, k => by
    show K ρ acc
    have := k ρ rfl rfl
    rw [show keptL [] = [] from by unfold keptL; rfl, List.append_nil] at this
    exact this
  | d :: ds, ρ, acc, hi, hl, ho, k => by
    show e ((ρ.wipe [i]).set i (.v d)) _
    have hlen : ((ρ.wipe [i]).set i (.v d)).sl.length = ρ.sl.length := by
      show ((wipeS ρ.sl [i]).set i _).length = _
      rw [List.length_set, wipeS_length]
    rw [List.all_cons, Bool.and_eq_true] at ho
    refine he _ d _ ?_ ho.1 ⟨by rw [List.length_cons] at hl; omega, ?_⟩
    · show ((wipeS ρ.sl [i]).set i _)[i]? = _
      rw [List.getElem?_set_self (by rw [wipeS_length]; exact hi)]
    · have hb : (ρ.back [i] ((ρ.wipe [i]).set i (.v d))).sl.length = ρ.sl.length := resS_length [i] 0 ρ.sl _ hlen
      refine lc_kept he ds _ _ (by rw [hb]; exact hi) (by rw [List.length_append, List.length_cons] at *; simp only [List.length_nil] at *; omega) ho.2 fun ρ' h1 h2 => ?_
      rw [List.append_assoc]
      have := k ρ' h1 (h2.trans hb)
      rw [show keptL (d :: ds) = keptD d :: keptL ds from by conv => lhs; unfold keptL] at this
      exact this
section
variable {P : Program} {w : World} {K : PySem.W.Frag} {mg : Str → Option Value} {base : Heap} {cls : Str → Option Addr}
theorem ok_kept {f : Addr} {fd : FuncData} (FK : Fun K "kept" "kept" sKept f fd) (bK : Binds K fd ["value"] []) (gK_ : mg "kept" = some (.ref f)) (m_isinstance : mg "isinstance" = none) (m_list : mg "list" = none) (m_tuple : mg "tuple" = none) :
    ∀ n, FnOk P w K mg base CX0 n f fd ["value"] (spD K cls (gK n))
  | 0 => ⟨fun vs H Q E h => len_of (n := 1) (fun ds c QD ⟨m, e, _⟩ => by rw [e]; rfl) h, fun _ _ _ _ _ _ _ _ _ _ _ _ _ ⟨_, _, _, _, _, _, _, _, ⟨_, _, z, _⟩, _⟩ => by cases z⟩
  | n + 1 => by
    have GK := ok_kept FK bK gK_ m_isinstance m_list m_tuple n
    refine FK.ok scK (fun vs H Q E h => len_of (n := 1) (fun ds c QD ⟨m, e, _⟩ => by rw [e]; rfl) h) (fun cdv A outer s H vs Q E hrk h => ?_)
    refine ⟨_, (pss_one (ps_ret (pe_ifExp (pt_val (pe_callB call_isiT (by rfl) m_isinstance (by decide +kernel) (pa_cons (pv 0) (pa_cons (pe_tup (pa_cons (pe_bltn (by rfl) m_list (by decide +kernel) (v := .ty "list") rfl) (pa_cons (pe_bltn (by rfl) m_tuple (by decide +kernel) (v := .ty "tuple") rfl) pa_nil))) pa_nil)))) (pe_tupleOf (by rfl) m_tuple (pe_lc rfl scK.nd (pi_seq (pv 0)) (own := [("one", 1)]) (blkOk_by rfl) (fun _ _ _ _ _ => (pg_name (i := 1) scK.nd rfl (.inl rfl))) (fun _ _ _ _ _ => pts_nil) (fun _ _ _ _ _ => (pe_call GK (by exact hrk) (by rfl) gK_ FK.kp bK .nil pass0 (pa_cons (pv 1) pa_nil))))) (pv 0)))), body_of (fun pw B hio => (rs_ret (re_if (rt_B (re_isi2 (re_val (i := 0)) (.ty "list") (.ty "tuple") (k1 := isLst) (k2 := isTup) kok_lst kok_tup)) (re_kTup (RN.re (rn_lc (is := [1]) (vs := [1]) (ri_seq (re_var (i := 0) hio)) (fun B hb => by have hio := hb.trans hio; exact (rg_name (i := 1))) (fun B hb => by have hio := hb.trans hio; exact rt_yes) (fun B hb => by have hio := hb.trans hio; exact (re_call (E := E0) (ra_cons (re_var (i := 1) hio) ra_nil))) (fun _ h => h)))) (re_var (i := 0) hio)))) ?_ h⟩
    rintro ds c QD ⟨x, rfl, ho, q⟩
    refine ⟨by show 1 ≤ 2; decide, ?_⟩
    have seq : ∀ xs : List D, (xs.all (okK n) && decide (xs.length ≤ 1000)) = true → ∀ (ρ : Ev), ρ.sl.length = 2 → ρ.c = c → QD (.tup (keptL xs)) c →
        dLcL (dgName 1) dYes (dCall (gK n) (dCons (dVar 1) dNil)) [1] xs ρ [] (fun ρ2 acc => QD (.tup acc) ρ2.c) := fun xs hx ρ hl hc hq => by
      rw [Bool.and_eq_true] at hx
      have hx2 := of_decide_eq_true hx.2
      refine lc_kept (fun ρ d Q h1 h2 h3 => ?_) xs ρ [] (by rw [hl]; decide) (by show 0 + _ ≤ sizeLine; rw [sizeLine_eq]; omega) hx.1 fun ρ' e1 _ => ?_
      · have : dVar 1 ρ (fun ρ1 x => gK n [x] ρ1.c fun d c' => Q (ρ1.cnt c') d) := by
          unfold dVar
          rw [h1]
          exact ⟨d, rfl, h2, h3⟩
        exact this
      · rw [e1, hc]; exact hq
    have ek : ∀ d : D, keptD d = match d with | .lst xs => .tup (keptL xs) | .tup xs => .tup (keptL xs) | d => d := fun d => by cases d <;> (conv => lhs; unfold keptD)
    rw [ek] at q
    cases x with
    | non => exact ⟨false, false, rfl, rfl, q⟩
    | bl b => exact ⟨false, false, rfl, rfl, q⟩
    | int i => exact ⟨false, false, rfl, rfl, q⟩
    | str z => exact ⟨false, false, rfl, rfl, q⟩
    | lst xs => exact ⟨true, false, rfl, rfl, rfl, seq xs ho _ rfl rfl q⟩
    | tup xs => exact ⟨false, true, rfl, rfl, rfl, seq xs ho _ rfl rfl q⟩
    | obj _ _ _ => cases ho
    | dik _ _ => exact ⟨false, false, rfl, rfl, q⟩
    | exc _ _ _ => cases ho
    | dic _ _ => cases ho
    | opq _ => cases ho
    | well => cases ho
theorem ok_ak {f : Addr} {fd : FuncData} (FK : Fun K "_law_as_kept" "_law_as_kept" sAk f fd) (bK : Binds K fd ["value"] []) (gK_ : mg "_law_as_kept" = some (.ref f)) (m_isinstance : mg "isinstance" = none) (m_list : mg "list" = none) (m_tuple : mg "tuple" = none) :
    ∀ n, FnOk P w K mg base CX0 n f fd ["value"] (spD K cls (gK n))
  | 0 => ⟨fun vs H Q E h => len_of (n := 1) (fun ds c QD ⟨m, e, _⟩ => by rw [e]; rfl) h, fun _ _ _ _ _ _ _ _ _ _ _ _ _ ⟨_, _, _, _, _, _, _, _, ⟨_, _, z, _⟩, _⟩ => by cases z⟩
  | n + 1 => by
    have GK := ok_ak FK bK gK_ m_isinstance m_list m_tuple n
    refine FK.ok scA (fun vs H Q E h => len_of (n := 1) (fun ds c QD ⟨m, e, _⟩ => by rw [e]; rfl) h) (fun cdv A outer s H vs Q E hrk h => ?_)
    refine ⟨_, (pss_one (ps_ret (pe_ifExp (pt_val (pe_callB call_isiT (by rfl) m_isinstance (by decide +kernel) (pa_cons (pv 0) (pa_cons (pe_tup (pa_cons (pe_bltn (by rfl) m_list (by decide +kernel) (v := .ty "list") rfl) (pa_cons (pe_bltn (by rfl) m_tuple (by decide +kernel) (v := .ty "tuple") rfl) pa_nil))) pa_nil)))) (pe_tupleOf (by rfl) m_tuple (pe_lc rfl scA.nd (pi_seq (pv 0)) (own := [("one", 1)]) (blkOk_by rfl) (fun _ _ _ _ _ => (pg_name (i := 1) scA.nd rfl (.inl rfl))) (fun _ _ _ _ _ => pts_nil) (fun _ _ _ _ _ => (pe_call GK (by exact hrk) (by rfl) gK_ FK.kp bK .nil pass0 (pa_cons (pv 1) pa_nil))))) (pv 0)))), body_of (fun pw B hio => (rs_ret (re_if (rt_B (re_isi2 (re_val (i := 0)) (.ty "list") (.ty "tuple") (k1 := isLst) (k2 := isTup) kok_lst kok_tup)) (re_kTup (RN.re (rn_lc (is := [1]) (vs := [1]) (ri_seq (re_var (i := 0) hio)) (fun B hb => by have hio := hb.trans hio; exact (rg_name (i := 1))) (fun B hb => by have hio := hb.trans hio; exact rt_yes) (fun B hb => by have hio := hb.trans hio; exact (re_call (E := E0) (ra_cons (re_var (i := 1) hio) ra_nil))) (fun _ h => h)))) (re_var (i := 0) hio)))) ?_ h⟩
    rintro ds c QD ⟨x, rfl, ho, q⟩
    refine ⟨by show 1 ≤ 2; decide, ?_⟩
    have seq : ∀ xs : List D, (xs.all (okK n) && decide (xs.length ≤ 1000)) = true → ∀ (ρ : Ev), ρ.sl.length = 2 → ρ.c = c → QD (.tup (keptL xs)) c →
        dLcL (dgName 1) dYes (dCall (gK n) (dCons (dVar 1) dNil)) [1] xs ρ [] (fun ρ2 acc => QD (.tup acc) ρ2.c) := fun xs hx ρ hl hc hq => by
      rw [Bool.and_eq_true] at hx
      have hx2 := of_decide_eq_true hx.2
      refine lc_kept (fun ρ d Q h1 h2 h3 => ?_) xs ρ [] (by rw [hl]; decide) (by show 0 + _ ≤ sizeLine; rw [sizeLine_eq]; omega) hx.1 fun ρ' e1 _ => ?_
      · have : dVar 1 ρ (fun ρ1 x => gK n [x] ρ1.c fun d c' => Q (ρ1.cnt c') d) := by
          unfold dVar
          rw [h1]
          exact ⟨d, rfl, h2, h3⟩
        exact this
      · rw [e1, hc]; exact hq
    have ek : ∀ d : D, keptD d = match d with | .lst xs => .tup (keptL xs) | .tup xs => .tup (keptL xs) | d => d := fun d => by cases d <;> (conv => lhs; unfold keptD)
    rw [ek] at q
    cases x with
    | non => exact ⟨false, false, rfl, rfl, q⟩
    | bl b => exact ⟨false, false, rfl, rfl, q⟩
    | int i => exact ⟨false, false, rfl, rfl, q⟩
    | str z => exact ⟨false, false, rfl, rfl, q⟩
    | lst xs => exact ⟨true, false, rfl, rfl, rfl, seq xs ho _ rfl rfl q⟩
    | tup xs => exact ⟨false, true, rfl, rfl, rfl, seq xs ho _ rfl rfl q⟩
    | obj _ _ _ => cases ho
    | dik _ _ => exact ⟨false, false, rfl, rfl, q⟩
    | exc _ _ _ => cases ho
    | dic _ _ => cases ho
    | opq _ => cases ho
    | well => cases ho
end
end K00
end DL

-- part EX1
set_option maxHeartbeats 4000000
/-! super().__init__(..) in the __init__ of an exception class that stands below ValueError -/
namespace DL
open PySem PySem.Spec PyProof.Rows L2
section
open PySem.ESX PySem.W
abbrev bwV (x : Addr) : Obj := { cls := .type "method-wrapper", dict := none, data := .fields #[.builtin "ValueError.__init__", .ref x], slots := #[] }
theorem type_vi : typeOf (.builtin "ValueError.__init__") = pure (.type "wrapper_descriptor") := by show builtinType _ = _; rw [builtinType_eq_fast]; kernel_rfl
theorem nacV : (kfb_private% "nameAndClass") (Value.builtin "ValueError.__init__") = (pure (("__init__" : Str), Value.type "ValueError") : Sem (Str × Value)) := by kernel_rfl
variable {prog : Program} {w : World} {M : Model} {A : Around} {E : Value → Shared → Prop} {h : Heap} {g : Array GenState} {d : Drawn} {t : Nat} {os : OsState}
theorem run_wdV {x C : Addr} {P : Fin → Shared → Prop} (hin : W.Looks M h (isInstance (.ref x) (.type "ValueError")) true) (hq : P (.done (.ret (.ref h.objs.size))) ⟨h.push (bwV x), g, d, t, os⟩) :
    wpAny M A (Builtin.«wrapper_descriptor.__get__» ⟨[.builtin "ValueError.__init__", .ref x, .ref C], []⟩) P E ⟨h, g, d, t, os⟩ := by
  unfold Builtin.«wrapper_descriptor.__get__»
  refine wpAny_bind (wpAny_of_eq (a := (.builtin "ValueError.__init__", some (.ref x), some (.ref C))) (by first | rfl | kernel_rfl) ?_)
  show wpAny M A ((kfb_private% "checkInstance") (.builtin "ValueError.__init__") (.ref x) >>= fun _ => newFields "method-wrapper" [.builtin "ValueError.__init__", .ref x] >>= fun r => ret r) P E _
  refine wpAny_bind ?_
  show wpAny M A ((kfb_private% "nameAndClass") (.builtin "ValueError.__init__") >>= _) _ E _
  refine wpAny_bind (wpAny_of_eq nacV ?_)
  show wpAny M A (isInstance (.ref x) (.type "ValueError") >>= _) _ E _
  refine wpAny_bind (hin.at ?_)
  refine KFB.if_not rfl ?_
  refine wpAny_pure ?_
  exact wpAny_bind (wpAny_newObj_type (wpAny_pure hq))
theorem super_gaV {so D x C : Addr} {l₀ l : List Value} {K : Frag} {name : Str} {tk : Tok} {Q : Fin → Shared → Prop}
    (hso : h.get? so = some { cls := .type "super", dict := none, data := .fields #[.ref D, .ref x, .ref C], slots := #[] }) (hno : W.Looks (model prog w) h (opaqueClassAbove (.ref C)) none)
    (hC : W.Looks (model prog w) h (mroOf (.ref C)) l₀) (hl : (l₀.dropWhile (· != .ref D)).drop 1 = l) (X : K.In h)
    (hf : alongIn K name l = some (some (.builtin "ValueError.__init__"))) (hxC : x ≠ C) (hn : (name == ("__class__" : Str)) = false) (hin : W.Looks (model prog w) h (isInstance (.ref x) (.type "ValueError")) true)
    (hq : Q (.done (.ret (.ref h.objs.size))) ⟨h.push (bwV x), g, d, t, os⟩) :
    wpAny (model prog w) A (Builtin.«super.__getattribute__» ⟨[.ref so, .str name tk], []⟩) Q E ⟨h, g, d, t, os⟩ := by
  have hlk := slot_wd.lookup
  have hne : (Value.ref x == Value.ref C) = false := by simp [hxC]
  have hTf := type_vi
  have hTi : Shared.TypeIs ⟨h, g, d, t, os⟩ (.builtin "ValueError.__init__") "wrapper_descriptor" := type_vi
  have hdt : ({ cls := .type "super", dict := none, data := .fields #[.ref D, .ref x, .ref C], slots := #[] } : Obj).data = .fields #[.ref D, .ref x, .ref C] := rfl
  have f0 : (#[.ref D, .ref x, .ref C] : Array Value)[0]? = some (.ref D) := rfl
  have f1 : (#[.ref D, .ref x, .ref C] : Array Value)[1]? = some (.ref x) := rfl
  have f2 : (#[.ref D, .ref x, .ref C] : Array Value)[2]? = some (.ref C) := rfl
  unfold Builtin.«super.__getattribute__»
  repeat (first
    | (with_reducible refine wpAny_field hso hdt f0 ?_) | (with_reducible refine wpAny_field hso hdt f1 ?_) | (with_reducible refine wpAny_field hso hdt f2 ?_)
    | (with_reducible refine ks_wpAny_notOpaque hno ?_)
    | (with_reducible refine Looks.at hC ?_; rw [hl])
    | (refine ks_forIn_along X (fun _ _ => rfl) rfl ?_ hf)
    | (with_reducible refine wpAny_call_entry slot_wd hTi entry_wd ?_ (args_wd _ _ _))
    | (with_reducible refine run_wdV hin ?_)
    | (with_reducible refine ⟨_, rfl, ?_⟩)
    | (simp only [hn, hne, Bool.or_false, Bool.false_eq_true, if_false])
    | wp_step
    | dsimp only)
  all_goals exact hq
theorem getMethod_superV {so D x C : Addr} {l₀ l : List Value} {K : Frag} {name : Str} {pl : Sem Bool} {Q : Value × List Value → Shared → Prop}
    (hso : h.get? so = some { cls := .type "super", dict := none, data := .fields #[.ref D, .ref x, .ref C], slots := #[] }) (hno : W.Looks (model prog w) h (opaqueClassAbove (.ref C)) none)
    (hC : W.Looks (model prog w) h (mroOf (.ref C)) l₀) (hl : (l₀.dropWhile (· != .ref D)).drop 1 = l) (X : K.In h)
    (hf : alongIn K name l = some (some (.builtin "ValueError.__init__"))) (hxC : x ≠ C) (hn : (name == ("__class__" : Str)) = false) (hin : W.Looks (model prog w) h (isInstance (.ref x) (.type "ValueError")) true)
    (hq : Q (.ref h.objs.size, []) ⟨h.push (bwV x), g, d, t + 1, os⟩) :
    wpAny (model prog w) A (getMethod (.ref so) name pl) Q E ⟨h, g, d, t, os⟩ := by
  have hlk := F.ks_slot_super_ga.lookup
  have hcan := F.ks_canon_super_ga
  have hT : ∀ t', (⟨h, g, d, t', os⟩ : Shared).TypeIs (.ref so) "super" := fun _ => ⟨_, hso, rfl⟩
  unfold getMethod
  refine wpAny_bind (wpAny_specialOf (hT _) hlk ?_)
  show wpAny _ _ (if (Manifest.canonical "super.__getattribute__" != "object.__getattribute__") = true then _ else _) _ _ _
  rw [if_pos hcan]
  unfold getAttr getAttrBy
  refine wpAny_bind (wpAny_bind (wpAny_mkText (wpAny_holding (wpAny_bind (wpAny_typeOf (hT _) (wpAny_bind (wpAny_of_eq hlk ?_)))))))
  show wpAny _ _ (getAttrByItsOwn (.ref so) (.str name t) (.type "super") (.builtin "super.__getattribute__") true false) _ _ _
  unfold getAttrByItsOwn hookBefore callGetattribute boundAndCalled
  refine wpAny_bind (wpAny_of_eq (show (if onTheHeap (.type "super") then typeLookup (.type "super") "__getattr__" else pure none) = pure none from rfl) ?_)
  refine wpAny_bind (wpAny_attempt (wpAny_holding ?_))
  show wpAny _ _ (bindSpecial (.builtin "super.__getattribute__") (.ref so) >>= _) _ _ _
  refine wpAny_bind (wpAny_of_eq (F.ks_slot_super_ga.bind _) ?_)
  refine wpAny_mono (Q := fun v s' => v = .ref h.objs.size ∧ s' = ⟨h.push (bwV x), g, d, t + 1, os⟩) (E := fun _ _ => False)
    (wpAny_call_entry F.ks_slot_super_ga (hT _) F.ks_entry_super_ga (super_gaV hso hno hC hl X hf hxC hn hin ⟨_, rfl, rfl, rfl⟩) (F.ks_gaArgs_super _ _)) (fun v s' hv => ?_) fun _ _ z => z.elim
  obtain ⟨rfl, rfl⟩ := hv
  exact wpAny_pure (wpAny_pure hq)
end
section
open PySem.ESX PySem.W PySem.Calls
variable {prog : Program} {w : World} {M : Model} {A : Around} {E : Value → Shared → Prop} {s : Shared}
theorem callWith_bwV {pos : Pos} {u x : Addr} {first : List Value} {args : List (Bool × Sem Value)} {Q : Value → Shared → Prop} (hplain : args.any (·.1) = false)
    (h : wpAny M A (evalArgs (.ref u) true args []) (fun a s₁ => s₁.heap.get? u = some (bwV x) ∧ wpAny M A (call (.ref u) (first ++ a.pos) a.kw) Q E s₁) E s) : wpAny M A (callWith pos (.ref u) first args []) Q E s := by
  unfold callWith
  refine wpAny_bind (wpAny_holding (wpAny_mono h (fun a s₁ h₁ => wpAny_bind (wpAny_standAt ?_)) fun _ _ x => x))
  obtain ⟨ho, hcall⟩ := h₁
  simp only [hplain, List.any_nil, Bool.or_false]
  refine wpAny_bind (m := keeperOf (.ref u)) ?_
  unfold keeperOf
  refine wpAny_bind (wpAny_load ho ?_)
  simp only [bwV, show (Value.type "method-wrapper" != Value.type "method") = true by decide, show (Value.type "method-wrapper" == Value.type "builtin_function_or_method" || Value.type "method-wrapper" == Value.type "method-wrapper") = true by decide, if_true]
  refine wpAny_pure ?_
  exact wpAny_bind (wpAny_mono hcall (fun r s₂ hr => wpAny_bind (wpAny_holding (wpAny_point (wpAny_pure hr)))) fun _ _ x => x)
theorem callWith_boundV {pos : Pos} {u x : Addr} {first : List Value} {env : Env} {e : Expr} {rest : List Expr} {Q : Value → Shared → Prop}
    (h : wpAny M A (spliced (backTo pos (starEach (e :: rest) env))) (fun vs s₁ => s₁.heap.get? u = some (bwV x) ∧ wpAny M A (call (.ref u) (first ++ vs)) Q E s₁) E s)
    (he : starEach (e :: rest) env = (false, eval e env) :: starEach rest env) (hplain : (backTo pos (starEach rest env)).any (·.1) = false) :
    wpAny M A (callWith pos (.ref u) first (backTo pos (starEach (e :: rest) env)) []) Q E s := by
  rw [he] at h ⊢
  refine callWith_bwV (x := x) (by show (false || (backTo pos (starEach rest env)).any (·.1)) = false; rw [hplain]; rfl) ?_
  exact evalArgs_plain h
end
section
open PySem.ESX
variable {prog : Program} {w : World} {A : Around} {E : Value → Shared → Prop} {h : Heap} {g : Array GenState} {d : Drawn} {t : Nat} {os : OsState}
variable {nm q : Str} {C N : Addr} {bs bm : List Value} {hdct : Bool} {sn : List Str} {sub : List Value} {ab : Bool} {col : Option Bool} {dd : Option Addr} {k0 k1 k2 k3 k5 : Option Value}
theorem call_bwV {u e t0 : Addr} {rest : List Value} {Q : Value → Shared → Prop}
    (hC : h.get? C = some (excClassObj nm q C N bs bm hdct sn sub ab col dd k0 k1 k2 k3 k5 "ValueError.__new__")) (he : h.get? e = some (HandSPX.excO C t0)) (hu : h.get? u = some (bwV e)) (hrest : rest.length ≤ sizeLine)
    (hq : ∀ h' t1, (∀ b o, b ≠ e → h.get? b = some o → h'.get? b = some o) → h'.get? e = some (HandSPX.excO C t1) → Q .none ⟨h', g, d, t, os⟩) :
    wpAny (model prog w) A (call (.ref u) rest) Q E ⟨h, g, d, t, os⟩ := by
  refine wpAny_call (codeAny_of_tree ?_)
  show wpAny _ A.in1 (callAny (.ref u) ⟨rest, []⟩) _ _ _
  simp only [callAny]
  refine wpAny_bind (wpAny_load hu ?_)
  simp only [bwV, show (Value.type "method-wrapper" == Value.type "method" || Value.type "method-wrapper" == Value.type "builtin_function_or_method" || Value.type "method-wrapper" == Value.type "method-wrapper") = true by decide, if_true]
  refine W.KFB.if_so (by decide) ?_
  refine wpAny_bind (check_bound F.excBase_ValueError hC he rfl ?_)
  refine wpAny_bind (wpAny_pure (wpAny_pure ?_))
  refine ⟨Code.quiet_builtin _ (by decide +kernel), codeAny_builtin F.excBase_ValueError.initEntry ?_⟩
  rw [Around.under_plainId F.excBase_ValueError.init.plain _]
  wp_walk
  refine hq _ h.objs.size (fun b o hb ho => ?_) ?_
  · rw [Heap.get?_update_other _ _ (Ne.symm hb)]
    exact Heap.get?_push_of_some _ ho
  · rw [Heap.get?_update_self _ (Heap.get?_push_of_some _ he) rfl]
    rfl
end
/-- super().__init__(..): above the def's class D stands ValueError's own; nothing is told of it -/
def tSupE (K : PySem.W.Frag) (D : Addr) (t : TA) : TS := fun DD σ H => ∃ x C, σ[0]? = some (some (.ref x)) ∧ H x = some (exo x C none) ∧ OexC K C ∧ PySem.W.mroIn K C (.ref D) = some true ∧ PySem.W.mroIn K C (.type "ValueError") = some true ∧
  PySem.W.ks_superIn K C D "__init__" = some (some (.builtin "ValueError.__init__")) ∧ t σ H fun vs H1 => vs.length ≤ 1000 ∧ H1 x = some (exo x C none) ∧ DD.nx σ H1
section
variable {X : Cx} {CX : CXT} {f cda cc D : Addr} {slf : Str} {fd : FuncData} {ar : Arg} {vs : Array Value} {file : Str} {tf : Tok} {oc ccl cl : Value} {od cdd cld : Option Addr} {osl ccs csl : Array (Option Value)} {cdD : ClassData}
  {e : Expr} {es : List Expr} {t : TA} {body : List Stmt} {p0 p1 apos cpos epos : Pos}
theorem ps_superE (hN0 : X.N[0]? = some slf) (hks : X.env.kindOf "super" = some .globalImplicit) (hkc : X.env.kindOf "__class__" = some .free) (hka : X.env.kindOf slf = some .local)
    (hfu : X.env.func = some f) (lk : X.K.lookup f = some ⟨oc, od, .func fd, osl⟩) (hp : (fd.params.posonlyargs ++ fd.params.args).head? = some ar) (har : ar.arg = slf)
    (hco : X.env.code = .ref cda) (lc : X.K.lookup cda = some ⟨ccl, cdd, .fields vs, ccs⟩) (hvs : vs[2]? = some (.str file tf)) (hfile : ((X.prog.main.file : Str) == file) = true)
    (hcl : X.env.cells.lookup ("__class__" : Str) = some cc) (lcc : X.K.lookup cc = some ⟨cl, cld, .cell (some (.ref D)), csl⟩) (hD : PySem.W.clsIn X.K D = some cdD) (hms : X.mg "super" = none) (htop : (X.prog.main.scope.names.lookup ("super" : Str)).isSome = false)
    (hno : PySem.W.nsIn X.K cStatics "thirdparty.any" = some none) (ha : PA X (e :: es) t)
    (hboot : bootBuiltins "super" = some (.type "super")) (he : starEach (e :: es) X.env = (false, eval e X.env) :: starEach es X.env := by rfl) (hpl : (backTo cpos (starEach es X.env)).any (·.1) = false := by rfl)
    (hi : interactive X.env = false := by rfl) (hsw : swapsWith (.Call (.Attribute (.Call (.Name "super" p0) [] [] p1) "__init__" apos) (e :: es) [] cpos) none epos.line X.env = pure false := by rfl)
    {pl : Sem Bool} (hev : eval (.Call (.Attribute (.Call (.Name "super" p0) [] [] p1) "__init__" apos) (e :: es) [] cpos) X.env = (do
      let ov ← attributeBase (.Call (.Name "super" p0) [] [] p1) "__init__" X.env (eval (.Call (.Name "super" p0) [] [] p1) X.env)
      standAt apos.atName
      let (f, first) ← holding [ov] (getMethod ov "__init__" pl)
      callWith cpos f first (backTo cpos (starEach (e :: es) X.env)) []) := by rfl) :
    PST X body (.Expr (.Call (.Attribute (.Call (.Name "super" p0) [] [] p1) "__init__" apos) (e :: es) [] cpos) epos) (tSupE X.K D t) := by
  refine ⟨fun pins s σ H DD I h => ?_⟩
  obtain ⟨x, C, hσ, hH, T, hmro, hve, hsup, hq⟩ := h
  obtain ⟨m, hn, hl⟩ := id I.loc
  obtain ⟨u, ru, lu⟩ := hl 0 slf (.ref x) hN0 hσ (.inl hka)
  obtain rfl : u = Value.ref x := ru
  have hm : m slf = some (.ref x) := by
    rcases lu with ⟨_, h⟩ | ⟨k, _⟩
    · exact h
    · rcases k with k | k <;> rw [hka] at k <;> cases k
  obtain ⟨t1, ho⟩ := exo_at I.hok hH
  have J : PySem.W.InstAt s.heap x { cls := .ref C, dict := none, data := .fields #[.ref t1, .none, .none, .none, .bool false, .none] } C none := ⟨ho, rfl, rfl, trivial⟩
  obtain ⟨oD, hD1, hD2⟩ : ∃ oD, s.heap.get? D = some oD ∧ oD.data = .cls cdD := by
    have hD' := hD
    unfold PySem.W.clsIn at hD'
    split at hD'
    · rename_i c d cd' sl ho
      cases hD'
      exact ⟨_, I.kIn _ _ ho, rfl⟩
    · cases hD'
  refine ks_wpAt_Expr_any (ks_wpAt_MethodCall (pl := pl) ?_ hev) hi hsw
  subst har
  refine ks_wpAt_super_base hks hkc (by decide) hfu (I.kIn _ _ lk) rfl hp hco (I.kIn _ _ lc) rfl hvs hfile htop ?_
  obtain ⟨mb, hb1, hb2⟩ := I.mod.blt
  refine PySem.W.ks_loadName_global I.ok.kind hks (Calls.loadGlobal_builtin (by rw [I.ok.glob]; exact I.mod.glob.keeps I.bk) hms (by rw [I.ok.blt]; exact hb1.keeps I.bk) ((hb2 _ (by decide +kernel)).trans hboot) ⟨rfl, ?_⟩)
  refine wpAny_loadName_free I.ok.kind hkc hcl ⟨_, I.kIn _ _ lcc, rfl⟩ ?_
  refine wpAny_loadName_local I.ok.kind hka hn hm ?_
  have hD1' : s.heap.get? D = some oD := hD1
  refine ks_wpAny_isType_cls hD1' hD2 ⟨rfl, ?_⟩
  refine ks_wpAny_call_super hD1' hD2 J.at_ J.cls (fun c e => by cases e) (PySem.W.looks_mroIn I.kIn hmro) (fun h' e1 k1 => ?_)
  have I1 : Inv X pins σ H { s with heap := h' } := I.kept (t' := s.toks) k1
  obtain ⟨nm, q, N, bs, bm, sn, sub, ab, col, dd, k0, k1', k2, k3, k5, hC, hbm⟩ := T.cls
  cases hc : PySem.W.clsIn X.K C with
  | none => unfold PySem.W.ks_superIn at hsup; rw [hc] at hsup; cases hsup
  | some cd =>
    unfold PySem.W.ks_superIn at hsup
    rw [hc] at hsup
    obtain ⟨t2, ho2⟩ := exo_at I1.hok hH
    have J1 : PySem.W.InstAt h' x { cls := .ref C, dict := none, data := .fields #[.ref t2, .none, .none, .none, .bool false, .none] } C none := ⟨ho2, rfl, rfl, trivial⟩
    refine getMethod_superV e1 (PySem.W.looks_opaque I1.kIn hno) (l₀ := cd.mro) ?_ rfl I1.kIn hsup (PySem.W.ks_ne I.kIn J hc) (by decide) (J1.type.andThen (PySem.W.looks_mroIn I1.kIn hve)) ?_
    · exact fun A Q E s k q => wpAny_bind ((PySem.W.looks_clsIn I1.kIn hc) A _ E s k (wpAny_pure q))
    · have I2 : Inv X ((h'.objs.size, bwV x) :: pins) σ H { s with heap := h'.push (bwV x), toks := s.toks + 1 } :=
        ClX.pin_new (s := { s with heap := h' }) (t' := s.toks + 1) I1 (fun _ _ z => Heap.get?_push_of_some _ z) (Nat.le_refl _) (Heap.get?_push_size h' rfl) (fun v z => nomatch z)
      refine callWith_boundV (x := x) (first := []) (thn (ha.run cpos _ _ σ H _ I2 hq) fun us s3 ⟨ws, H3, I3, r3, hlen, hH3, q3⟩ => ⟨ClX.pin_at I3, ?_⟩) he hpl
      obtain ⟨t3, ho3⟩ := exo_at I3.hok hH3
      obtain ⟨hp3, g3, d3, tk3, os3⟩ := s3
      have hlz : us.length ≤ sizeLine := by rw [← Paired.length r3, sizeLine_eq]; omega
      refine call_bwV (I3.kIn _ _ hC) ho3 (ClX.pin_at I3) hlz fun h4 t4 k4 ho4 => ?_
      have I3' : Inv X pins σ H3 ⟨hp3, g3, d3, tk3, os3⟩ := ClX.unpin I3
      have J4 := I3'.write (t' := tk3) (x := x) (e := x) (o := exo x C none) (by rw [hH3]; exact True.intro) (.inl rfl) k4 ⟨_, ho4⟩ (exo_ok ho4)
      have eu : upd H3 x (exo x C none) = H3 := by
        funext b
        by_cases hb : b = x
        · rw [hb, upd_same, hH3]
        · rw [upd_ne hb]
      rw [eu] at J4
      exact ⟨σ, H3, J4, q3⟩
end
end DL

-- part EX2
set_option maxHeartbeats 4000000
/-! an exception of an own class below ValueError is made: C(e, ..), C(k = v, ..), as a value -/
namespace DL
open PySem PySem.Spec PyProof.Rows L2
section
open PySem.HandSPX Builtin Builtin.ObjectAttr
variable {M : Model} {A : Around} {E : Value → Shared → Prop} {h : Heap} {g : Array GenState} {d : Drawn} {t : Nat} {os : OsState}
variable {nm q : Str} {C N : Addr} {bs bm bmB : List Value} {hdct : Bool} {sn : List Str} {sub : List Value} {ab : Bool} {col : Option Bool} {dd : Option Addr} {k0 k1 k2 k3 k5 : Option Value} {B newId initId : String}
theorem check_new_ownK (F : ExcBaseFacts B newId initId bmB) (hT : ∀ X : String, bm.contains (.type X) = bmB.contains (.type X)) {rest : List Value} {kw : List (Str × Value)} {Q : Unit → Shared → Prop}
    (hC : h.get? C = some (excClassObj nm q C N bs bm hdct sn sub ab col dd k0 k1 k2 k3 k5 newId)) (hq : Q () ⟨h, g, d, t, os⟩) : wpAny M A (checkBuiltinCall newId ⟨.ref C :: rest, kw⟩) Q E ⟨h, g, d, t, os⟩ := by
  have hcont : (Value.ref C :: bm).contains (.type B) = true := by rw [List.contains_cons, hT, F.hasB, Bool.or_true]
  have hstar := F.noStar
  simp only [checkBuiltinCall, F.newKind, F.newSplit, F.newRow]
  repeat (first | refine wpAny_loadPart_at hC ?_ | (refine wpAny_isSubtype_exc hC ?_; rw [hcont]) | refine wpAny_staticBase_exc hC ?_ | refine wpAny_madeBy_exc hC ?_ | simp only [bne_self_eq_false, Bool.false_eq_true, if_false] | wp_step)
  exact hq
end
section
open PySem.HandSPX Builtin Builtin.ObjectAttr
variable {prog : Program} {w : World} {A : Around} {E : Value → Shared → Prop} {R : Result → Shared → Prop} {h : Heap} {g : Array GenState} {d : Drawn} {t : Nat} {os : OsState}
variable {nm q : Str} {C N : Addr} {bs bm bmB : List Value} {hdct : Bool} {sn : List Str} {sub : List Value} {ab : Bool} {col : Option Bool} {dd : Option Addr} {k0 k1 k2 k3 k5 : Option Value} {B newId initId : String}
theorem new_ownK (F : ExcBaseFacts B newId initId bmB) (hT : ∀ X : String, bm.contains (.type X) = bmB.contains (.type X)) {rest : List Value} {kw : List (Str × Value)}
    (hC : h.get? C = some (excClassObj nm q C N bs bm hdct sn sub ab col dd k0 k1 k2 k3 k5 newId))
    (hq : R (.ok (.ret (.ref (h.objs.size + 1)))) ⟨(h.push { cls := .type "tuple", data := .seq rest.toArray }).push
      { cls := .ref C, data := .fields #[.ref h.objs.size, .none, .none, .none, .bool false, .none] }, g, d, t, os⟩) (hrest : rest.length ≤ sizeLine) :
    codeAny (model prog w) A (.builtin newId ⟨.ref C :: rest, kw⟩) R ⟨h, g, d, t, os⟩ := by
  have hends := F.ends
  have hcB : (Value.ref C :: bm).contains (.type B) = true := by rw [List.contains_cons, hT, F.hasB, Bool.or_true]
  have hcA : (Value.ref C :: bm).contains (.type "AttributeError") = false := by rw [List.contains_cons, hT, F.noAttr]; rfl
  have hcN : (Value.ref C :: bm).contains (.type "NameError") = false := by rw [List.contains_cons, hT, F.noName]; rfl
  refine codeAny_builtinAt F.entry ?_
  unfold Builtin.«BaseException.__new__»
  refine PySem.wpAt_bind ?_
  show PySem.wpAt _ _ _ (stack >>= _) _ _ _
  refine PySem.wpAt_bind (PySem.wpAt_stack fun p below => PySem.wpAt_of_wpAny ?_)
  wp_walk
  refine PySem.wpAt_of_wpAny ?_
  rw [F.owner]
  repeat (first | with_reducible refine wpAny_madeHere_exc F.canon hC ?_ | with_reducible refine wpAny_loadPart_at hC ?_ | (with_reducible refine wpAny_isSubtype_exc hC ?_; first | rw [hcB] | rw [hcA] | rw [hcN]) | wp_step)
  show R _ _
  rw [Heap.size_push]
  exact hq
theorem type_call_ownK (F : ExcBaseFacts B newId initId bmB) (hT : ∀ X : String, bm.contains (.type X) = bmB.contains (.type X)) {rest : List Value} {kw : List (Str × Value)} {fI : Addr} {Q : Fin → Shared → Prop}
    (hC : h.get? C = some (excClassObj nm q C N bs bm hdct sn sub ab col dd k0 k1 k2 k3 k5 newId))
    (hi : W.Looks (model prog w) h (typeLookup (.ref C) "__init__") (some (.ref fI))) (hb : ∀ self, W.Looks (model prog w) h (bindSpecial (.ref fI) self) (.ref fI, [self])) (hrest : rest.length ≤ sizeLine)
    (hq : codeAny (model prog w) A (.call (.ref fI) ⟨.ref (h.objs.size + 1) :: rest, kw⟩)
      (fun r s' => match r with | .ok (.ret v) => v = .none ∧ Q (.done (.ret (.ref (h.objs.size + 1)))) s' | .ok _ => False | .error e => E e s')
      ⟨(h.push (W.kdv_tup rest)).push (excO C h.objs.size), g, d, t, os⟩) :
    wpAny (model prog w) A (Builtin.«type.__call__» ⟨.ref C :: rest, kw⟩) Q E ⟨h, g, d, t, os⟩ := by
  repeat (first | with_reducible refine wpAny_loadPart_at hC ?_ | with_reducible refine wpAny_madeBy_exc hC ?_ | wp_step)
  refine codeAny_call_builtin_code (Code.quiet_builtin _ F.quiet) (check_new_ownK F hT hC ?_)
  refine new_ownK F hT hC ?_ hrest
  show wpAny _ _ _ _ _ _
  have k : ∀ b o, h.get? b = some o → ((h.push (W.kdv_tup rest)).push (excO C h.objs.size)).get? b = some o := fun b o e => Heap.get?_push_of_some _ (Heap.get?_push_of_some _ e)
  have hC₁ := k _ _ hC
  have hget : ((h.push (W.kdv_tup rest)).push (excO C h.objs.size)).get? (h.objs.size + 1) = some (excO C h.objs.size) := by heap_get
  have hcC : (Value.ref C :: bm).contains (.ref C) = true := by simp
  have i1 := hi.keeps k
  have b1 := (hb (.ref (h.objs.size + 1))).keeps k
  unfold isInstance
  repeat (first | with_reducible refine wpAny_loadPart_at hget ?_ | (with_reducible refine wpAny_isSubtype_exc hC₁ ?_; rw [hcC]) | wp_step)
  show wpAny _ _ (typeLookup (.ref C) _) _ _ _
  refine i1.at ?_
  refine wpAny_holding (wpAny_bind (b1.at ?_))
  refine wpAny_bind (wpAny_call (codeAny_mono hq fun r s' z => ?_))
  rcases r with e | (v | _ | _ | _) <;> first | exact z | exact z.elim | skip
  obtain ⟨rfl, z⟩ := z
  first
    | exact wpAny_pure (wpAny_pure z)
    | (wp_walk; exact z)
theorem call_ownK (F : ExcBaseFacts B newId initId bmB) (hT : ∀ X : String, bm.contains (.type X) = bmB.contains (.type X)) {rest : List Value} {kw : List (Str × Value)} {fI : Addr}
    (hC : h.get? C = some (excClassObj nm q C N bs bm hdct sn sub ab col dd k0 k1 k2 k3 k5 newId))
    (hi : W.Looks (model prog w) h (typeLookup (.ref C) "__init__") (some (.ref fI))) (hb : ∀ self, W.Looks (model prog w) h (bindSpecial (.ref fI) self) (.ref fI, [self])) (hrest : rest.length ≤ sizeLine)
    (hq : codeAny (model prog w) (A.under (.builtin "type.__call__" ⟨.ref C :: rest, kw⟩)) (.call (.ref fI) ⟨.ref (h.objs.size + 1) :: rest, kw⟩) (W.InitBack (h.objs.size + 1) R)
      ⟨(h.push (W.kdv_tup rest)).push (excO C h.objs.size), g, d, t, os⟩) :
    codeAny (model prog w) A (.call (.ref C) ⟨rest, kw⟩) R ⟨h, g, d, t, os⟩ := by
  have f1 := tc_lookup
  have f2 := tc_bind (.ref C)
  have hTy : (⟨h, g, d, t, os⟩ : Shared).TypeIs (.ref C) "type" := ⟨_, hC, rfl⟩
  have typ : W.Looks (model prog w) h (isInstance (.ref C) (.type "type")) true := by
    have t1 : W.Looks (model prog w) h (typeOf (.ref C)) (.type "type") := (W.Looks.ld hC).andThen .now
    exact t1.andThen (W.Looks.of_pure tc_sub)
  refine codeAny_of_tree ?_
  show wpAny _ _ (callAny (.ref C) _) _ _ _
  repeat (any_goals (first | assumption | with_reducible refine wpAny_loadPart_at hC ?_ | wp_step))
  refine ⟨rfl, ?_⟩
  refine codeAny_call_builtin_at (Code.quiet_builtin _ (by decide +kernel)) entry_typeCall (W.check_slot tc_kind tc_split typ (W.tc_args _ _ _) (type_call_ownK F hT hC hi hb hrest ?_))
  refine codeAny_mono hq fun r s' z => ?_
  rcases r with e | (v | _ | _ | _) <;> exact z
end
/-- C(e, ..), C's own __init__ keeping sp: the exception is the value -/
def tMkE (C : Addr) (sp : Sp) (ta : TA) : TE := fun σ H Q => ta σ H fun vs H1 => vs.length ≤ 1000 ∧ ∀ a, H1 a = none → sp (.ref a :: vs) (upd H1 a (exo a C none)) (fun v H2 => v = .non ∧ Q (.ref a) H2) E0
/-- C(k = v, ..) -/
def tMkEK (C : Addr) (m : Nat) (sp : Sp) (gV : List V → List V → List V) (tk : TA) : TE := fun σ H Q => tk σ H fun zs H2 => zs.length = m ∧ ∀ a, H2 a = none → sp (gV [.ref a] zs) (upd H2 a (exo a C none)) (fun v H3 => v = .non ∧ Q (.ref a) H3) E0
section
variable {X : Cx} {CX : CXT} {x : Str} {C fI : Addr} {k : Nat} {fd : FuncData} {ps ks : List Str} {sp : Sp} {e : Expr} {es : List Expr} {kws : List Keyword} {ta tk : TA} {p pos : Pos} {g : List Value → List Value → List Value} {gV : List V → List V → List V}
theorem run_mkE {pins : List (Addr × Obj)} {σ : L2.St} {H1 : Hp} {Q : VK} {s : Shared} {us : List Value} {kw : List (Str × Value)} {args : List Value} {vargs : Addr → List V} (T : OexC X.K C) (iC : PySem.W.findIn X.K (.ref C) "__init__" = some (some (.ref fI))) (tI : PySem.W.typeIn X.K (.ref fI) = some (.type "function"))
    (F1 : FnOk X.prog X.w X.K X.mg X.base CX k fI fd ps sp) (hr : Room (k + 1) X.A) (hx : Passes CX X E0) (I1 : Inv X pins σ H1 s) (hus : us.length ≤ sizeLine)
    (hb : ∀ s' : Shared, X.K.In s'.heap → BindsTo s' fd ⟨Value.ref (s.heap.objs.size + 1) :: us, kw⟩ (ps.zip (Value.ref (s.heap.objs.size + 1) :: args))) (r2 : Vals (vargs (s.heap.objs.size + 1)) (Value.ref (s.heap.objs.size + 1) :: args))
    (q1 : ∀ a, H1 a = none → sp (vargs a) (upd H1 a (exo a C none)) (fun v H2 => v = .non ∧ Q (.ref a) H2) E0) :
    wpAny (model X.prog X.w) X.A (call (.ref C) us kw) (EP X pins σ Q) X.xe s := by
  obtain ⟨nm, q, N, bs, bm, sn, sub, ab, col, dd, k0, k1, k2, k3, k5, hC, hbm⟩ := T.cls
  obtain ⟨hp, g, dr, tk, os⟩ := s
  have hsz : hp.objs.size ≤ hp.objs.size + 1 := Nat.le_succ _
  have hn : H1 (hp.objs.size + 1) = none := I1.hok.fresh hsz
  have hq := q1 (hp.objs.size + 1) hn
  have kk : ∀ b o, hp.get? b = some o → ((hp.push (PySem.W.kdv_tup us)).push (PySem.HandSPX.excO C hp.objs.size)).get? b = some o := fun b o e => Heap.get?_push_of_some _ (Heap.get?_push_of_some _ e)
  have hget : ((hp.push (PySem.W.kdv_tup us)).push (PySem.HandSPX.excO C hp.objs.size)).get? (hp.objs.size + 1) = some (PySem.HandSPX.excO C hp.objs.size) := by heap_get
  have I2 : Inv X pins σ (upd H1 (hp.objs.size + 1) (exo (hp.objs.size + 1) C none)) ⟨(hp.push (PySem.W.kdv_tup us)).push (PySem.HandSPX.excO C hp.objs.size), g, dr, tk, os⟩ :=
    I1.laid (t' := tk) (a := hp.objs.size + 1) (o := exo (hp.objs.size + 1) C none) (h' := (hp.push (PySem.W.kdv_tup us)).push (PySem.HandSPX.excO C hp.objs.size)) kk hsz (exo_ok hget)
  refine wpAny_call (call_ownK F.excBase_ValueError (fun Y => PySem.HandSPX.refsVE_contains Y bm hbm) (I1.kIn _ _ hC) (PySem.W.looks_findIn I1.kIn iC) (fun self => PySem.W.bind_fn I1.kIn self tI) hus
    (codeAny_mono (F1.run _ X.stack _ _ ⟨Value.ref (hp.objs.size + 1) :: us, kw⟩ (Value.ref (hp.objs.size + 1) :: args) _ _ E0 (hr.make C us kw) (I2.env0.make C us kw) (hb _ I2.kIn) r2 hq) fun r s' hq' => ?_))
  cases r with
  | error er => exact hx pins σ _ _ er s' I2 hq'
  | ok fl =>
    cases fl with
    | ret u =>
      obtain ⟨v, H', I3, rv, ev, q3⟩ := I2.after hq'
      subst ev
      exact ⟨rv, ⟨V.ref (hp.objs.size + 1), H', I3, rfl, q3⟩⟩
    | next => exact False.elim hq'
    | brk => exact False.elim hq'
    | cont => exact False.elim hq'
theorem pe_mkE (T : OexC X.K C) (iC : PySem.W.findIn X.K (.ref C) "__init__" = some (some (.ref fI))) (tI : PySem.W.typeIn X.K (.ref fI) = some (.type "function"))
    (F1 : FnOk X.prog X.w X.K X.mg X.base CX k fI fd ps sp) (hr : Room (k + 1) X.A) (hb : Binds X.K fd ps []) (hx : Passes CX X E0) (hg : Gl X x) (hm : X.mg x = some (.ref C)) (ha : PA X (e :: es) ta)
    (hdb : (x == ("__debug__" : Str)) = false := by decide) (he : starEach (e :: es) X.env = (false, eval e X.env) :: starEach es X.env := by rfl) (hpl : (backTo pos (starEach es X.env)).any (·.1) = false := by rfl) :
    PE X (.Call (.Name x p) (e :: es) [] pos) (tMkE C sp ta) := by
  refine ⟨fun pins s σ H Q I h => ?_⟩
  refine wpAny_Call_Name_kw (ld_glob I hg hm ?_ hdb)
  refine PySem.W.callWith_K (h₀ := X.base) I.ok.mod.kin T.kC (thn (ha.run pos pins s σ H _ I h) fun us s1 ⟨vs, H1, I1, r1, hz, q1⟩ => ⟨I1.kIn, ?_⟩) he hpl
  have hus : us.length ≤ sizeLine := by
    rw [← Paired.length r1, sizeLine_eq]
    omega
  refine run_mkE (vargs := fun a => V.ref a :: vs) T iC tI F1 hr hx I1 hus (fun s' ks' => ?_) (.cons rfl r1) q1
  have hl : (Value.ref (s1.heap.objs.size + 1) :: us).length = ps.length := by
    rw [List.length_cons, ← Paired.length r1, ← List.length_cons (a := V.ref (s1.heap.objs.size + 1)), F1.len _ _ _ _ (q1 (s1.heap.objs.size + 1) (I1.hok.fresh (Nat.le_succ _)))]
  have b := hb s' (Value.ref (s1.heap.objs.size + 1) :: us) ks' (by rw [List.append_nil]; exact hl)
  rw [List.append_nil] at b
  exact b
theorem pe_mkEK (T : OexC X.K C) (iC : PySem.W.findIn X.K (.ref C) "__init__" = some (some (.ref fI))) (tI : PySem.W.typeIn X.K (.ref fI) = some (.type "function"))
    (F1 : FnOk X.prog X.w X.K X.mg X.base CX k fI fd ps sp) (hr : Room (k + 1) X.A) (hb : KBn X.K fd ps 1 ks g gV) (hgc : ∀ (a : Value) (ws : List Value), ws.length = ks.length → ∃ args, g [a] ws = a :: args) (hx : Passes CX X E0) (hg : Gl X x) (hm : X.mg x = some (.ref C)) (hkw : PK X kws tk)
    (hall : (backToKw pos (keywordEach kws X.env)).all (·.1.isSome) = true := by rfl) (hks : (backToKw pos (keywordEach kws X.env)).filterMap (·.1) = ks := by rfl)
    (hdb : (x == ("__debug__" : Str)) = false := by decide) (hpl : ((backTo pos (starEach [] X.env)).any (·.1) || (backToKw pos (keywordEach kws X.env)).any (·.1.isNone)) = false := by rfl) :
    PE X (.Call (.Name x p) [] kws pos) (tMkEK C ks.length sp gV tk) := by
  refine ⟨fun pins s σ H Q I h => ?_⟩
  refine wpAny_Call_Name_kw (ld_glob I hg hm ?_ hdb)
  refine PySem.W.callWith_KW0 (h₀ := X.base) I.ok.mod.kin T.kC hall ?_ hpl
  refine thn (hkw.run pos pins s σ H _ I h) fun ws s2 ⟨zs, H2, I2, rz, l2, q2⟩ => ⟨I2.kIn, ?_⟩
  rw [hks]
  have e2 : ws.length = ks.length := rz.length.symm.trans l2
  obtain ⟨args, ea⟩ := hgc (Value.ref (s2.heap.objs.size + 1)) ws e2
  refine run_mkE (us := []) (args := args) (vargs := fun a => gV [V.ref a] zs) T iC tI F1 hr hx I2 (Nat.zero_le _) (fun s' ks' => ?_) ?_ q2
  · have b := hb.to s' [Value.ref (s2.heap.objs.size + 1)] ws ks' rfl e2
    rw [ea] at b
    exact b
  · have r := hb.rel (vs := [V.ref (s2.heap.objs.size + 1)]) (us := [Value.ref (s2.heap.objs.size + 1)]) (.cons rfl .nil) rz
    rw [ea] at r
    exact r
end
end DL

-- part EX3
set_option maxHeartbeats 4000000
/-! exceptions as values: attributes, isinstance, C() without arguments; the rules over trees -/
namespace DL
open PySem PySem.Spec PyProof.Rows L2
/-- what the written part says of such a class -/
structure XkC (K : PySem.W.Frag) (C : Addr) : Prop where
  o : OexC K C
  ga : PySem.W.findIn K (.ref C) "__getattribute__" = some (some (.builtin "BaseException.__getattribute__"))
  gg : PySem.W.findIn K (.ref C) "__getattr__" = some none
  hd : PySem.W.hasDictIn K C = true
  ve : PySem.W.mroIn K C (.type "ValueError") = some true
  ob : PySem.W.mroIn K C (.type "object") = some true
  cl : PySem.W.findIn K (.ref C) "__class__" = some (some (.builtin "object.__class__"))
/-- such an exception stands at a, with these attributes -/
def ExAt (H : Hp) (a C : Addr) (gs : List (Str × V)) : Prop := (H a = some (exo a C none) ∧ gs = []) ∨ ∃ dx, H a = some (exo a C (some dx)) ∧ H dx = some (exd dx gs)
theorem ExAt.mono {F H : Hp} {a C : Addr} {gs : List (Str × V)} (e : Same F H) (h : ExAt F a C gs) : ExAt H a C gs := h.elim (fun h => .inl ⟨e _ _ h.1, h.2⟩) (fun ⟨dx, h1, h2⟩ => .inr ⟨dx, e _ _ h1, e _ _ h2⟩)
section
variable {X : Cx} {pins : List (Addr × Obj)} {σ : L2.St} {H : Hp} {s : Shared}
theorem ex_inst {a C : Addr} {gs : List (Str × V)} (I : Inv X pins σ H s) (h : ExAt H a C gs) : ∃ ox od, PySem.W.InstAt s.heap a ox C od := by
  rcases h with ⟨h, _⟩ | ⟨dx, h1, h2⟩
  · obtain ⟨t1, ho⟩ := exo_at I.hok h
    exact ⟨_, none, ho, rfl, rfl, trivial⟩
  · obtain ⟨t1, ho⟩ := exo_at I.hok h1
    obtain ⟨mA, hns, hr⟩ := exd_at I.hok h2
    obtain ⟨od, hod, hl⟩ := lookIn_ns hns
    exact ⟨_, some od, ho, rfl, rfl, hod⟩
/-- e.f -/
def tFldE (K : PySem.W.Frag) (te : TE) (f : Str) : TE := fun σ H Q => te σ H fun x H1 => ∃ (a C dx : Addr) (gs : List (Str × V)) (v : V), x = .ref a ∧ H1 a = some (exo a C (some dx)) ∧ H1 dx = some (exd dx gs) ∧ XkC K C ∧ PySem.W.findIn K (.ref C) f = some none ∧ gs.lookup f = some v ∧ Q v H1
theorem pe_fldE {K : PySem.W.Frag} {e : Expr} {te : TE} {pos : Pos} {n : Str} (hK : X.K = K) (he : PE X e te) (hb : attributeBase e n X.env (eval e X.env) = eval e X.env := by rfl) :
    PE X (.Attribute e n pos) (tFldE K te n) := by
  subst hK
  refine ⟨fun pins s σ H Q I h => ?_⟩
  refine attr_of hb (thn (he.run pins s σ H _ I h) fun u s1 hh => ?_)
  obtain ⟨x, H1, I1, rx, a, C, dx, fs, v, ex, ea, ed, T, hno, l, q⟩ := hh
  subst ex
  obtain rfl : u = Value.ref a := rx
  obtain ⟨t1, ho⟩ := exo_at I1.hok ea
  obtain ⟨mA, hns, hr⟩ := exd_at I1.hok ed
  obtain ⟨od, hod, hl⟩ := lookIn_ns hns
  obtain ⟨u, hu, ru⟩ := RelO.some_of (v := v) (o := mA n) (by rw [← l]; exact hr n)
  have J : PySem.W.InstAt s1.heap a { cls := .ref C, dict := some dx, data := .fields #[.ref t1, .none, .none, .none, .bool false, .none] } C (some od) := ⟨ho, rfl, rfl, hod⟩
  exact HandSPX.exc_get I1.kIn J T.ga T.gg T.o.exC (PySem.W.findObj_own T.hd hno rfl (by rw [hl, hu])) (handed_of ru) ⟨v, H1, I1.tok _, ru, q⟩
/-- isinstance(e, c), e such an exception -/
def rIsiE (K : PySem.W.Frag) : List V → Hp → VK → Prop := fun xs H Q => ∃ (a C : Addr) (gs : List (Str × V)) (c : V) (u : Value) (b : Bool), xs = [.ref a, c] ∧ ClsV c u ∧ ExAt H a C gs ∧ XkC K C ∧ PySem.W.kitOne K (.ref C) u = some b ∧ Q (.bl b) H
theorem call_isiE (oc : PySem.W.specialIn X.K (.builtin "object.__class__") "__get__" = some (some (.builtin "getset_descriptor.__get__"))) (ot : PySem.W.takesIn X.K (.builtin "object.__class__") = some true) : CallR X (.builtin "isinstance") (rIsiE X.K) := by
  intro pins s σ H xs us Q I r h
  obtain ⟨a, C, gs, c, u, b, rfl, k, ea, T, e, q⟩ := h
  obtain ⟨u1, u2, rfl, r1, r2⟩ := vals2 r
  have e2 := k.eq r2
  subst e2
  obtain rfl : u1 = Value.ref a := r1
  obtain ⟨ox, od, J⟩ := ex_inst I ea
  have hcl : (PySem.W.clsIn X.K C).isSome = true := by
    obtain ⟨nm, q, N, bs, bm, sn, sub, ab, col, dd, k0, k1, k2, k3, k5, hC, hbm⟩ := T.o.cls
    unfold PySem.W.clsIn
    rw [hC]
    rfl
  exact PySem.W.kia_one (PySem.W.kitx_exc (ox := ox) (od := od) hcl T.ga T.gg T.o.exC T.cl oc ot T.ob) I.kIn J e (fun z => nomatch z) fun tk => ⟨.bl b, H, I.tok tk, rfl, q⟩
/-- C(), no own __init__ -/
def tMkN (C : Addr) : TE := fun σ H Q => ∀ a, H a = none → Q (.ref a) (upd H a (exo a C none))
theorem pe_mkN {bmB : List Value} {B newId initId : String} {x : Str} {C : Addr} {p pos : Pos} (F : ExcBaseFacts B newId initId bmB) (q : PySem.W.excIn X.K C bmB newId = true) (gC : X.mg x = some (.ref C)) (kC : PySem.W.keepIn X.K (.ref C) = true) (hg : Gl X x)
    (hdb : (x == ("__debug__" : Str)) = false := by decide) : PE X (.Call (.Name x p) [] [] pos) (tMkN C) := by
  refine ⟨fun pins s σ H Q I h => ?_⟩
  refine wpAny_Call_Name_kw (ld_glob I hg gC ?_ hdb)
  refine PySem.W.callWith_KW0 (h₀ := X.base) I.ok.mod.kin kC rfl ?_ rfl
  refine thn ((pk_nil (X := X)).run pos pins s σ H (fun zs H1 => zs = [] ∧ H = H1) I ⟨rfl, rfl⟩) fun ws s2 ⟨zs, H2, I2, rz, ez, eH⟩ => ⟨I2.kIn, ?_⟩
  subst ez
  rw [← eH] at I2
  cases rz
  show wpAny _ _ (call (.ref C) []) _ _ _
  obtain ⟨hp, g, dr, tk, os⟩ := s2
  obtain ⟨bm, N, nm, qn, bs, hdct, sn, sub, ab, col, dd, k0, k1, k2, k3, k5, mN, hC, hN, hni, T⟩ := exc_obj I2.kIn q
  refine wpAny_call_exc_subT F T hC hN hni (fun h' e hm => ?_) (Nat.zero_le _)
  obtain ⟨t, he, _, _⟩ := hm.there
  have hn : H e = none := I2.hok.gone hm.new
  exact ⟨.ref e, upd H e (exo e C none), I2.laidN (t' := tk) hm.keeps hm.new hn (exo_ok he), rfl, h e hn⟩
end
/-! ### over trees -/
section
variable {W : Wd} {B : Bs} {F F' H H' : Hp} {σ : L2.St} {ρ : Ev}
theorem den_exc {C : Addr} {ns : List Str} {ds : List D} {v : V} (h : Den W F (.exc C ns ds) v) : ∃ a gs, v = .ref a ∧ ExAt F a C gs ∧ gs.map (·.1) = ns ∧ DenL W F ds (gs.map (·.2)) := h
def dFldE (ok : Addr → Prop) (t : DE) (f : Str) : DE := fun ρ Q => t ρ fun ρ1 x => match x with
  | .exc C ns ds => ok C ∧ (match fldD ns ds f with | some d => Q ρ1 d | none => False)
  | _ => False
theorem re_fldE {te : TE} {t : DE} {f : Str} {ok : Addr → Prop} (re : RE W B te t) (hok : ∀ C, ok C → XkC W.K C ∧ PySem.W.findIn W.K (.ref C) f = some none) : RE W B (tFldE W.K te f) (dFldE ok t f) := by
  intro σ H F ρ Q R rl h k
  refine re σ H F ρ _ _ rl h fun x H1 F1 ρ1 dx r1 s1 d1 h1 => ?_
  split at h1
  · obtain ⟨oc, h1⟩ := h1
    obtain ⟨p, gs, ev, hx, hn, hl⟩ := den_exc d1
    split at h1
    · rename_i d ed
      subst hn
      obtain ⟨v, hv, dv⟩ := fld_lookup hl ed
      rcases hx with ⟨_, e⟩ | ⟨dd, e1, e2⟩
      · subst e; cases hv
      · exact ⟨p, _, dd, gs, v, ev, r1.ex _ _ e1, r1.ex _ _ e2, (hok _ oc).1, (hok _ oc).2, hv, k v H1 F1 ρ1 d r1 s1 dv h1⟩
    · exact h1.elim
  · exact h1.elim
def dIsE (kk : Addr → Bool → Prop) (t : DE) : DE := fun ρ Q => t ρ fun ρ1 x => match x with
  | .exc C _ _ => ∃ b, kk C b ∧ Q ρ1 (.bl b)
  | _ => False
theorem re_isiE {te : TE} {t : DE} {c : V} {u : Value} {kk : Addr → Bool → Prop} (re : RE W B te t) (hc : ClsV c u) (hk : ∀ C b, kk C b → XkC W.K C ∧ PySem.W.kitOne W.K (.ref C) u = some b) :
    RE W B (tCB (rIsiE W.K) (tCons te (tCons (tC c) tNil))) (dIsE kk t) := by
  intro σ H F ρ Q R rl h k
  refine re σ H F ρ _ _ rl h fun x H1 F1 ρ1 dx r1 s1 d1 h1 => ?_
  split at h1
  · obtain ⟨b, eb, h1⟩ := h1
    obtain ⟨p, gs, ev, hx, hn, hl⟩ := den_exc d1
    subst ev
    exact ⟨p, _, gs, c, u, b, rfl, hc, hx.mono r1.ex, (hk _ _ eb).1, (hk _ _ eb).2, k (.bl b) H1 F1 ρ1 (.bl b) r1 s1 rfl h1⟩
  · exact h1.elim
/-- two objects are laid that no tree knew -/
theorem Stp.two {a dx : Addr} {o1 o2 : HO} {H2 : Hp} (e : Same F H) (ha : H a = none) (hd : H dx = none) (hne : dx ≠ a) (h1 : H2 a = some o1) (h2 : H2 dx = some o2) (hb : ∀ b, b ≠ a → b ≠ dx → H2 b = H b) : Stp F H (upd (upd F dx o2) a o1) H2 := by
  have fa : F a = none := e.free ha
  have fd : F dx = none := e.free hd
  refine ⟨fun b u q => ?_, fun b u q => ?_, fun b u q => ?_, fun b n q => ?_⟩
  · rw [upd_ne (ne_of_none q fa), upd_ne (ne_of_none q fd)]; exact q
  · rw [hb b (ne_of_none q ha) (ne_of_none q hd)]; exact q
  · by_cases z : b = a
    · subst z; rw [upd_same] at q; cases q; exact h1
    · rw [upd_ne z] at q
      by_cases z2 : b = dx
      · subst z2; rw [upd_same] at q; cases q; exact h2
      · rw [upd_ne z2] at q
        rw [hb b z z2]; exact e _ _ q
  · have n1 : b ≠ a := fun z => by subst z; exact n.1 ha
    have n2 : b ≠ dx := fun z => by subst z; exact n.1 hd
    rw [upd_ne n1, upd_ne n2]; exact q
/-- what an __init__ that sets one attribute promises -/
def spE1 (K : PySem.W.Frag) (ok : Addr → Prop) (f : Str) : Sp := fun vs H Q _ => ∃ (a C : Addr) (x : V), vs = [.ref a, x] ∧ H a = some (exo a C none) ∧ ok C ∧ ∀ dx, H dx = none → dx ≠ a → Q .non (upd (upd H dx (exd dx [(f, x)])) a (exo a C (some dx)))
/-- .. that sets f, then g -/
def spE2 (K : PySem.W.Frag) (ok : Addr → Prop) (f g : Str) : Sp := fun vs H Q _ => ∃ (a C : Addr) (x y : V), vs = [.ref a, x, y] ∧ H a = some (exo a C none) ∧ ok C ∧
  ∀ dx, H dx = none → dx ≠ a → Q .non (upd (upd (upd H dx (exd dx [(f, x)])) a (exo a C (some dx))) dx (exd dx [(g, y), (f, x)]))
theorem mk1 {C : Addr} {f : Str} {d : D} {x : V} {R : VK} {Q : Ev → D → Prop} (r : Rel W B F H σ ρ) (dv : Den W F d x) (h : Q ρ (.exc C [f] [d]))
    (k : ∀ v H' F' ρ' d, Rel W B F' H' σ ρ' → Same F F' → Den W F' d v → Q ρ' d → R v H') {ok : Addr → Prop} (hok : ok C) (a : Addr) (ha : H a = none) :
    spE1 W.K ok f [.ref a, x] (upd H a (exo a C none)) (fun v H2 => v = .non ∧ R (.ref a) H2) E0 := by
  refine ⟨a, C, x, rfl, upd_same, hok, fun dx hd hne => ⟨rfl, ?_⟩⟩
  have hd' : H dx = none := by rw [upd_ne hne] at hd; exact hd
  have st := Stp.two (F := F) (H := H) (a := a) (dx := dx) (o1 := exo a C (some dx)) (o2 := exd dx [(f, x)]) (H2 := upd (upd (upd H a (exo a C none)) dx (exd dx [(f, x)])) a (exo a C (some dx))) r.ex ha hd' hne upd_same (by rw [upd_ne hne, upd_same]) (fun b h1 h2 => by rw [upd_ne h1, upd_ne h2, upd_ne h1])
  exact k _ _ _ ρ (.exc C [f] [d]) (r.stp st) st.ff ⟨a, [(f, x)], rfl, .inr ⟨dx, upd_same, by rw [upd_ne hne, upd_same]⟩, rfl, ⟨x, [], rfl, dv.mono st.ff, rfl⟩⟩ h
theorem mk2 {C : Addr} {f g : Str} {d e : D} {x y : V} {R : VK} {Q : Ev → D → Prop} (r : Rel W B F H σ ρ) (dv : Den W F d x) (ev : Den W F e y) (h : Q ρ (.exc C [g, f] [e, d]))
    (k : ∀ v H' F' ρ' d, Rel W B F' H' σ ρ' → Same F F' → Den W F' d v → Q ρ' d → R v H') {ok : Addr → Prop} (hok : ok C) (a : Addr) (ha : H a = none) :
    spE2 W.K ok f g [.ref a, x, y] (upd H a (exo a C none)) (fun v H2 => v = .non ∧ R (.ref a) H2) E0 := by
  refine ⟨a, C, x, y, rfl, upd_same, hok, fun dx hd hne => ⟨rfl, ?_⟩⟩
  have hd' : H dx = none := by rw [upd_ne hne] at hd; exact hd
  have st := Stp.two (F := F) (H := H) (a := a) (dx := dx) (o1 := exo a C (some dx)) (o2 := exd dx [(g, y), (f, x)]) (H2 := upd (upd (upd (upd H a (exo a C none)) dx (exd dx [(f, x)])) a (exo a C (some dx))) dx (exd dx [(g, y), (f, x)])) r.ex ha hd' hne
    (by rw [upd_ne (Ne.symm hne), upd_same]) upd_same (fun b h1 h2 => by rw [upd_ne h2, upd_ne h1, upd_ne h2, upd_ne h1])
  exact k _ _ _ ρ (.exc C [g, f] [e, d]) (r.stp st) st.ff ⟨a, [(g, y), (f, x)], rfl, .inr ⟨dx, upd_same, by rw [upd_ne hne, upd_same]⟩, rfl, ⟨y, [x], rfl, ev.mono st.ff, ⟨x, [], rfl, dv.mono st.ff, rfl⟩⟩⟩ h
def gMk1 (C : Addr) (f : Str) (a : DA) : DE := fun ρ Q => a ρ fun ρ1 ds => match ds with | [d] => Q ρ1 (.exc C [f] [d]) | _ => False
def gMk2 (C : Addr) (f g : Str) (a : DA) : DE := fun ρ Q => a ρ fun ρ1 ds => match ds with | [d, e] => Q ρ1 (.exc C [g, f] [e, d]) | _ => False
theorem re_mk1 {C : Addr} {f : Str} {ta : TA} {a : DA} {ok : Addr → Prop} (hok : ok C) (ra : RA W B ta a) : RE W B (tMkE C (spE1 W.K ok f) ta) (gMk1 C f a) := by
  intro σ H F ρ Q R rl h k
  refine ra σ H F ρ _ _ rl h fun vs H1 F1 ρ1 ds r1 s1 d1 h1 => ?_
  split at h1
  · obtain ⟨x, rfl, dx⟩ := den1 d1
    exact ⟨by show 1 ≤ 1000; decide, fun p hp => mk1 (Q := Q) (R := R) r1 dx h1 (fun v H' F' ρ' d r' s' => k v H' F' ρ' d r' (s1.trans s')) hok p hp⟩
  · exact h1.elim
theorem re_mk2 {C : Addr} {f g : Str} {ta : TA} {a : DA} {ok : Addr → Prop} (hok : ok C) (ra : RA W B ta a) : RE W B (tMkE C (spE2 W.K ok f g) ta) (gMk2 C f g a) := by
  intro σ H F ρ Q R rl h k
  refine ra σ H F ρ _ _ rl h fun vs H1 F1 ρ1 ds r1 s1 d1 h1 => ?_
  split at h1
  · obtain ⟨x, y, rfl, dx, dy⟩ := den2 d1
    exact ⟨by show 2 ≤ 1000; decide, fun p hp => mk2 (Q := Q) (R := R) r1 dx dy h1 (fun v H' F' ρ' d r' s' => k v H' F' ρ' d r' (s1.trans s')) hok p hp⟩
  · exact h1.elim
/-- by name: one | two in the other order -/
theorem re_mk1K {C : Addr} {f : Str} {ta : TA} {a : DA} {ok : Addr → Prop} (hok : ok C) (ra : RA W B ta a) : RE W B (tMkEK C 1 (spE1 W.K ok f) (fun us ws => us ++ ws) ta) (gMk1 C f a) := by
  intro σ H F ρ Q R rl h k
  refine ra σ H F ρ _ _ rl h fun vs H1 F1 ρ1 ds r1 s1 d1 h1 => ?_
  split at h1
  · obtain ⟨x, rfl, dx⟩ := den1 d1
    exact ⟨rfl, fun p hp => mk1 (Q := Q) (R := R) r1 dx h1 (fun v H' F' ρ' d r' s' => k v H' F' ρ' d r' (s1.trans s')) hok p hp⟩
  · exact h1.elim
def gMk2K (C : Addr) (f g : Str) (a : DA) : DE := fun ρ Q => a ρ fun ρ1 ds => match ds with | [e, d] => Q ρ1 (.exc C [g, f] [e, d]) | _ => False
theorem re_mk2K {C : Addr} {f g : Str} {ta : TA} {a : DA} {ok : Addr → Prop} (hok : ok C) (ra : RA W B ta a) : RE W B (tMkEK C 2 (spE2 W.K ok f g) (fun us ws => us ++ ws.reverse) ta) (gMk2K C f g a) := by
  intro σ H F ρ Q R rl h k
  refine ra σ H F ρ _ _ rl h fun vs H1 F1 ρ1 ds r1 s1 d1 h1 => ?_
  split at h1
  · obtain ⟨x, y, rfl, dx, dy⟩ := den2 d1
    exact ⟨rfl, fun p hp => mk2 (Q := Q) (R := R) r1 dy dx h1 (fun v H' F' ρ' d r' s' => k v H' F' ρ' d r' (s1.trans s')) hok p hp⟩
  · exact h1.elim
theorem re_mkN {C : Addr} : RE W B (tMkN C) (dC (.exc C [] [])) := by
  intro σ H F ρ Q R rl h k p hp
  have st := Stp.one (o := exo p C none) rl.ex hp
  exact k _ _ _ ρ (.exc C [] []) (rl.stp st) st.ff ⟨p, [], rfl, .inl ⟨upd_same, rfl⟩, rfl, rfl⟩ h
end
end DL

-- part EX5
set_option maxHeartbeats 4000000
/-! self.f, .., self.k = a tuple; making instances of classes with def __init__(self, *parts) -/
namespace DL
open PySem PySem.Spec PyProof.Rows L2 StX
def gFldL (K : PySem.W.Frag) (ta : TE) : List Str → TGs
  | [] => gNil
  | f :: fs => gCons (gFld K ta f) (gFldL K ta fs)
def newF : List Str → List Str → Bool
  | _, [] => true
  | ns, f :: fs => !(ns.contains f) && newF (ns ++ [f]) fs
def dUnpL (i : Nat) (fs : List Str) (t : DE) : DS := fun DD ρ => t ρ fun ρ1 d => match d, getO ρ1 i with
  | .tup xs, some (.obj c ns ds) => xs.length = fs.length ∧ newF ns fs = true ∧ ns.length + fs.length < 900 ∧ DD.nx (ρ1.set i (.o (.obj c (ns ++ fs) (ds ++ xs))))
  | _, _ => False
section
variable {W : Wd} {B : Bs} {F F' H H' : Hp} {σ : L2.St} {ρ : Ev}
theorem unpL_go {i : Nat} {p C dx : Addr} {c : Str} (hσ : σ[i]? = some (some (.ref p))) (hc : W.cls c = some C) (hcls : Cls W.K C) : ∀ (fs : List Str) (vs : List V) (xs : List D) (gs : List (Str × V)) (ds : List D) (H : Hp) (ρ : Ev) (k : L2.St → Hp → Prop),
    (∀ f ∈ fs, NoAttr W.K C f) → Rel W B F H σ ρ → ρ.sl[i]? = some (.o (.obj c (gs.map (·.1)) ds)) → H p = some (.ins C dx gs) → DenL W F ds (gs.map (·.2)) → DenL W F xs vs → xs.length = fs.length → newF (gs.map (·.1)) fs = true → gs.length + fs.length < 900 →
    (∀ H2, Rel W B F H2 σ (ρ.set i (.o (.obj c (gs.map (·.1) ++ fs) (ds ++ xs)))) → k σ H2) → gFldL W.K (tVar i) fs vs σ H k
  | [], vs, xs, gs, ds, H, ρ, k, hno, r, hs, hp, hd, hx, hl, hn, hz, hk => by
    cases xs with
    | cons _ _ => cases hl
    | nil =>
      have hx : vs = [] := hx
      refine ⟨hx, hk H ?_⟩
      rw [List.append_nil, List.append_nil]
      have : ρ.set i (.o (.obj c (gs.map (·.1)) ds)) = ρ := by
        show (⟨ρ.sl.set i _, ρ.c⟩ : Ev) = ρ
        have : ρ.sl.set i (.o (.obj c (gs.map (·.1)) ds)) = ρ.sl := by
          refine List.ext_getElem? fun j => ?_
          by_cases hj : i = j
          · subst hj
            rw [List.getElem?_set_self (List.getElem?_eq_some_iff.mp hs).1, hs]
          · rw [List.getElem?_set_ne hj]
        rw [this]
      rw [this]
      exact r
  | f :: fs, vs, xs, gs, ds, H, ρ, k, hno, r, hs, hp, hd, hx, hl, hn, hz, hk => by
    cases xs with
    | nil => cases hl
    | cons x xs =>
      obtain ⟨v, rest, rfl, dv, dr⟩ := hx
      have hn1 : (gs.map (·.1)).contains f = false := by
        unfold newF at hn
        rw [Bool.and_eq_true, Bool.not_eq_true'] at hn
        exact hn.1
      have hn2 : newF (gs.map (·.1) ++ [f]) fs = true := by
        unfold newF at hn
        rw [Bool.and_eq_true] at hn
        exact hn.2
      have own1 : OwnAt W F (upd H p (.ins C dx (gs ++ [(f, v)]))) p (.obj c (gs.map (·.1) ++ [f]) (ds ++ [x])) := ⟨C, dx, _, upd_same, hc, by rw [List.map_append]; rfl, by rw [List.map_append]; exact hd.append ⟨v, [], rfl, dv, rfl⟩⟩
      have r2 := r.oset hs hσ own1
      have hlc : (f :: fs).length = fs.length + 1 := rfl
      have hlx : (x :: xs).length = xs.length + 1 := rfl
      refine ⟨v, rest, rfl, .ref p, hσ, p, C, dx, gs, rfl, hp, hcls, hno f List.mem_cons_self, by omega, ?_⟩
      rw [putF_new hn1]
      have em : (gs ++ [(f, v)]).map (·.1) = gs.map (·.1) ++ [f] := by rw [List.map_append]; rfl
      have ih := unpL_go hσ hc hcls fs rest xs (gs ++ [(f, v)]) (ds ++ [x]) _ _ k (fun g hg => hno g (List.mem_cons_of_mem _ hg)) r2 (by rw [em]; exact getO_set hs) upd_same
        (by rw [List.map_append]; exact hd.append ⟨v, [], rfl, dv, rfl⟩) dr (by omega) (by rw [em]; exact hn2) (by rw [List.length_append, List.length_singleton]; omega)
      refine ih fun H2 r3 => hk H2 ?_
      rw [em, List.append_assoc, List.append_assoc] at r3
      have es : ∀ s s' : Sl, (ρ.set i s).set i s' = ρ.set i s' := fun s s' => by
        show (⟨(ρ.sl.set i s).set i s', ρ.c⟩ : Ev) = ⟨ρ.sl.set i s', ρ.c⟩
        rw [List.set_set]
      rw [es] at r3
      exact r3
theorem rsi_unpL {i : Nat} {fs : List Str} {te : TE} {t : DE} (re : RE W B te t) (hcls : ∀ c C, W.cls c = some C → Cls W.K C) (hno : ∀ f ∈ fs, ∀ c C, W.cls c = some C → NoAttr W.K C f) :
    RSI W B (tAsg te (gTup W.K fs.length (gFldL W.K (tVar i) fs))) (dUnpL i fs t) := by
  intro σ H F ρ D DD rl h k
  refine re σ H F ρ _ _ rl h fun y H1 F1 ρ1 d r1 s1 d1 h1 => ?_
  split at h1
  · rename_i xs c ns ds g1
    obtain ⟨a, vs, e, hs, hd1⟩ := d1
    obtain ⟨p, e2, e3, C, dx, gs, hx, hc, hn, hd⟩ := r1.own g1
    subst hn
    obtain ⟨c1, c2, hl, hq⟩ := h1
    rw [List.length_map] at hl
    refine ⟨a, vs, e, sqT_of r1.ex hs, by rw [← hd1.length]; exact c1, ?_⟩
    exact unpL_go e3 hc (hcls _ _ hc) fs vs xs gs ds H1 ρ1 _ (fun f hf => hno f hf c C hc) r1 e2 hx hd hd1 c1 c2 hl fun H2 r2 => k H2 F1 _ r2 s1 hq
  · exact h1.elim
/-- C(e, ..), def __init__(self, *parts) -/
def spStar (K : PySem.W.Frag) (cls : Str → Option Addr) (G : GI) : Sp := fun vs H Q E => ∃ ws rest, vs = ws ++ rest ∧ ws.length = 1 ∧ rest.length ≤ sizeLine ∧ ∀ p, H p = none → spI K cls G (ws ++ [V.ref p]) (upd H p (.tup rest)) Q E
theorem rn_makeR {G : GI} {C : Addr} {cn : Str} {ta : TA} {a : DA} {E : XK} (hc : W.cls cn = some C) (ra : RA W B ta a) : RN W B (tMakeR C (spStar W.K W.cls G) E ta) (dMakeI cn (fun cn ds c QD => ds.length ≤ sizeLine ∧ G cn [.tup ds] c QD) a) := by
  intro σ H F ρ Q R rl h k
  refine ra σ H F ρ _ _ rl h fun vs H1 F1 ρ1 ds r1 s1 d1 h1 => ?_
  intro x dx hx hdx hne
  exact star_of (r1.made (G := fun cn ds c QD => ds.length ≤ sizeLine ∧ G cn [.tup ds] c QD) hc d1 h1 hx hdx hne fun p H' F' ρ' d r' s' n q => k p H' F' ρ' d r' (s1.trans s') n q)
end
theorem pe_makeR0 {X : Cx} {CX : CXT} {k : Nat} {f C : Addr} {sp : Sp} {E : XK} {x : Str} {p pos : Pos} (M : Mk X.K C f) (F : FnR X.prog X.w X.K X.mg X.base CX k f sp) (hr : Room (k + 1) X.A) (hg : Gl X x) (hm : X.mg x = some (.ref C)) (hx : Passes CX X E) (hdb : (x == ("__debug__" : Str)) = false := by decide) :
    PE X (.Call (.Name x p) [] [] pos) (tMakeR C sp E tNil) := by
  refine ⟨fun pins s σ H Q I h => ?_⟩
  refine wpAny_Call_Name_kw (ld_glob I hg hm ?_ hdb)
  refine PySem.W.callWith_KW0 (h₀ := X.base) I.ok.mod.kin M.kp rfl ?_ rfl
  refine thn ((pk_nil (X := X)).run pos pins s σ H (fun zs H1 => zs = [] ∧ H = H1) I ⟨rfl, rfl⟩) fun ws s2 ⟨zs, H2, I2, rz, ez, eH⟩ => ⟨I2.kIn, ?_⟩
  subst ez
  rw [← eH] at I2
  cases rz
  exact run_makeR (us := []) (vs := []) M F hr hx I2 .nil h
end DL

-- part K00D
set_option maxHeartbeats 4000000
/-! K00: the papers are made -/
namespace DL
namespace K00
open PySem PySem.Spec PyProof.Rows L2
abbrev sPap : Stmt := inClass (topS 13) 0
theorem scP : FnScope ["self", "parts"] ([("self" : Str)] ++ [("parts" : Str)]) (defScope sPap) := ⟨rfl, rfl, rfl, by decide +kernel, rfl, by decide +kernel, by decide +kernel⟩
def gPap (nmOf : Str → Option Str) (n : Nat) : GI := fun cn ds c QD => ∃ xs nm, ds = [.tup xs] ∧ nmOf cn = some nm ∧ okK n (.tup xs) = true ∧ nm.length ≤ 5592405 ∧ QD ["word", "parts"] [.str (Txt.lower nm), .tup (keptL xs)] c
theorem dTnO_of {nmOf : Str → Option Str} {i : Nat} {c nm : Str} {ns : List Str} {ds : List D} {ρ : Ev} {Q : Ev → D → Prop} (h : getO ρ i = some (.obj c ns ds)) (e : nmOf c = some nm) (q : Q ρ (.str nm)) : dTnO nmOf i ρ Q := by
  unfold dTnO
  rw [h]
  simp only [e]
  exact q
theorem kept_tup (xs : List D) : keptD (.tup xs) = .tup (keptL xs) := by conv => lhs; unfold keptD
theorem lenI_of {K : PySem.W.Frag} {cls : Str → Option Addr} {G : GI} {n : Nat} {H : Hp} (hG : ∀ cn ds c QD, G cn ds c QD → ds.length = n) {vs : List V} {Q : VK} {E : XK} (h : spI K cls G vs H Q E) : vs.length = n + 1 := by
  obtain ⟨F, us, ds, c, cn, C, dx, p, pw, QD, rfl, ex, fp, hw, hp, hc, hd, w, g, k⟩ := h
  rw [List.length_cons, ← hd.length, hG _ _ _ _ g]
/-- what the written part tells of attributes -/
structure AttrT (K : PySem.W.Frag) (cls : Str → Option Addr) (fs : List Str) : Prop where
  cl : ∀ c C, cls c = some C → Cls K C
  no : ∀ f, f ∈ fs → ∀ c C, cls c = some C → NoAttr K C f
/-- a def that closes over its class D -/
structure SupD (P : Program) (K : PySem.W.Frag) (mg : Str → Option Value) (qual : Str) (st : Stmt) (f D : Addr) (fd : FuncData) : Prop where
  ex : ∃ (oc : Value) (od : Option Addr) (kV doc pm : Value) (an : Option Addr) (cda : Addr) (ct : Value) (osl : Array (Option Value)) (cc : Addr) (cl : Value) (cld : Option Addr) (csl : Array (Option Value)) (cdD : ClassData) (ccl : Value) (cdd : Option Addr) (vs : Array Value) (ccs : Array (Option Value)) (file : Str) (tf : Tok),
    fd = PySem.W.fnX "__init__" qual (defArgs st) (defBody st) (defScope st) [("__class__", cc)] .none kV doc pm an (.ref cda) ct ∧ K.lookup f = some ⟨oc, od, .func fd, osl⟩ ∧ PySem.W.codeIn K (.ref cda) qual = true ∧
    K.lookup cda = some ⟨ccl, cdd, .fields vs, ccs⟩ ∧ vs[2]? = some (.str file tf) ∧ ((P.main.file : Str) == file) = true ∧ K.lookup cc = some ⟨cl, cld, .cell (some (.ref D)), csl⟩ ∧ PySem.W.clsIn K D = some cdD
  ms : mg "super" = none
  top : (P.main.scope.names.lookup ("super" : Str)).isSome = false
  no : PySem.W.nsIn K cStatics "thirdparty.any" = some none
/-- above D stands fP -/
structure SupC (K : PySem.W.Frag) (cls : Str → Option Addr) (tag : Str) (D fP : Addr) : Prop where
  ty : PySem.W.typeIn K (.ref fP) = some (.type "function")
  fn : PySem.W.fnIn K fP = true
  cl : ∀ C, cls tag = some C → PySem.W.mroIn K C (.ref D) = some true ∧ PySem.W.ks_superIn K C D "__init__" = some (some (.ref fP))
section
variable {P : Program} {w : World} {K : PySem.W.Frag} {mg : Str → Option Value} {base : Heap}
theorem ok_pap {cls : Str → Option Addr} {nmOf : Str → Option Str} {f fk : Addr} {fd fdk : FuncData} {n : Nat} (F : Fun K "__init__" "Paper.__init__" sPap f fd) (GK : FnOk P w K mg base CX0 n fk fdk ["value"] (spD K cls (gK n))) (FK : Fun K "kept" "kept" sKept fk fdk) (bK : Binds K fdk ["value"] []) (gK_ : mg "kept" = some (.ref fk))
    (m_type : mg "type" = none) (hn : ∀ c C nm, cls c = some C → nmOf c = some nm → CName K C nm) (T : AttrT K cls ["word", "parts"]) : FnR P w K mg base CX0 (n + 1) f (spStar K cls (gPap nmOf n)) := by
  obtain ⟨oc, od, kV, doc, pm, an, cdv, ct, osl, rfl, lk, hcd⟩ := F.ex
  refine StX.fn_star (ps := ["self"]) (pv := "parts") lk hcd scP StX.cxUp_none (fun us rest hl => match us, hl with | [_], _ => by cases rest <;> rfl) (fun A outer s H vs Q E hr h => ?_)
  refine ⟨_, pss_cons (ps_fld (pv 0) (pe_lower (pe_tname (pv 0) (by rfl) m_type)) rfl) (pss_one (ps_fld (pv 0) (pe_call GK hr (by rfl) gK_ FK.kp bK .nil pass0 (pa_cons (pv 1) pa_nil)) rfl)), ?_⟩
  refine bodyI_of (G := gPap nmOf n) (fun pw B p hio => rsi_seq (rsi_setA (re_lower (re_tnO hn)) T.cl (T.no _ (by decide +kernel))) (rsi_setA (re_call (E := E0) (ra_cons (re_val (i := 1)) ra_nil)) T.cl (T.no _ (by decide +kernel)))) ?_ h
  rintro cn ds c QD ⟨xs, nm, rfl, hnm, ho, hl, q⟩
  refine ⟨by show 2 ≤ 2; decide, ?_⟩
  unfold dSeq dSetA dLower
  dsimp only
  refine dTnO_of (i := 0) (ρ := entI 2 cn [.tup xs] c) (ns := []) (ds := []) rfl hnm ?_
  refine ⟨hl, rfl, by show 0 < 1000; decide, .tup xs, rfl, ho, ?_⟩
  rw [kept_tup]
  exact ⟨by decide +kernel, by show 1 < 1000; decide, _, _, rfl, q⟩


abbrev sStep : Stmt := inClass (topS 16) 0
theorem scStep : FnScopeS ["self", "word", "start", "goal", "act"] ["self", "word", "start", "goal", "act"] (defScope sStep) := ⟨rfl, rfl, rfl, by decide +kernel, rfl, by decide +kernel, by decide +kernel, by decide +kernel⟩
def gStep (nmOf : Str → Option Str) (n : Nat) : GI := fun cn ds c QD => ∃ x y z t nm, ds = [x, y, z, t] ∧ cn = "Step" ∧ nmOf cn = some nm ∧ okK n (.tup [x, y, z, t]) = true ∧ nm.length ≤ 5592405 ∧ QD ["word", "parts", "kind", "start", "goal", "act"] [.str (Txt.lower nm), .tup [keptD x, keptD y, keptD z, keptD t], keptD x, keptD y, keptD z, keptD t] c
theorem ok_Step {f fP D : Addr} {fd : FuncData} {cls : Str → Option Addr} {nmOf : Str → Option Str} {n : Nat} (S : SupD P K mg "Step.__init__" sStep f D fd) (SC : SupC K cls "Step" D fP) (T : AttrT K cls ["word", "parts", "kind", "start", "goal", "act"])
    (FP : FnR P w K mg base CX0 (n + 1) fP (spStar K cls (gPap nmOf n))) : FnOk P w K mg base CX0 (n + 2) f fd ["self", "word", "start", "goal", "act"] (spI K cls (gStep nmOf n)) := by
  obtain ⟨oc, od, kV, doc, pm, an, cda, ct, osl, cc, cl, cld, csl, cdD, ccl, cdd, vs, ccs, file, tf, rfl, lk, hcd, lcd, hvs, hfile, lcc, hD⟩ := S.ex
  refine fn_sup lk hcd scStep lcc rfl (fun vs H Q E h => lenI_of (n := 4) (fun cn ds c QD ⟨x, y, z, t, nm, e, _⟩ => by rw [e]; rfl) h) (fun A outer s H vs Q E hr h => ?_)
  refine ⟨_, _, ps_super (sp := spStar K cls (gPap nmOf n)) (E := E0) rfl rfl rfl rfl rfl lk rfl rfl rfl lcd hvs hfile rfl lcc hD S.ms S.top S.no FP hr SC.ty SC.fn pass0 (pa_cons (pv 1) (pa_cons (pv 2) (pa_cons (pv 3) (pa_cons (pv 4) pa_nil)))) (by decide +kernel),
    pss_one (ps_asg (pe_fld (pv 0) rfl) (pg_tup rfl (pgs_cons (pg_fld (pv 0)) (pgs_cons (pg_fld (pv 0)) (pgs_cons (pg_fld (pv 0)) (pgs_cons (pg_fld (pv 0)) pgs_nil)))))), ?_⟩
  refine bodyI_of (G := gStep nmOf n) (fun pw B p hio => rsi_seq (rsi_sup (okc := fun c => c == ("Step" : Str)) (fun vs H Q E h => star_of h) (ra_cons (re_val (i := 1)) (ra_cons (re_val (i := 2)) (ra_cons (re_val (i := 3)) (ra_cons (re_val (i := 4)) ra_nil)))) (fun c C hc ho => SC.cl C (by rw [← beq_iff_eq.mp ho]; exact hc))) (rsi_unpL (fs := ["kind", "start", "goal", "act"]) (re_fldO T.cl (T.no _ (by decide +kernel))) T.cl (fun f hf => T.no f ((by decide +kernel : ∀ f ∈ (["kind", "start", "goal", "act"] : List Str), f ∈ (["word", "parts", "kind", "start", "goal", "act"] : List Str)) f hf)))) ?_ h
  rintro cn ds c QD ⟨x, y, z, t, nm, rfl, rfl, hn, ho, hl, q⟩
  refine ⟨by show 5 ≤ 5; decide, beq_self_eq_true _, ?_⟩
  refine ⟨by show 4 ≤ sizeLine; decide, [x, y, z, t], nm, rfl, hn, ho, hl, ?_⟩
  exact ⟨rfl, by decide +kernel, by show 2 + 4 < 900; decide, _, _, rfl, q⟩

abbrev sCall : Stmt := inClass (topS 17) 0
theorem scCall : FnScopeS ["self", "point", "part", "kept", "behind"] ["self", "point", "part", "kept", "behind"] (defScope sCall) := ⟨rfl, rfl, rfl, by decide +kernel, rfl, by decide +kernel, by decide +kernel, by decide +kernel⟩
def gCall (nmOf : Str → Option Str) (n : Nat) : GI := fun cn ds c QD => ∃ x y z t nm, ds = [x, y, z, t] ∧ cn = "Call" ∧ nmOf cn = some nm ∧ okK n (.tup [x, y, z, t]) = true ∧ nm.length ≤ 5592405 ∧ QD ["word", "parts", "point", "part", "kept", "behind"] [.str (Txt.lower nm), .tup [keptD x, keptD y, keptD z, keptD t], keptD x, keptD y, keptD z, keptD t] c
theorem ok_Call {f fP D : Addr} {fd : FuncData} {cls : Str → Option Addr} {nmOf : Str → Option Str} {n : Nat} (S : SupD P K mg "Call.__init__" sCall f D fd) (SC : SupC K cls "Call" D fP) (T : AttrT K cls ["word", "parts", "point", "part", "kept", "behind"])
    (FP : FnR P w K mg base CX0 (n + 1) fP (spStar K cls (gPap nmOf n))) : FnOk P w K mg base CX0 (n + 2) f fd ["self", "point", "part", "kept", "behind"] (spI K cls (gCall nmOf n)) := by
  obtain ⟨oc, od, kV, doc, pm, an, cda, ct, osl, cc, cl, cld, csl, cdD, ccl, cdd, vs, ccs, file, tf, rfl, lk, hcd, lcd, hvs, hfile, lcc, hD⟩ := S.ex
  refine fn_sup lk hcd scCall lcc rfl (fun vs H Q E h => lenI_of (n := 4) (fun cn ds c QD ⟨x, y, z, t, nm, e, _⟩ => by rw [e]; rfl) h) (fun A outer s H vs Q E hr h => ?_)
  refine ⟨_, _, ps_super (sp := spStar K cls (gPap nmOf n)) (E := E0) rfl rfl rfl rfl rfl lk rfl rfl rfl lcd hvs hfile rfl lcc hD S.ms S.top S.no FP hr SC.ty SC.fn pass0 (pa_cons (pv 1) (pa_cons (pv 2) (pa_cons (pv 3) (pa_cons (pv 4) pa_nil)))) (by decide +kernel),
    pss_one (ps_asg (pe_fld (pv 0) rfl) (pg_tup rfl (pgs_cons (pg_fld (pv 0)) (pgs_cons (pg_fld (pv 0)) (pgs_cons (pg_fld (pv 0)) (pgs_cons (pg_fld (pv 0)) pgs_nil)))))), ?_⟩
  refine bodyI_of (G := gCall nmOf n) (fun pw B p hio => rsi_seq (rsi_sup (okc := fun c => c == ("Call" : Str)) (fun vs H Q E h => star_of h) (ra_cons (re_val (i := 1)) (ra_cons (re_val (i := 2)) (ra_cons (re_val (i := 3)) (ra_cons (re_val (i := 4)) ra_nil)))) (fun c C hc ho => SC.cl C (by rw [← beq_iff_eq.mp ho]; exact hc))) (rsi_unpL (fs := ["point", "part", "kept", "behind"]) (re_fldO T.cl (T.no _ (by decide +kernel))) T.cl (fun f hf => T.no f ((by decide +kernel : ∀ f ∈ (["point", "part", "kept", "behind"] : List Str), f ∈ (["word", "parts", "point", "part", "kept", "behind"] : List Str)) f hf)))) ?_ h
  rintro cn ds c QD ⟨x, y, z, t, nm, rfl, rfl, hn, ho, hl, q⟩
  refine ⟨by show 5 ≤ 5; decide, beq_self_eq_true _, ?_⟩
  refine ⟨by show 4 ≤ sizeLine; decide, [x, y, z, t], nm, rfl, hn, ho, hl, ?_⟩
  exact ⟨rfl, by decide +kernel, by show 2 + 4 < 900; decide, _, _, rfl, q⟩
end
end K00
end DL

-- part EX4
set_option maxHeartbeats 4000000
/-! repr and == of nested data that hold a dict {text: int} -/
namespace DL
open PySem PySem.Spec PyProof.Rows L2
mutual
def toQ : D → Option PyData
  | .non => some .none
  | .bl b => some (.bool b)
  | .int i => some (.int i)
  | .str x => some (.str x)
  | .lst ds => (toQs ds).map .list
  | .tup ds => (toQs ds).map .tuple
  | .dik ks vs => match ks, vs with
    | [.inr k], [.int i] => some (.dict [(.str k, .int i)])
    | _, _ => none
  | _ => none
def toQs : List D → Option (List PyData)
  | [] => some []
  | d :: ds => match toQ d, toQs ds with
    | some p, some ps => some (p :: ps)
    | _, _ => none
end
section
variable {X : Cx} {pins : List (Addr × Obj)} {σ : L2.St} {H F : Hp} {s : Shared} {cls : Str → Option Addr} {pw : Option Addr}
theorem dik_at {a : Addr} {k : Str} {i : Int} (I : Inv X pins σ H s) (e : Same F H) (h : Den ⟨X.K, cls, pw⟩ F (.dik [.inr k] [.int i]) (.ref a)) : (a == sysModules) = false ∧ ∃ (key u : Value) (tk ti : Tok), key = .str k tk ∧ u = .int i ti ∧ s.heap.DictOf (mixKind X.prog X.w) a [(.inr k, u)] := by
  obtain ⟨a', kvs, ev, hf, hn, hd⟩ := h
  cases ev
  cases kvs with
  | nil => cases hn
  | cons p r =>
    cases r with
    | cons _ _ => simp at hn
    | nil =>
      obtain ⟨pk, pv⟩ := p
      have hk : pk = .inr k := by have := List.cons.inj hn; exact this.1
      subst hk
      obtain ⟨x, r, ev, hx, _⟩ := hd
      cases ev
      have hx : pv = .int i := hx
      subst hx
      obtain ⟨_, hs, vs, kv, dd⟩ := (show ObjOk X.prog X.w H s.heap a (.dK [(.inr k, .int i)]) from I.hok a _ (e _ _ hf))
      cases kv with
      | @cons _ q _ qs h1 h2 =>
        cases h2
        obtain ⟨e1, t, e2⟩ := h1
        obtain ⟨qk, qv⟩ := q
        have e1 : Sum.inr k = qk := e1
        have e2 : qv = .int i t := e2
        subst e1 e2
        exact ⟨hs, .str k 0, _, 0, t, rfl, rfl, dd⟩
/-- where a dict {k: i} stands in the heap -/
theorem dik_reads {a : Addr} {k : Str} {i : Int} (I : Inv X pins σ H s) (e : Same F H) (h : Den ⟨X.K, cls, pw⟩ F (.dik [.inr k] [.int i]) (.ref a)) : (a == sysModules) = false ∧ Reads s.heap (.ref a) (.dict [(.str k, .int i)]) [a] := by
  obtain ⟨hs, key, w, tk, ti, e1, e2, o, es, ep, ho, hx, hd, hk, hp, hn⟩ := dik_at I e h
  obtain ⟨esl⟩ := es
  cases hp with
  | @cons en _ es' _ h1 h2 h3 =>
    cases h3
    rcases keyIs_shape (show keyIs (.inr k) en.key = true from h1) with ⟨i', t', z, _⟩ | ⟨x', t', z, z2⟩
    · cases z
    · cases z
      have h2 : en.val = w := h2
      refine ⟨hs, .dict (kvs := [(.str k, .int i)]) (as := []) (bs := []) ho hx.1 hd ?_ ?_⟩
      · show ReadsAll s.heap [en.key] [.str k] []
        rw [z2]
        exact .cons (as := []) (.str k t') .nil
      · show ReadsAll s.heap [en.val] [.int i] []
        rw [h2, e2]
        exact .cons (as := []) (.int i ti) .nil
/-- what a tree is in the heap: read, and shown -/
def Shw (X : Cx) (s : Shared) (u : Value) (p : PyData) : Prop := (∃ as, Reads s.heap u p as) ∧ (p.showable = true → p.shown.length ≤ sizeLine → ∃ bs, ReadAtMost s.heap p.depth bs ∧ ReprK X.prog X.w bs s.heap p.depth u p.shown)
def ShwL (X : Cx) (s : Shared) (us : List Value) (ps : List PyData) : Prop := (∃ as, ReadsAll s.heap us ps as) ∧ (PyData.showableAll ps = true → (∀ t ∈ PyData.shownAll ps, t.length ≤ sizeLine) → ∃ bs, ReadAtMost s.heap (PyData.depthAll ps) bs ∧ ReprAllK X.prog X.w bs s.heap (PyData.depthAll ps) us (PyData.shownAll ps))
theorem Shw.leaf {u : Value} {p : PyData} {as : List Addr} (r : Reads s.heap u p as) (h : p.hasDict = true → sysModules ∉ as) : Shw X s u p := ⟨⟨as, r⟩, fun h1 h2 => ReprK.of_reads r h1 h h2⟩
theorem Shw.list {a : Addr} {o : Obj} {vs : List Value} {n : Nat} {ps : List PyData} (h1 : s.heap.get? a = some o) (h2 : o.cls = .type "list") (h3 : o.data = .seq vs.toArray n) (hl : ShwL X s vs ps) : Shw X s (.ref a) (.list ps) := by
  obtain ⟨⟨as, ra⟩, rest⟩ := hl
  have rr : Reads s.heap (.ref a) (.list ps) (a :: as) := .list h1 h2 h3 ra
  refine ⟨⟨_, rr⟩, fun g1 g2 => ?_⟩
  have g2' : (listText (PyData.shownAll ps)).length ≤ sizeLine := by simpa only [PyData.shown] using g2
  obtain ⟨bs, hb, hk⟩ := rest (by simpa [PyData.showable] using g1) fun t ht => Nat.le_trans (listText_mem_le ht) g2'
  have hd : PyData.depthAll ps < (PyData.list ps).depth := by simp only [PyData.depth]; omega
  have hna : a ∉ bs := not_mem_of_deeper rr hd hb
  refine ⟨a :: bs, ReadAtMost.cons rr (Nat.le_refl _) fun b hm => ?_, ?_⟩
  · obtain ⟨d', as', r', hd'⟩ := hb b hm
    exact ⟨d', as', r', by omega⟩
  · simp only [PyData.depth, PyData.shown]
    cases vs with
    | nil =>
      cases ra
      simp only [PyData.shownAll, listText_nil]
      exact ReprK.listEmpty h1 h2 h3
    | cons x l => exact ReprK.list h1 h2 h3 hna (by simpa using hk.length_eq) (fun i y e => hk.item i y (by simpa using e))
theorem Shw.tuple {a : Addr} {o : Obj} {vs : List Value} {n : Nat} {ps : List PyData} (h1 : s.heap.get? a = some o) (h2 : o.cls = .type "tuple") (h3 : o.data = .seq vs.toArray n) (hl : ShwL X s vs ps) : Shw X s (.ref a) (.tuple ps) := by
  obtain ⟨⟨as, ra⟩, rest⟩ := hl
  have rr : Reads s.heap (.ref a) (.tuple ps) as := .tuple h1 h2 h3 ra
  refine ⟨⟨_, rr⟩, fun g1 g2 => ?_⟩
  have g2' : (tupleText (PyData.shownAll ps)).length ≤ sizeLine := by simpa only [PyData.shown] using g2
  obtain ⟨bs, hb, hk⟩ := rest (by simpa [PyData.showable] using g1) fun t ht => Nat.le_trans (tupleText_mem_le ht) g2'
  have hd : PyData.depthAll ps < (PyData.tuple ps).depth := by simp only [PyData.depth]; omega
  have hna : a ∉ bs := not_mem_of_deeper rr hd hb
  refine ⟨a :: bs, ReadAtMost.cons rr (Nat.le_refl _) fun b hm => ?_, ?_⟩
  · obtain ⟨d', as', r', hd'⟩ := hb b hm
    exact ⟨d', as', r', by omega⟩
  · simp only [PyData.depth, PyData.shown]
    exact ReprK.tuple h1 h2 h3 hna hk
theorem ShwL.cons {u : Value} {us : List Value} {p : PyData} {ps : List PyData} (h : Shw X s u p) (t : ShwL X s us ps) : ShwL X s (u :: us) (p :: ps) := by
  obtain ⟨⟨a1, r1⟩, q1⟩ := h
  obtain ⟨⟨a2, r2⟩, q2⟩ := t
  refine ⟨⟨_, .cons r1 r2⟩, fun g1 g2 => ?_⟩
  have g1' : p.showable = true ∧ PyData.showableAll ps = true := by simpa [PyData.showableAll] using g1
  obtain ⟨b1, hb1, k1⟩ := q1 g1'.1 (g2 _ (by simp only [PyData.shownAll]; exact List.mem_cons_self))
  obtain ⟨b2, hb2, k2⟩ := q2 g1'.2 fun t ht => g2 t (by simp only [PyData.shownAll]; exact List.mem_cons_of_mem _ ht)
  have l1 : p.depth ≤ PyData.depthAll (p :: ps) := by simp only [PyData.depthAll]; exact Nat.le_max_left _ _
  have l2 : PyData.depthAll ps ≤ PyData.depthAll (p :: ps) := by simp only [PyData.depthAll]; exact Nat.le_max_right _ _
  refine ⟨b1 ++ b2, fun b hm => ?_, ?_⟩
  · rcases List.mem_append.mp hm with hm | hm
    · obtain ⟨d', as', r', hd'⟩ := hb1 b hm
      exact ⟨d', as', r', Nat.le_trans hd' l1⟩
    · obtain ⟨d', as', r', hd'⟩ := hb2 b hm
      exact ⟨d', as', r', Nat.le_trans hd' l2⟩
  · simp only [PyData.shownAll]
    exact .cons ((k1.more fun b hb => List.mem_append_left _ hb).level_le l1) (k2.more_le (fun b hb => List.mem_append_right _ hb) l2)
mutual
theorem shw_of (I : Inv X pins σ H s) (e : Same F H) : ∀ (d : D) (v : V) (u : Value) (p : PyData), Den ⟨X.K, cls, pw⟩ F d v → toQ d = some p → RelV v u → Shw X s u p
  | .non, v, u, p, h, t, r => by cases t; rw [show v = V.non from h] at r; cases (show u = Value.none from r); exact Shw.leaf .none fun _ => by simp
  | .bl b, v, u, p, h, t, r => by cases t; rw [show v = V.bl b from h] at r; cases (show u = Value.bool b from r); exact Shw.leaf (.bool b) fun _ => by simp
  | .int i, v, u, p, h, t, r => by cases t; rw [show v = V.int i from h] at r; obtain ⟨t, q⟩ := (show ∃ t, u = Value.int i t from r); subst q; exact Shw.leaf (.int i t) fun _ => by simp
  | .str x, v, u, p, h, t, r => by cases t; rw [show v = V.str x from h] at r; obtain ⟨t, q⟩ := (show ∃ t, u = Value.str x t from r); subst q; exact Shw.leaf (.str x t) fun _ => by simp
  | .lst ds, v, u, p, ⟨a, xs, ev, hs, hd⟩, t, r => by
    unfold toQ at t
    cases q : toQs ds with
    | none => rw [q] at t; cases t
    | some ps =>
      rw [q] at t; cases t
      subst ev
      cases (show u = Value.ref a from r)
      obtain ⟨its, rv, hl, hz⟩ := I.list (same_sqL e hs)
      obtain ⟨o, ho, hc, n, hdat⟩ := hl.isList
      exact Shw.list ho hc hdat (shw_ofL I e ds xs its ps hd q rv)
  | .tup ds, v, u, p, ⟨a, xs, ev, hs, hd⟩, t, r => by
    unfold toQ at t
    cases q : toQs ds with
    | none => rw [q] at t; cases t
    | some ps =>
      rw [q] at t; cases t
      subst ev
      cases (show u = Value.ref a from r)
      obtain ⟨_, its, rv, o, ho, hc, n, hdat⟩ := (show ObjOk X.prog X.w H s.heap a (.tup xs) from I.hok a _ (e _ _ hs))
      exact Shw.tuple ho hc hdat (shw_ofL I e ds xs its ps hd q rv)
  | .dik ks vs, v, u, p, h, t, r => by
    unfold toQ at t
    split at t
    · rename_i k i
      cases t
      have hv : ∃ a, v = .ref a := by obtain ⟨a, kvs, ev, _⟩ := h; exact ⟨a, ev⟩
      obtain ⟨a, rfl⟩ := hv
      cases (show u = Value.ref a from r)
      obtain ⟨hs, rd⟩ := dik_reads I e h
      refine Shw.leaf rd fun _ hm => ?_
      have : sysModules = a := by simpa using hm
      rw [← this] at hs
      simp at hs
    · cases t
  | .obj _ _ _, _, _, _, _, t, _ => by cases t
  | .exc _ _ _, _, _, _, _, t, _ => by cases t
  | .dic _ _, _, _, _, _, t, _ => by cases t
  | .opq _, _, _, _, _, t, _ => by cases t
  | .well, _, _, _, _, t, _ => by cases t
theorem shw_ofL (I : Inv X pins σ H s) (e : Same F H) : ∀ (ds : List D) (xs : List V) (us : List Value) (ps : List PyData), DenL ⟨X.K, cls, pw⟩ F ds xs → toQs ds = some ps → Vals xs us → ShwL X s us ps
  | [], xs, us, ps, h, t, r => by
    cases t
    rw [show xs = [] from h] at r
    cases r
    exact ⟨⟨[], .nil⟩, fun _ _ => ⟨[], (fun _ h => nomatch h), .nil⟩⟩
  | d :: ds, _, us, ps, ⟨x, r, ev, h1, h2⟩, t, rr => by
    unfold toQs at t
    subst ev
    cases q : toQ d with
    | none => rw [q] at t; cases t
    | some p =>
      cases q2 : toQs ds with
      | none => rw [q, q2] at t; cases t
      | some rs =>
        rw [q, q2] at t; cases t
        cases rr with
        | cons ra rb => exact ShwL.cons (shw_of I e d x _ p h1 q ra) (shw_ofL I e ds r _ rs h2 q2 rb)
end
/-- repr of a list of data -/
def rReprQ (K : PySem.W.Frag) : List V → Hp → VK → Prop := fun xs H Q => ∃ (a : Addr) (F : Hp) (cls : Str → Option Addr) (pw : Option Addr) (ds : List D) (p : PyData), xs = [.ref a] ∧ Same F H ∧ Den ⟨K, cls, pw⟩ F (.lst ds) (.ref a) ∧ toQ (.lst ds) = some p ∧ p.showable = true ∧ p.depth ≤ 60 ∧ p.shown.length ≤ sizeLine ∧ Q (.str p.shown) H
theorem call_reprQ {X : Cx} (hgd : X.A.guards = some []) (hu : X.A.units + 64 < cLine) : CallR X (.builtin "repr") (rReprQ X.K) := by
  intro pins s σ H xs us Q I r h
  obtain ⟨a, F, cls, pw, ds, p, rfl, e, ⟨a', xs', ev, hs, hd⟩, ht, h1, h3, h4, q⟩ := h
  cases ev
  obtain rfl := Vals.ref1 r
  unfold toQ at ht
  cases qs : toQs ds with
  | none => rw [qs] at ht; cases ht
  | some ps =>
    rw [qs] at ht; cases ht
    obtain ⟨its, rv, hl, hz⟩ := I.list (same_sqL e hs)
    obtain ⟨o, ho, hc, n, hdat⟩ := hl.isList
    obtain ⟨⟨as, ra⟩, rest⟩ := shw_ofL I e ds xs' its ps hd qs rv
    have g2 : (listText (PyData.shownAll ps)).length ≤ sizeLine := by simpa only [PyData.shown] using h4
    obtain ⟨bs, hb, hk⟩ := rest (by simpa [PyData.showable] using h1) fun t ht => Nat.le_trans (listText_mem_le ht) g2
    have hdp : PyData.depthAll ps < (PyData.list ps).depth := by simp only [PyData.depth]; omega
    have hna : a ∉ bs := not_mem_of_deeper (.list ho hc hdat ra) hdp hb
    have fin : ∀ (h' : Heap) (u : Tok) (tk : Nat), (∀ b o, s.heap.get? b = some o → h'.get? b = some o) → EP X pins σ Q (.str (listText (PyData.shownAll ps)) u) { s with heap := h', toks := tk } := fun h' u tk k => by
      have q' : Q (.str (listText (PyData.shownAll ps))) H := by simpa only [PyData.shown] using q
      exact ⟨.str _, H, I.kept k, ⟨u, rfl⟩, q'⟩
    refine call_repr_slot (by omega) ⟨o, ho, hc⟩ PySem.F.slot_list_repr.toG ?_
    cases its with
    | nil =>
      cases ra
      simp only [PyData.shownAll, listText_nil] at fin
      exact call_list_repr_empty ⟨o, ho, hc⟩ ho hdat ⟨_, _, rfl, fin s.heap _ _ fun _ _ e => e⟩
    | cons x l =>
      exact call_list_reprK ho hc hdat hna (by simpa using hk.length_eq) (fun i y e => hk.item i y (by simpa using e)) hgd (fun b _ => Clear.nil b) (by show X.A.units + 1 + _ < cLine; omega) (fun _ _ e => e) (fun h' u tk k => ⟨_, _, rfl, fin h' u tk k⟩) g2
end
section
variable {W : Wd} {B : Bs} {F F' H H' : Hp} {σ : L2.St} {ρ : Ev}
theorem re_reprQ {ta : TA} {a : DA} (ra : RA W B ta a) : RE W B (tCB (rReprQ W.K) ta) (fun ρ Q => a ρ fun ρ1 ds => ∃ x p, ds = [x] ∧ toQ x = some p ∧ (∃ xs, x = .lst xs) ∧ p.showable = true ∧ p.depth ≤ 60 ∧ p.shown.length ≤ sizeLine ∧ Q ρ1 (.str p.shown)) :=
  re_cb ra (g := fun ds ρ1 Q => ∃ x p, ds = [x] ∧ toQ x = some p ∧ (∃ xs, x = .lst xs) ∧ p.showable = true ∧ p.depth ≤ 60 ∧ p.shown.length ≤ sizeLine ∧ Q ρ1 (.str p.shown)) fun σ H F ρ vs ds Q R r d h k => by
    obtain ⟨x, p, rfl, hp, ⟨xs, rfl⟩, h1, h3, h4, h⟩ := h
    obtain ⟨v, rfl, hd⟩ := den1 d
    have hv : ∃ a, v = .ref a := by obtain ⟨a, _, e, _⟩ := hd; exact ⟨a, e⟩
    obtain ⟨a, rfl⟩ := hv
    exact ⟨a, F, W.cls, W.pw, xs, p, rfl, r.ex, hd, hp, h1, h3, h4, k _ H F ρ (.str p.shown) r (Same.refl _) rfl h⟩
end
/-! ### == of tuples that hold such -/
def eqQL (f : D → D → Option Bool) : List D → List D → Option Bool
  | x :: xs, y :: ys => match f x y, eqQL f xs ys with
    | some a, some b => some (a && b)
    | _, _ => none
  | _, _ => some true
/-- what == tells of two trees, as far as it is told here -/
def eqQ : Nat → D → D → Option Bool
  | 0, x, y => eqD x y
  | n + 1, x, y => match eqD x y with
    | some b => some b
    | none => match x, y with
      | .tup xs, .tup ys => (eqQL (eqQ n) xs ys).map fun b => b && xs.length == ys.length
      | .dik [.inr k] [.int i], .dik [.inr k'] [.int i'] => if k = k' ∧ i = i' then some true else none
      | _, _ => none
section
open PySem.SeqAt PySem.W
variable {X : Cx} {pins : List (Addr × Obj)} {σ : L2.St} {H F : Hp} {s : Shared} {cls : Str → Option Addr} {pw : Option Addr}
theorem eqD_in (I : Inv X pins σ H s) (e : Same F H) {x y : D} {b : Bool} {v w : V} {u z : Value} (hx : Den ⟨X.K, cls, pw⟩ F x v) (hy : Den ⟨X.K, cls, pw⟩ F y w) (h : eqD x y = some b) (ru : RelV v u) (rz : RelV w z) :
    (∀ A : Around, A.units + 64 < cLine → EqIn X.prog X.w A s u z b) ∧ (u = z → b = true) := by
  obtain ⟨p, q, hp, hq, s1, s2, eb⟩ := eqD_some h
  obtain ⟨as, r1⟩ := Dp.reads I p v u (dp_of e hx hp) ru
  obtain ⟨bs, r2⟩ := Dp.reads I q w z (dp_of e hy hq) rz
  refine ⟨fun A hu => ?_, fun ez => ?_⟩
  · rw [← eb]
    exact (eqAt_reads p q A s u z as bs r1 r2 (canLay_of_shaped s1) (canLay_of_shaped s2) (room_of_shaped s1 hu)).inModel X.prog X.w
  · subst ez
    have := Reads.unique p q u as bs (canLay_of_shaped s1) r1 r2
    subst this
    rw [← eb]
    exact eqv_refl p (canLay_of_shaped s1)
theorem eqQL_get {f : D → D → Option Bool} : ∀ {xs ys : List D} {b : Bool}, eqQL f xs ys = some b → ∃ e : Nat → Bool, (∀ j x y, xs[j]? = some x → ys[j]? = some y → f x y = some (e j)) ∧ (List.range (min xs.length ys.length)).all e = b
  | [], _, b, h => by
    have : b = true := by unfold eqQL at h; exact (Option.some.inj h).symm
    subst this
    exact ⟨fun _ => true, fun j x y h => by simp at h, by simp⟩
  | x :: xs, [], b, h => by
    have : b = true := by unfold eqQL at h; exact (Option.some.inj h).symm
    subst this
    exact ⟨fun _ => true, fun j x y _ h => by simp at h, by simp⟩
  | x :: xs, y :: ys, b, h => by
    unfold eqQL at h
    cases h1 : f x y with
    | none => rw [h1] at h; cases h
    | some a =>
      cases h2 : eqQL f xs ys with
      | none => rw [h1, h2] at h; cases h
      | some c =>
        rw [h1, h2] at h
        have h := Option.some.inj h
        obtain ⟨e, g1, g2⟩ := eqQL_get h2
        refine ⟨fun j => match j with | 0 => a | j + 1 => e j, fun j p q hp hq => ?_, ?_⟩
        · cases j with
          | zero => cases hp; cases hq; exact h1
          | succ j => exact g1 j p q (by simpa using hp) (by simpa using hq)
        · rw [List.length_cons, List.length_cons, Nat.succ_min_succ, List.range_succ_eq_map, List.all_cons, List.all_map]
          show (a && (List.range (min xs.length ys.length)).all e) = b
          rw [g2, h]
theorem eqQ_in (I : Inv X pins σ H s) (e : Same F H) : ∀ (n : Nat) (x y : D) (b : Bool) (v w : V) (u z : Value), Den ⟨X.K, cls, pw⟩ F x v → Den ⟨X.K, cls, pw⟩ F y w → eqQ n x y = some b → RelV v u → RelV w z →
    (∀ A : Around, A.units + 64 + n < cLine → EqIn X.prog X.w A s u z b) ∧ (u = z → b = true)
  | 0, x, y, b, v, w, u, z, hx, hy, h, ru, rz => eqD_in I e hx hy h ru rz
  | n + 1, x, y, b, v, w, u, z, hx, hy, h, ru, rz => by
    have ih := eqQ_in I e n
    unfold eqQ at h
    split at h
    · rename_i b' hb
      cases h
      obtain ⟨h1, h2⟩ := eqD_in I e hx hy hb ru rz
      exact ⟨fun A hu => h1 A (by omega), h2⟩
    · split at h
      · rename_i xs ys hh
        obtain ⟨a, us, ev, hf, hd⟩ := hx
        obtain ⟨c, ws, ew, hg, he⟩ := hy
        subst ev ew
        cases (show u = Value.ref a from ru)
        cases (show z = Value.ref c from rz)
        cases hq : eqQL (eqQ n) xs ys with
        | none => rw [hq] at h; cases h
        | some b0 =>
          rw [hq] at h
          have h : (b0 && xs.length == ys.length) = b := Option.some.inj h
          obtain ⟨ej, g1, g2⟩ := eqQL_get hq
          obtain ⟨_, i1, r1, o1, ho1, hc1, n1, hd1⟩ := (show ObjOk X.prog X.w H s.heap a (.tup us) from I.hok a _ (e _ _ hf))
          obtain ⟨_, i2, r2, o2, ho2, hc2, n2, hd2⟩ := (show ObjOk X.prog X.w H s.heap c (.tup ws) from I.hok c _ (e _ _ hg))
          have l1 : xs.length = i1.length := by rw [hd.length, r1.length]
          have l2 : ys.length = i2.length := by rw [he.length, r2.length]
          have item : ∀ j (h1 : j < i1.length) (h2 : j < i2.length), (∀ A : Around, A.units + 64 + n < cLine → EqIn X.prog X.w A s i1[j] i2[j] (ej j)) ∧ (i1[j] = i2[j] → ej j = true) := fun j h1 h2 => by
            have hx : xs[j]? = some (xs[j]'(by omega)) := List.getElem?_eq_getElem _
            have hy : ys[j]? = some (ys[j]'(by omega)) := List.getElem?_eq_getElem _
            obtain ⟨v1, hv1, dv1⟩ := hd.get hx
            obtain ⟨v2, hv2, dv2⟩ := he.get hy
            obtain ⟨u1, hu1, ru1⟩ := r1.get hv1
            obtain ⟨u2, hu2, ru2⟩ := r2.get hv2
            rw [List.getElem?_eq_getElem h1] at hu1
            rw [List.getElem?_eq_getElem h2] at hu2
            cases hu1
            cases hu2
            exact ih _ _ _ _ _ _ _ dv1 dv2 (g1 j _ _ hx hy) ru1 ru2
          refine ⟨fun A hu => ?_, fun ez => ?_⟩
          · by_cases hac : a = c
            · subst hac
              rw [ho1] at ho2; cases ho2
              rw [hd1] at hd2
              have hi : i1 = i2 := by injection hd2 with q1 q2; simpa using q1
              subst hi
              have hb : b = true := by
                rw [← h, ← g2, l1, l2]
                simp only [Nat.min_self, Bool.and_eq_true, List.all_eq_true, List.mem_range, beq_self_eq_true, and_true]
                exact fun j hj => (item j hj hj).2 rfl
              rw [hb]
              exact (SeqAt.EqAt.same _).inModel X.prog X.w
            · refine SeqAt.EqIn.of_refs hac fun E Q hq => ?_
              refine rcIn_tuples (items := i1.toArray) (items2 := i2.toArray) (e := ej) ⟨o1, ho1, hc1, n1, hd1⟩ ⟨o2, ho2, hc2, n2, hd2⟩ (by omega) (fun j q1 q2 => ?_) ?_
              · have q1' : j < i1.length := by simpa using q1
                have q2' : j < i2.length := by simpa using q2
                have := (item j q1' q2').1 A.in1 (by show A.units + 1 + 64 + n < cLine; omega)
                simpa using this
              · have : ((List.range (min i1.toArray.size i2.toArray.size)).all ej && i1.toArray.size == i2.toArray.size) = b := by
                  rw [← h, ← g2, l1, l2]
                  simp
                rw [this]; exact hq
          · have hac : a = c := Value.ref.inj ez
            subst hac
            rw [ho1] at ho2; cases ho2
            rw [hd1] at hd2
            have hi : i1 = i2 := by injection hd2 with q1 q2; simpa using q1
            subst hi
            rw [← h, ← g2, l1, l2]
            simp only [Nat.min_self, Bool.and_eq_true, List.all_eq_true, List.mem_range, beq_self_eq_true, and_true]
            exact fun j hj => (item j hj hj).2 rfl
      · rename_i k i k' i' hh
        split at h
        · rename_i hk
          obtain ⟨rfl, rfl⟩ := hk
          cases h
          refine ⟨fun A hu => ?_, fun _ => rfl⟩
          have hv : ∃ a, v = .ref a := by obtain ⟨a, kvs, ev, _⟩ := hx; exact ⟨a, ev⟩
          have hw : ∃ a, w = .ref a := by obtain ⟨a, kvs, ev, _⟩ := hy; exact ⟨a, ev⟩
          obtain ⟨a, rfl⟩ := hv
          obtain ⟨c, rfl⟩ := hw
          cases (show u = Value.ref a from ru)
          cases (show z = Value.ref c from rz)
          by_cases hac : a = c
          · subst hac
            exact (SeqAt.EqAt.same _).inModel X.prog X.w
          · obtain ⟨sa, k1, u1, tk1, ti1, e1, e2, da⟩ := dik_at I e hx
            obtain ⟨sc, k2, u2, tk2, ti2, e3, e4, dc⟩ := dik_at I e hy
            subst e2 e4
            refine SeqAt.EqIn.of_refs hac fun E Q hq => ?_
            have hva : valueAt [((Sum.inr k : Key), Value.int i ti2)] (Sum.inr k) = some (Value.int i ti2) := by simp [valueAt]
            have hin : EqIn X.prog X.w A.in1 s (Value.int i ti1) (Value.int i ti2) true := by
              have := eqAt_reads (.int i) (.int i) A.in1 s _ _ _ _ (.int i ti1) (.int i ti2) rfl rfl (by show A.units + 1 + min 0 0 < cLine; omega)
              have q : PyData.eqv (.int i) (.int i) = true := by simp [PyData.eqv]
              rw [q] at this
              exact this.inModel X.prog X.w
            exact keq_eqIn sa sc da dc (by omega) (fun _ => .hit hva hin .nil) hq
        · cases h
      · cases h
end
/-- == of two tuples that may hold such -/
def rEqQ (K : PySem.W.Frag) : R2 := fun x y H Q => ∃ (F : Hp) (cls : Str → Option Addr) (pw : Option Addr) (xs ys : List D) (b : Bool), Same F H ∧ Den ⟨K, cls, pw⟩ F (.tup xs) x ∧ Den ⟨K, cls, pw⟩ F (.tup ys) y ∧ eqQ 20 (.tup xs) (.tup ys) = some b ∧ Q (.bl b) H
section
open PySem.SeqAt PySem.W
theorem op_eqQ {X : Cx} (hu : X.A.units + 128 < cLine) : OpR X (compareOp .Eq) (rEqQ X.K) := by
  intro pins s σ H x y v u Q I rx ry h
  obtain ⟨F, cls, pw, xs, ys, b, e, hx, hy, h, q⟩ := h
  have fin : ∀ b', b' = b → EP X pins σ Q (.bool b') s := fun b' eb => by subst eb; exact ⟨.bl _, H, I, rfl, q⟩
  unfold eqQ at h
  split at h
  · rename_i b' hb
    cases h
    obtain ⟨p, q', hp, hq, s1, s2, eb⟩ := eqD_some hb
    obtain ⟨as, r1⟩ := Dp.reads I p x v (dp_of e hx hp) rx
    obtain ⟨bs, r2⟩ := Dp.reads I q' y u (dp_of e hy hq) ry
    exact SeqAt.compareEq_shaped r1 r2 s1 s2 (by omega) (fin _ eb)
  · dsimp only at h
    obtain ⟨a, us, ev, hf, hd⟩ := hx
    obtain ⟨c, ws, ew, hg, he⟩ := hy
    subst ev ew
    cases (show v = Value.ref a from rx)
    cases (show u = Value.ref c from ry)
    cases hq : eqQL (eqQ 19) xs ys with
    | none => rw [hq] at h; cases h
    | some b0 =>
      rw [hq] at h
      have h : (b0 && xs.length == ys.length) = b := Option.some.inj h
      obtain ⟨ej, g1, g2⟩ := eqQL_get hq
      obtain ⟨_, i1, r1, o1, ho1, hc1, n1, hd1⟩ := (show ObjOk X.prog X.w H s.heap a (.tup us) from I.hok a _ (e _ _ hf))
      obtain ⟨_, i2, r2, o2, ho2, hc2, n2, hd2⟩ := (show ObjOk X.prog X.w H s.heap c (.tup ws) from I.hok c _ (e _ _ hg))
      have l1 : xs.length = i1.length := by rw [hd.length, r1.length]
      have l2 : ys.length = i2.length := by rw [he.length, r2.length]
      refine rcIn_tuples (items := i1.toArray) (items2 := i2.toArray) (e := ej) ⟨o1, ho1, hc1, n1, hd1⟩ ⟨o2, ho2, hc2, n2, hd2⟩ (by omega) (fun j q1 q2 => ?_) ?_
      · have h1 : j < i1.length := by simpa using q1
        have h2 : j < i2.length := by simpa using q2
        have hx : xs[j]? = some (xs[j]'(by omega)) := List.getElem?_eq_getElem _
        have hy : ys[j]? = some (ys[j]'(by omega)) := List.getElem?_eq_getElem _
        obtain ⟨v1, hv1, dv1⟩ := hd.get hx
        obtain ⟨v2, hv2, dv2⟩ := he.get hy
        obtain ⟨u1, hu1, ru1⟩ := r1.get hv1
        obtain ⟨u2, hu2, ru2⟩ := r2.get hv2
        rw [List.getElem?_eq_getElem h1] at hu1
        rw [List.getElem?_eq_getElem h2] at hu2
        cases hu1
        cases hu2
        have := (eqQ_in I e 19 _ _ _ _ _ _ _ dv1 dv2 (g1 j _ _ hx hy) ru1 ru2).1 X.A.in1 (by show X.A.units + 1 + 64 + 19 < cLine; omega)
        simpa using this
      · refine fin _ ?_
        rw [← h, ← g2, l1, l2]
        simp
end
section
variable {W : Wd} {B : Bs} {F F' H H' : Hp} {σ : L2.St} {ρ : Ev}
def gEqQ : D → D → Ev → (Ev → D → Prop) → Prop := fun x y ρ Q => ∃ xs ys b, x = .tup xs ∧ y = .tup ys ∧ eqQ 20 (.tup xs) (.tup ys) = some b ∧ Q ρ (.bl b)
theorem re_eqQ {ta tb : TE} {a b : DE} (ra : RE W B ta a) (rb : RE W B tb b) : RE W B (tOp (rEqQ W.K) ta tb) (fun ρ Q => a ρ fun ρ1 x => b ρ1 fun ρ2 y => gEqQ x y ρ2 Q) :=
  re_bin ra rb fun σ H F ρ x y dx dy Q R r d1 d2 h k => by
    obtain ⟨xs, ys, b, rfl, rfl, hb, h⟩ := h
    exact ⟨F, W.cls, W.pw, xs, ys, b, r.ex, d1, d2, hb, k _ H F ρ (.bl b) r (Same.refl _) rfl h⟩
end
end DL

-- part K00E
set_option maxHeartbeats 4000000
/-! K00: == and bool of papers -/
namespace DL
namespace K00
open PySem PySem.Spec PyProof.Rows L2
abbrev sEq : Stmt := inClass (topS 13) 2
abbrev sBoolP : Stmt := inClass (topS 13) 1
abbrev sBoolD : Stmt := inClass (topS 14) 0
theorem scE : FnScope ["self", "other"] ["self", "other"] (defScope sEq) := ⟨rfl, rfl, rfl, by decide +kernel, rfl, by decide +kernel, by decide +kernel⟩
theorem scBP : FnScope ["self"] ["self"] (defScope sBoolP) := ⟨rfl, rfl, rfl, by decide +kernel, rfl, by decide +kernel, by decide +kernel⟩
theorem scBD : FnScope ["self"] ["self"] (defScope sBoolD) := ⟨rfl, rfl, rfl, by decide +kernel, rfl, by decide +kernel, by decide +kernel⟩
/-- papers alike -/
def eqP (isP : Str → Option Bool) : D → D → Option Bool
  | .obj _ (n1 :: n2 :: _) (a :: .tup b :: _), .obj c' (m1 :: m2 :: _) (a' :: .tup b' :: _) => bif n1 == ("word" : Str) && n2 == ("parts" : Str) && m1 == ("word" : Str) && m2 == ("parts" : Str) && (isP c' == some true) then (match eqD a a' with | some false => some false | some true => eqQ 20 (.tup b) (.tup b') | none => none) else none
  | .obj _ _ _, .tup _ => some false
  | _, _ => none
def gEqP (isP : Str → Option Bool) : GF := fun ds c Q => ∃ x y b, ds = [x, y] ∧ eqP isP x y = some b ∧ Q (.bl b) c
section
variable {P : Program} {w : World} {K : PySem.W.Frag} {mg : Str → Option Value} {base : Heap} {cls : Str → Option Addr}
theorem ok_boolP {f : Addr} {fd : FuncData} {k : Nat} (F : Fun K "__bool__" "Paper.__bool__" sBoolP f fd) : FnOk P w K mg base CX0 (k + 1) f fd ["self"] (spD K cls (gB true)) := by
  refine F.ok scBP (fun vs H Q E h => len_of (n := 1) (fun ds c QD ⟨x, e, _⟩ => by rw [e]; rfl) h) (fun cdv A outer s H vs Q E hr h => ?_)
  refine ⟨_, pss_one (ps_ret pe_bl), body_of (fun pw B hio => rs_ret re_c) ?_ h⟩
  rintro ds c QD ⟨x, rfl, q⟩
  exact ⟨by show 1 ≤ 1; decide, q⟩
theorem ok_boolD {f : Addr} {fd : FuncData} {k : Nat} (F : Fun K "__bool__" "Denial.__bool__" sBoolD f fd) : FnOk P w K mg base CX0 (k + 1) f fd ["self"] (spD K cls (gB false)) := by
  refine F.ok scBD (fun vs H Q E h => len_of (n := 1) (fun ds c QD ⟨x, e, _⟩ => by rw [e]; rfl) h) (fun cdv A outer s H vs Q E hr h => ?_)
  refine ⟨_, pss_one (ps_ret pe_bl), body_of (fun pw B hio => rs_ret re_c) ?_ h⟩
  rintro ds c QD ⟨x, rfl, q⟩
  exact ⟨by show 1 ≤ 1; decide, q⟩
theorem ok_eq {f CP : Addr} {fd : FuncData} {k : Nat} {isP : Str → Option Bool} (F : Fun K "__eq__" "Paper.__eq__" sEq f fd) (m_isinstance : mg "isinstance" = none) (gPaper : mg "Paper" = some (.ref CP)) (kP : ∀ {pw}, KOk ⟨K, cls, pw⟩ (isSubD isP) (.ref CP)) (T : AttrT K cls ["word", "parts"]) :
    FnOk P w K mg base CX0 (k + 1) f fd ["self", "other"] (spD K cls (gEqP isP)) := by
  refine F.ok scE (fun vs H Q E h => len_of (n := 2) (fun ds c QD ⟨x, y, b, e, _⟩ => by rw [e]; rfl) h) (fun cdv A outer s H vs Q E hr h => ?_)
  have hu := hr.units
  have hu2 : (A.deeper (envOfC "Paper.__eq__" (defScope sEq) s.heap.objs.size f cdv)).units + 128 < cLine := by have := hr.un; omega
  refine ⟨_, (pss_one (ps_ret (pe_and (pe_callB call_isi (by rfl) m_isinstance (by decide +kernel) (pa_cons (pv 1) (pa_cons (pe_glob (by rfl) gPaper (v := .ref CP) rfl) pa_nil))) (pe_and (pe_cmpR (op_eqD hu) (pe_fld (pv 0) rfl) (pe_fld (pv 1) rfl) (nomark _)) (pe_one (pe_cmpR (op_eqQ hu2) (pe_fld (pv 0) rfl) (pe_fld (pv 1) rfl) (nomark _))))))), body_of (fun pw B hio => (rs_ret (re_andV (re_isi (re_var (i := 1) hio) (.own CP) (k := isSubD isP) kP) (re_andV (re_eqD (re_fld (re_var (i := 0) hio) T.cl (T.no _ (by decide +kernel))) (re_fld (re_var (i := 1) hio) T.cl (T.no _ (by decide +kernel)))) (re_eqQ (re_fld (re_var (i := 0) hio) T.cl (T.no _ (by decide +kernel))) (re_fld (re_var (i := 1) hio) T.cl (T.no _ (by decide +kernel)))))))) ?_ h⟩
  rintro ds c QD ⟨x, y, b, rfl, he, q⟩
  refine ⟨by show 2 ≤ 2; decide, ?_⟩
  unfold eqP at he
  split at he
  · rename_i c1 n1 n2 nr a1 b1 dr c2 m1 m2 mr a2 b2 er
    cases hc : (n1 == ("word" : Str) && n2 == ("parts" : Str) && m1 == ("word" : Str) && m2 == ("parts" : Str) && (isP c2 == some true)) with
    | false => rw [hc] at he; cases he
    | true =>
      rw [hc] at he
      simp only [Bool.and_eq_true, beq_iff_eq] at hc
      obtain ⟨⟨⟨⟨rfl, rfl⟩, rfl⟩, rfl⟩, h5⟩ := hc
      refine ⟨true, h5, ?_⟩
      cases e1 : eqD a1 a2 with
      | none => rw [e1] at he; cases he
      | some v =>
        rw [e1] at he
        cases v with
        | false =>
          cases he
          exact ⟨false, e1, q⟩
        | true => exact ⟨true, e1, b1, b2, b, rfl, rfl, he, q⟩
  · rename_i c1 ns ds xs
    cases he
    exact ⟨false, rfl, q⟩
  · cases he
end
end K00
end DL

-- part K00F
set_option maxHeartbeats 4000000
/-! K00: the errors are made -/
namespace DL
namespace K00
open PySem PySem.Spec PyProof.Rows L2
/-- an exception class C whose __init__ is that of D -/
structure EcC (K : PySem.W.Frag) (D C : Addr) : Prop where
  x : XkC K C
  mr : PySem.W.mroIn K C (.ref D) = some true
  sup : PySem.W.ks_superIn K C D "__init__" = some (some (.builtin "ValueError.__init__"))
section
variable {P : Program} {w : World} {K : PySem.W.Frag} {mg : Str → Option Value} {base : Heap}

abbrev sPartI : Stmt := inClass (topS 2) 0
theorem scPartI : FnScopeS ["self", "part"] ["self", "part"] (defScope sPartI) := ⟨rfl, rfl, rfl, by decide +kernel, rfl, by decide +kernel, by decide +kernel, by decide +kernel⟩
theorem ok_PartI {f D : Addr} {fd : FuncData} {k : Nat} (S : SupD P K mg "PartError.__init__" sPartI f D fd) : FnOk P w K mg base CX0 (k + 1) f fd ["self", "part"] (spE1 K (fun C => EcC K D C ∧ PySem.W.findIn K (.ref C) "part" = some none) "part") := by
  obtain ⟨oc, od, kV, doc, pm, an, cda, ct, osl, cc, cl, cld, csl, cdD, ccl, cdd, vs, ccs, file, tf, rfl, lk, hcd, lcd, hvs, hfile, lcc, hD⟩ := S.ex
  refine fn_sup lk hcd scPartI lcc rfl (fun vs H Q E ⟨a, C, x, e, _⟩ => by rw [e]; rfl) (fun A outer s H vs Q E hr h => ?_)
  obtain ⟨a, C, x, rfl, hH, ⟨T, hno⟩, q⟩ := h
  refine ⟨_, _, ps_superE rfl rfl rfl rfl rfl lk rfl rfl rfl lcd hvs hfile rfl lcc hD S.ms S.top S.no (pa_cons (pv 1) pa_nil) (by decide +kernel), pss_one (ps_ost (pv 0) (pv 1)), ?_⟩
  refine ⟨a, C, rfl, hH, T.x.o, T.mr, T.x.ve, T.sup, x, rfl, by show 1 ≤ 1000; decide, hH, ?_⟩
  exact ⟨x, rfl, .ref a, rfl, a, C, rfl, T.x.o, hno, .inl ⟨hH, fun dx h1 h2 => q dx h1 h2⟩⟩

abbrev sCommI : Stmt := inClass (topS 8) 0
theorem scCommI : FnScopeS ["self", "word"] ["self", "word"] (defScope sCommI) := ⟨rfl, rfl, rfl, by decide +kernel, rfl, by decide +kernel, by decide +kernel, by decide +kernel⟩
theorem ok_CommI {f D : Addr} {fd : FuncData} {k : Nat} (S : SupD P K mg "BadCommand.__init__" sCommI f D fd) : FnOk P w K mg base CX0 (k + 1) f fd ["self", "word"] (spE1 K (fun C => EcC K D C ∧ PySem.W.findIn K (.ref C) "word" = some none) "word") := by
  obtain ⟨oc, od, kV, doc, pm, an, cda, ct, osl, cc, cl, cld, csl, cdD, ccl, cdd, vs, ccs, file, tf, rfl, lk, hcd, lcd, hvs, hfile, lcc, hD⟩ := S.ex
  refine fn_sup lk hcd scCommI lcc rfl (fun vs H Q E ⟨a, C, x, e, _⟩ => by rw [e]; rfl) (fun A outer s H vs Q E hr h => ?_)
  obtain ⟨a, C, x, rfl, hH, ⟨T, hno⟩, q⟩ := h
  refine ⟨_, _, ps_superE rfl rfl rfl rfl rfl lk rfl rfl rfl lcd hvs hfile rfl lcc hD S.ms S.top S.no (pa_cons (pv 1) pa_nil) (by decide +kernel), pss_one (ps_ost (pv 0) (pv 1)), ?_⟩
  refine ⟨a, C, rfl, hH, T.x.o, T.mr, T.x.ve, T.sup, x, rfl, by show 1 ≤ 1000; decide, hH, ?_⟩
  exact ⟨x, rfl, .ref a, rfl, a, C, rfl, T.x.o, hno, .inl ⟨hH, fun dx h1 h2 => q dx h1 h2⟩⟩

abbrev sTextI : Stmt := inClass (topS 7) 0
theorem scTextI : FnScopeS ["self", "line", "word"] ["self", "line", "word"] (defScope sTextI) := ⟨rfl, rfl, rfl, by decide +kernel, rfl, by decide +kernel, by decide +kernel, by decide +kernel⟩
theorem ok_TextI {f D : Addr} {fd : FuncData} {k : Nat} (S : SupD P K mg "BadText.__init__" sTextI f D fd) : FnOk P w K mg base CX0 (k + 1) f fd ["self", "line", "word"] (spE2 K (fun C => EcC K D C ∧ PySem.W.findIn K (.ref C) "line" = some none ∧ PySem.W.findIn K (.ref C) "word" = some none) "line" "word") := by
  obtain ⟨oc, od, kV, doc, pm, an, cda, ct, osl, cc, cl, cld, csl, cdD, ccl, cdd, vs, ccs, file, tf, rfl, lk, hcd, lcd, hvs, hfile, lcc, hD⟩ := S.ex
  refine fn_sup lk hcd scTextI lcc rfl (fun vs H Q E ⟨a, C, x, y, e, _⟩ => by rw [e]; rfl) (fun A outer s H vs Q E hr h => ?_)
  obtain ⟨a, C, x, y, rfl, hH, ⟨T, hnf, hng⟩, q⟩ := h
  refine ⟨_, _, ps_superE rfl rfl rfl rfl rfl lk rfl rfl rfl lcd hvs hfile rfl lcc hD S.ms S.top S.no (pa_cons (pv 1) (pa_cons (pv 2) pa_nil)) (by decide +kernel), pss_cons (ps_ost (pv 0) (pv 1)) (pss_one (ps_ost (pv 0) (pv 2))), ?_⟩
  refine ⟨a, C, rfl, hH, T.x.o, T.mr, T.x.ve, T.sup, x, rfl, y, rfl, by show 2 ≤ 1000; decide, hH, ?_⟩
  refine ⟨x, rfl, .ref a, rfl, a, C, rfl, T.x.o, hnf, .inl ⟨hH, fun dx h1 h2 => ?_⟩⟩
  exact ⟨y, rfl, .ref a, rfl, a, C, rfl, T.x.o, hng, .inr ⟨dx, _, upd_same, by rw [upd_ne h2, upd_same], by show 1 ≤ 900; decide, q dx h1 h2⟩⟩

abbrev sManyI : Stmt := inClass (topS 10) 0
theorem scManyI : FnScopeS ["self", "what", "most"] ["self", "what", "most"] (defScope sManyI) := ⟨rfl, rfl, rfl, by decide +kernel, rfl, by decide +kernel, by decide +kernel, by decide +kernel⟩
theorem ok_ManyI {f D : Addr} {fd : FuncData} {k : Nat} (S : SupD P K mg "TooMany.__init__" sManyI f D fd) : FnOk P w K mg base CX0 (k + 1) f fd ["self", "what", "most"] (spE2 K (fun C => EcC K D C ∧ PySem.W.findIn K (.ref C) "what" = some none ∧ PySem.W.findIn K (.ref C) "most" = some none) "what" "most") := by
  obtain ⟨oc, od, kV, doc, pm, an, cda, ct, osl, cc, cl, cld, csl, cdD, ccl, cdd, vs, ccs, file, tf, rfl, lk, hcd, lcd, hvs, hfile, lcc, hD⟩ := S.ex
  refine fn_sup lk hcd scManyI lcc rfl (fun vs H Q E ⟨a, C, x, y, e, _⟩ => by rw [e]; rfl) (fun A outer s H vs Q E hr h => ?_)
  obtain ⟨a, C, x, y, rfl, hH, ⟨T, hnf, hng⟩, q⟩ := h
  refine ⟨_, _, ps_superE rfl rfl rfl rfl rfl lk rfl rfl rfl lcd hvs hfile rfl lcc hD S.ms S.top S.no (pa_cons (pv 1) (pa_cons (pv 2) pa_nil)) (by decide +kernel), pss_cons (ps_ost (pv 0) (pv 1)) (pss_one (ps_ost (pv 0) (pv 2))), ?_⟩
  refine ⟨a, C, rfl, hH, T.x.o, T.mr, T.x.ve, T.sup, x, rfl, y, rfl, by show 2 ≤ 1000; decide, hH, ?_⟩
  refine ⟨x, rfl, .ref a, rfl, a, C, rfl, T.x.o, hnf, .inl ⟨hH, fun dx h1 h2 => ?_⟩⟩
  exact ⟨y, rfl, .ref a, rfl, a, C, rfl, T.x.o, hng, .inr ⟨dx, _, upd_same, by rw [upd_ne h2, upd_same], by show 1 ≤ 900; decide, q dx h1 h2⟩⟩
end
end K00
end DL

-- part EX6
set_option maxHeartbeats 4000000
/-! == and != where one class stands below the other; {k: i}; a list times an int -/
namespace DL
open PySem PySem.Spec PyProof.Rows L2
section
variable {M : Model} {prog : Program} {w : World} {A : Around} {E : Value → Shared → Prop} {s : Shared} {K : PySem.W.Frag} {x y C C2 f : Addr} {ox oy : Obj} {od od2 : Option Obj}
/-- x != y, y of a class below x's: y is asked first -/
theorem ne_KR {Q : Value → Shared → Prop} (hu : A.units + 1 < cLine) (X : K.In s.heap) (I : PySem.W.InstAt s.heap x ox C od) (I2 : PySem.W.InstAt s.heap y oy C2 od2) (hcc : C ≠ C2) (hsub : PySem.W.subIn K (.ref C2) (.ref C) = some true)
    (hne : PySem.W.findIn K (.ref C2) "__ne__" = some (some (.builtin "object.__ne__"))) (hm : PySem.W.mroIn K C2 (.type "object") = some true) (hs : PySem.W.findIn K (.ref C2) "__eq__" = some (some (.ref f))) (hf : PySem.W.isFn K (.ref f) = true)
    (h : wpAny (model prog w) A.in1 (call (.ref f) [.ref y, .ref x]) (fun v s' => ∃ c, v = .bool c ∧ Q (.bool (!c)) s') E s) : wpAny (model prog w) A (richCompare .NotEq (.ref x) (.ref y)) Q E s := by
  have one : wpAny (model prog w) A (tryCompare (.ref y) "__ne__" (.ref x)) (fun r s' => ∃ v, r = some v ∧ Q v s') E s := by
    unfold tryCompare
    refine wpAny_bind (ifBound_objNe X I2 hne (wpAny_call (codeAny_call_builtin F.cmp_object.ne.plain F.cmpEntry_ne (PySem.W.check_slot F.cmpKind_ne F.cmpSplit_ne (I2.type.andThen (PySem.W.looks_mroIn X hm)) (F.cmpArgs_ne _ _)
      (entry_objNe X I2 hs hf hu (wpAny_mono h (fun v s' hv => ?_) fun _ _ e => e))))))
    obtain ⟨c, rfl, hq⟩ := hv
    first | exact ⟨c, rfl, wpAny_pure ⟨_, rfl, hq⟩⟩ | exact ⟨c, rfl, wpAny_pure (wpAny_pure ⟨_, rfl, hq⟩)⟩
  unfold richCompare
  simp only [oneThing_ref]
  refine wpAny_holding (wpAny_bind (wpAny_cRoomFor (Nat.lt_of_succ_lt hu) ?_))
  refine wpAny_bind (I.type.here (wpAny_bind (I2.type.here ?_)))
  rw [cmpInfo_NotEq]
  dsimp only
  have hb : (Value.ref C != Value.ref C2) = true := by
    simp [bne_iff_ne, hcc]
  rw [if_pos hb]
  refine wpAny_bind ((PySem.W.looks_subIn X hsub).here ?_)
  simp only [if_true]
  refine wpAny_bind (wpAny_mono one (fun r s' z => ?_) fun _ _ e => e)
  obtain ⟨v, rfl, hq⟩ := z
  exact wpAny_bind (wpAny_rule (wpAny_pure hq))
end
def rNeR (K : PySem.W.Frag) (f : Addr) (sp : Sp) (E : XK) : R2 := fun x y H Q => ∃ a C dx fs b C2 dy gs, x = .ref a ∧ H a = some (.ins C dx fs) ∧ y = .ref b ∧ H b = some (.ins C2 dy gs) ∧ C ≠ C2 ∧ PySem.W.subIn K (.ref C2) (.ref C) = some true ∧ PySem.W.findIn K (.ref C2) "__eq__" = some (some (.ref f)) ∧
  PySem.W.findIn K (.ref C2) "__ne__" = some (some (.builtin "object.__ne__")) ∧ PySem.W.mroIn K C2 (.type "object") = some true ∧ sp [y, x] H (fun v H' => ∃ b, v = .bl b ∧ Q (.bl (!b)) H') E
def rNeX (K : PySem.W.Frag) (f : Addr) (sp : Sp) (E : XK) : R2 := fun x y H Q => rNeI K f sp E x y H Q ∨ rNeR K f sp E x y H Q
section
variable {X : Cx} {CX : CXT} {n : Nat} {f : Addr} {sp : Sp} {E : XK}
theorem op_neX (hf : PySem.W.isFn X.K (.ref f) = true) (F : FnR X.prog X.w X.K X.mg X.base CX n f sp) (hr : Room (n + 1) X.A) (hx : Passes CX X E) : OpR X (compareOp .NotEq) (rNeX X.K f sp E) := by
  intro pins s σ H x y v u Q I rx ry h
  rcases h with h | h
  · exact op_neI hf F hr hx pins s σ H x y v u Q I rx ry h
  obtain ⟨a, C, dx, fs, b, C2, dy, gs, rfl, ha, rfl, hb, hcc, hsub, hs, hne, hm, q⟩ := h
  cases (show v = Value.ref a from rx)
  cases (show u = Value.ref b from ry)
  obtain ⟨mA, O, _⟩ := ins_get I.hok ha
  obtain ⟨oda, J, _⟩ := O.look
  obtain ⟨mB, O2, _⟩ := ins_get I.hok hb
  obtain ⟨odb, J2, _⟩ := O2.look
  refine ne_KR (by have := hr.un; omega) I.kIn J J2 hcc hsub hne hm hs hf ?_
  refine wpAny_call (codeAny_mono (F X.A.in1 X.stack s H [.ref b, .ref a] [.ref b, .ref a] _ E hr.in1 I.env0.in1 (.cons rfl (.cons rfl .nil)) q) fun r s' hq => ?_)
  cases r with
  | error e => exact hx pins σ _ _ e s' I hq
  | ok fl =>
    cases fl with
    | ret u' =>
      obtain ⟨v', H', I3, rv, c, ev, q3⟩ := I.after hq
      subst ev
      exact ⟨c, rv, .bl (!c), H', I3, rfl, q3⟩
    | next => exact False.elim hq
    | brk => exact False.elim hq
    | cont => exact False.elim hq
end
/-- classes that share an __eq__; okp: neither asks the other first; sub: the second is below the first -/
structure EqU (K : PySem.W.Frag) (cls : Str → Option Addr) (f : Addr) (okp sub : Str → Str → Bool) : Prop where
  ins : InsT K cls
  eq : ∀ c C, cls c = some C → PySem.W.findIn K (.ref C) "__eq__" = some (some (.ref f))
  ne : ∀ c C, cls c = some C → PySem.W.findIn K (.ref C) "__ne__" = some (some (.builtin "object.__ne__"))
  nf : ∀ c C c2 C2, cls c = some C → cls c2 = some C2 → okp c c2 = true → PySem.W.notFirst K C (.ref C2) = true
  nt : ∀ c C, cls c = some C → PySem.W.notFirst K C (.type "tuple") = true
  sb : ∀ c C c2 C2, cls c = some C → cls c2 = some C2 → sub c c2 = true → C ≠ C2 ∧ PySem.W.subIn K (.ref C2) (.ref C) = some true
section
variable {W : Wd} {B : Bs} {F F' H H' : Hp} {σ : L2.St} {ρ : Ev}
def okY (okp : Str → Str → Bool) (c : Str) : D → Bool
  | .obj c2 _ _ => okp c c2
  | .tup _ => true
  | _ => false
theorem EqU.ty {f : Addr} {okp sub : Str → Str → Bool} (T : EqU W.K W.cls f okp sub) (e : Same F H) {c : Str} {C : Addr} {d : D} {v : V} (hc : W.cls c = some C) (ho : okY okp c d = true) (h : Den W F d v) : ∃ t, TyX W.K H v t ∧ PySem.W.notFirst W.K C t = true := by
  cases d with
  | obj c' ns ds =>
    have h' := h
    obtain ⟨a, C', dx, gs, ev, hf, hc', hn, hd⟩ := h
    exact ⟨.ref C', tyx_obj T.ins e h' (by show (W.cls c').map Value.ref = _; rw [hc']; rfl), T.nf _ _ _ _ hc hc' ho⟩
  | tup xs => exact ⟨_, tyx_of e h rfl, T.nt _ _ hc⟩
  | _ => cases ho
def gEqU (okp : Str → Str → Bool) (G : GF) : D → D → Ev → (Ev → D → Prop) → Prop := fun x y ρ Q => match x with
  | .obj c ns ds => okY okp c y = true ∧ G [.obj c ns ds, y] ρ.c fun d c' => Q (ρ.cnt c') d
  | _ => False
def gNeU (okp sub : Str → Str → Bool) (G : GF) : D → D → Ev → (Ev → D → Prop) → Prop := fun x y ρ Q => match x with
  | .obj c ns ds => (okY okp c y = true ∧ G [.obj c ns ds, y] ρ.c fun d c' => match d with | .bl b => Q (ρ.cnt c') (.bl (!b)) | _ => False) ∨
    ∃ c2 ms es, y = .obj c2 ms es ∧ sub c c2 = true ∧ G [y, .obj c ns ds] ρ.c fun d c' => match d with | .bl b => Q (ρ.cnt c') (.bl (!b)) | _ => False
  | _ => False
theorem re_eqU {f : Addr} {G : GF} {ta tb : TE} {a b : DE} {E : XK} {okp sub : Str → Str → Bool} (T : EqU W.K W.cls f okp sub) (ra : RE W B ta a) (rb : RE W B tb b) : RE W B (tOp (rEqI W.K f (spD W.K W.cls G) E) ta tb) (fun ρ Q => a ρ fun ρ1 x => b ρ1 fun ρ2 y => gEqU okp G x y ρ2 Q) :=
  re_bin ra rb fun σ H F ρ x y dx dy Q R r d1 d2 h k => by
    unfold gEqU at h
    split at h
    · rename_i c ns ds
      obtain ⟨ho, h⟩ := h
      have d1' := d1
      obtain ⟨p, C, dxx, gs, ev, hf, hc, hn, hd⟩ := d1
      obtain ⟨t, ht, hnf⟩ := T.ty r.ex hc ho d2
      refine ⟨p, C, dxx, gs, t, ev, r.ex _ _ hf, ht, hnf, T.eq _ _ hc, ?_⟩
      exact r.spD (.cons d1' (.cons d2 DenL.nil)) h fun v H' F' ρ' d r' s' dv q => k v H' F' ρ' d r' s' dv q
    · exact h.elim
theorem re_neU {f : Addr} {G : GF} {ta tb : TE} {a b : DE} {E : XK} {okp sub : Str → Str → Bool} (T : EqU W.K W.cls f okp sub) (ra : RE W B ta a) (rb : RE W B tb b) : RE W B (tOp (rNeX W.K f (spD W.K W.cls G) E) ta tb) (fun ρ Q => a ρ fun ρ1 x => b ρ1 fun ρ2 y => gNeU okp sub G x y ρ2 Q) :=
  re_bin ra rb fun σ H F ρ x y dx dy Q R r d1 d2 h k => by
    unfold gNeU at h
    split at h
    · rename_i c ns ds
      have d1' := d1
      obtain ⟨p, C, dxx, gs, ev, hf, hc, hn, hd⟩ := d1
      rcases h with ⟨ho, h⟩ | ⟨c2, ms, es, rfl, hsub, h⟩
      · obtain ⟨t, ht, hnf⟩ := T.ty r.ex hc ho d2
        refine .inl ⟨p, C, dxx, gs, t, ev, r.ex _ _ hf, ht, hnf, T.eq _ _ hc, T.ne _ _ hc, T.ins.hm _ _ hc, ?_⟩
        refine r.spD (Q := fun ρ' d => match d with | .bl b => Q ρ' (.bl (!b)) | _ => False) (.cons d1' (.cons d2 DenL.nil)) h fun v H' F' ρ' d r' s' dv q => ?_
        split at q
        · rename_i b
          have ev : v = .bl b := dv
          exact ⟨b, ev, k (.bl (!b)) H' F' ρ' (.bl (!b)) r' s' rfl q⟩
        · exact q.elim
      · have d2' := d2
        obtain ⟨p2, C2, dy2, gs2, ev2, hf2, hc2, hn2, hd2⟩ := d2
        obtain ⟨q1, q2⟩ := T.sb _ _ _ _ hc hc2 hsub
        refine .inr ⟨p, C, dxx, gs, p2, C2, dy2, gs2, ev, r.ex _ _ hf, ev2, r.ex _ _ hf2, q1, q2, T.eq _ _ hc2, T.ne _ _ hc2, T.ins.hm _ _ hc2, ?_⟩
        refine r.spD (Q := fun ρ' d => match d with | .bl b => Q ρ' (.bl (!b)) | _ => False) (.cons d2' (.cons d1' DenL.nil)) h fun v H' F' ρ' d r' s' dv q => ?_
        split at q
        · rename_i b
          have ev : v = .bl b := dv
          exact ⟨b, ev, k (.bl (!b)) H' F' ρ' (.bl (!b)) r' s' rfl q⟩
        · exact q.elim
    · exact h.elim
/-- {k: i} -/
theorem re_disp1 {k : Str} {i : Int} : RE W B (tDisp [(tC (.str k), tC (.int i))]) (dC (.dik [.inr k] [.int i])) := by
  intro σ H F ρ Q R rl h kk p hp
  refine ⟨upd_same, [((.inr k : Key), V.int i)], rfl, by show 1 ≤ 15; decide, ?_⟩
  have e : upd (upd H p (.dK [])) p (.dK (mergeK [] [((.inr k : Key), V.int i)])) = upd H p (.dK [(.inr k, .int i)]) := by
    funext b
    by_cases hb : b = p
    · subst hb; rw [upd_same, upd_same]; rfl
    · rw [upd_ne hb, upd_ne hb, upd_ne hb]
  rw [e]
  have st := Stp.one (o := .dK [(.inr k, .int i)]) rl.ex hp
  exact kk _ _ _ ρ (.dik [.inr k] [.int i]) (rl.stp st) st.ff ⟨p, [(.inr k, .int i)], rfl, upd_same, rfl, ⟨_, _, rfl, rfl, rfl⟩⟩ h
theorem denL_rep {ds : List D} {xs : List V} (h : DenL W F ds xs) : ∀ n : Nat, DenL W F (List.replicate n ds).flatten (List.replicate n xs).flatten
  | 0 => rfl
  | n + 1 => by
    rw [List.replicate_succ, List.replicate_succ, List.flatten_cons, List.flatten_cons]
    exact h.append (denL_rep h n)
/-- [..] * n -/
theorem re_rep {ta : TE} {a : DE} {n : Int} (ra : RN W B ta a) : RE W B (tOp rRep ta (tC (.int n))) (fun ρ Q => a ρ fun ρ1 x => ∃ ds, x = .lst ds ∧ 0 ≤ n ∧ n < 2 ^ 63 ∧ ds.length * n.toNat ≤ sizeLine ∧ Q ρ1 (.lst (List.replicate n.toNat ds).flatten)) := by
  intro σ H F ρ Q R rl h k
  refine ra σ H F ρ _ _ rl h fun p H1 F1 ρ1 d r1 s1 n1 h1 => ?_
  obtain ⟨ds, rfl, h2, h3, h4, h5⟩ := h1
  obtain ⟨xs, hp, hd⟩ := n1.own
  refine ⟨p, n, xs, rfl, rfl, hp, by omega, h3, by rw [← hd.length]; exact h4, fun q hq => ?_⟩
  have st := Stp.one (o := .lst (List.replicate n.toNat xs).flatten) r1.ex hq
  exact k _ _ _ ρ1 (.lst _) (r1.stp st) (s1.trans st.ff) ⟨q, _, rfl, .inl (.inl upd_same), (denL_rep hd _).mono st.ff⟩ h5
end
end DL

-- part EX7
set_option maxHeartbeats 4000000
/-! x, y = a, b; != of texts; how long a repr is -/
namespace DL
open PySem PySem.Spec PyProof.Rows L2
mutual
/-- no sign of a text is beyond what repr writes short -/
def strsS : PyData → Bool
  | .str x => x.cps.toList.all fun c => decide (c < 16 ^ 8)
  | .list xs => strsSL xs
  | .tuple xs => strsSL xs
  | .dict kvs => strsSK kvs
  | _ => true
def strsSL : List PyData → Bool
  | [] => true
  | x :: xs => strsS x && strsSL xs
def strsSK : List (PyData × PyData) → Bool
  | [] => true
  | (k, v) :: r => strsS k && strsS v && strsSK r
end
mutual
theorem leaves_of : ∀ d : PyData, d.showable = true → strsS d = true → d.leavesShort 2000 = true
  | .none, _, _ => rfl
  | .bool _, _, _ => rfl
  | .int i, h, _ => by
    have h : i.natAbs.log2 < 1920 := by simpa [PyData.showable] using h
    have e := int_text_length_le (a := i) (k := 1920) (by decide) h
    unfold PyData.leavesShort
    refine decide_eq_true ?_
    show (Str.ofString (toString i)).length ≤ 2000
    rw [PySem.ofString_length]
    omega
  | .str x, _, h => by
    unfold strsS at h
    unfold PyData.leavesShort
    exact h
  | .list xs, h, g => by
    unfold PyData.showable at h
    unfold strsS at g
    unfold PyData.leavesShort
    exact leaves_ofL xs h g
  | .tuple xs, h, g => by
    unfold PyData.showable at h
    unfold strsS at g
    unfold PyData.leavesShort
    exact leaves_ofL xs h g
  | .dict kvs, h, g => by
    unfold PyData.showable at h
    unfold strsS at g
    unfold PyData.leavesShort
    exact leaves_ofK kvs h g
theorem leaves_ofL : ∀ xs : List PyData, PyData.showableAll xs = true → strsSL xs = true → PyData.leavesShortAll 2000 xs = true
  | [], _, _ => rfl
  | x :: xs, h, g => by
    unfold PyData.showableAll at h
    unfold strsSL at g
    unfold PyData.leavesShortAll
    rw [Bool.and_eq_true] at h g ⊢
    exact ⟨leaves_of x h.1 g.1, leaves_ofL xs h.2 g.2⟩
theorem leaves_ofK : ∀ kvs : List (PyData × PyData), PyData.showableKv kvs = true → strsSK kvs = true → PyData.leavesShortKv 2000 kvs = true
  | [], _, _ => rfl
  | (k, v) :: r, h, g => by
    unfold PyData.showableKv at h
    unfold strsSK at g
    unfold PyData.leavesShortKv
    rw [Bool.and_eq_true, Bool.and_eq_true] at h g ⊢
    exact ⟨⟨leaves_of k h.1.1 g.1.1, leaves_of v h.1.2 g.1.2⟩, leaves_ofK r h.2 g.2⟩
end
/-- repr may be asked of it -/
def chkQ (x : D) : Bool := match toQ x with
  | some p => p.showable && decide (p.depth ≤ 60) && strsS p && decide (p.weight ≤ 8000)
  | none => false
theorem chkQ_of {x : D} (h : chkQ x = true) : ∃ p, toQ x = some p ∧ p.showable = true ∧ p.depth ≤ 60 ∧ p.shown.length ≤ sizeLine := by
  unfold chkQ at h
  split at h
  · rename_i p hp
    simp only [Bool.and_eq_true, decide_eq_true_eq] at h
    obtain ⟨⟨⟨h1, h2⟩, h3⟩, h4⟩ := h
    refine ⟨p, hp, h1, h2, ?_⟩
    have e := PyData.shown_le 2000 (by decide) p (leaves_of p h1 h3)
    have : (2002 * 8000 + 2000 : Nat) ≤ sizeLine := by decide
    have : 2002 * p.weight ≤ 2002 * 8000 := Nat.mul_le_mul_left _ h4
    omega
  · cases h
section
variable {W : Wd} {B : Bs} {F F' H H' : Hp} {σ : L2.St} {ρ : Ev}
def gNeS : D → D → Ev → (Ev → D → Prop) → Prop := fun x y ρ Q => ∃ s t b, x = .str s ∧ y = .str t ∧ b = decide (s = t) ∧ Q ρ (.bl (!b))
theorem dec_str {s t : Str} : decide (V.str s = V.str t) = decide (s = t) := by
  by_cases h : s = t
  · subst h; simp
  · rw [decide_eq_false h, decide_eq_false (fun z => h (V.str.inj z))]
theorem re_neS {ta tb : TE} {a b : DE} (ra : RE W B ta a) (rb : RE W B tb b) : RE W B (tOp rNe ta tb) (fun ρ Q => a ρ fun ρ1 x => b ρ1 fun ρ2 y => gNeS x y ρ2 Q) :=
  re_bin ra rb fun σ H F ρ x y dx dy Q R r d1 d2 h k => by
    obtain ⟨s, t, c, rfl, rfl, hc, h⟩ := h
    have e1 : x = .str s := d1
    have e2 : y = .str t := d2
    subst e1 e2
    refine ⟨rfl, ?_⟩
    rw [dec_str, ← hc]
    exact k (.bl (!c)) H F ρ (.bl (!c)) r (Same.refl _) rfl h
def dPar (i j : Nat) (t : DA) : DS := fun DD ρ => t ρ fun ρ1 ds => match ds with | [x, y] => DD.nx ((ρ1.set i (.v x)).set j (.v y)) | _ => False
theorem rs_par {i j : Nat} {ta : TA} {t : DA} (ra : RA W B ta t) : RS W B (tPar i j ta) (dPar i j t) := by
  intro σ H F ρ D DD rl h f
  refine ra σ H F ρ _ _ rl h fun vs H1 F1 ρ1 ds r1 s1 d1 h1 => ?_
  split at h1
  · obtain ⟨u, v, rfl, du, dv⟩ := den2 d1
    exact ⟨u, v, rfl, f.nx _ _ F1 _ ((r1.setv du).setv dv) s1 h1⟩
  · exact h1.elim
end
end DL

-- part K00L
set_option maxHeartbeats 4000000
/-! K00: the plain law: what the trees are, told by evaluation -/
namespace DL
namespace K00
open PySem PySem.Spec PyProof.Rows L2
def nmOf (c : Str) : Option Str := bif [("Paper" : Str), "Denial", "Step", "Call"].contains c then some c else none
def isP (c : Str) : Option Bool := bif [("Paper" : Str), "Denial", "Step", "Call"].contains c then some true else none
def isD (c : Str) : Option Bool := bif [("Denial" : Str)].contains c then some true else bif [("Paper" : Str), "Step", "Call"].contains c then some false else none
def bOf (c : Str) : Option Bool := (isD c).map (!·)
def okp (c c2 : Str) : Bool := !(c == ("Paper" : Str)) || c2 == ("Paper" : Str)
def subp (c c2 : Str) : Bool := c == ("Paper" : Str) && c2 == ("Denial" : Str)
def sevens : List D := [.non, .int 5, .str "point", .tup [.str "x", .int 1], .lst [.int 3, .lst [.int 4]], .dik [.inr "a"] [.int 1], .int 10000000000000000000000000000000000000000]
def fives : List D := [.int 0, .str "x y", .non, .tup [], .lst [.lst []]]
abbrev stepT (w x y z : D) : D := .obj "Step" ["word", "parts", "kind", "start", "goal", "act"] [.str (Txt.lower "Step"), .tup [keptD w, keptD x, keptD y, keptD z], keptD w, keptD x, keptD y, keptD z]
abbrev callT (w x y z : D) : D := .obj "Call" ["word", "parts", "point", "part", "kept", "behind"] [.str (Txt.lower "Call"), .tup [keptD w, keptD x, keptD y, keptD z], keptD w, keptD x, keptD y, keptD z]
abbrev papT (xs : List D) : D := .obj "Paper" ["word", "parts"] [.str (Txt.lower "Paper"), .tup (keptL xs)]
abbrev denT (xs : List D) : D := .obj "Denial" ["word", "parts"] [.str (Txt.lower "Denial"), .tup (keptL xs)]
theorem lowS : Txt.lower ("Step" : Str) = "step" := by decide +kernel
theorem lowC : Txt.lower ("Call" : Str) = "call" := by decide +kernel
theorem lowP : Txt.lower ("Paper" : Str) = "paper" := by decide +kernel
theorem lowD : Txt.lower ("Denial" : Str) = "denial" := by decide +kernel
theorem nmPaper : nmOf "Paper" = some "Paper" := by decide +kernel
theorem lenPaper : (("Paper" : Str)).length ≤ 5592405 := by decide +kernel
theorem isPPaper : isP "Paper" = some true := by decide +kernel
theorem isDPaper : isD "Paper" = some false := by decide +kernel
theorem nmDenial : nmOf "Denial" = some "Denial" := by decide +kernel
theorem lenDenial : (("Denial" : Str)).length ≤ 5592405 := by decide +kernel
theorem isPDenial : isP "Denial" = some true := by decide +kernel
theorem isDDenial : isD "Denial" = some true := by decide +kernel
theorem nmStep : nmOf "Step" = some "Step" := by decide +kernel
theorem lenStep : (("Step" : Str)).length ≤ 5592405 := by decide +kernel
theorem isPStep : isP "Step" = some true := by decide +kernel
theorem isDStep : isD "Step" = some false := by decide +kernel
theorem nmCall : nmOf "Call" = some "Call" := by decide +kernel
theorem lenCall : (("Call" : Str)).length ≤ 5592405 := by decide +kernel
theorem isPCall : isP "Call" = some true := by decide +kernel
theorem isDCall : isD "Call" = some false := by decide +kernel
theorem okS : ∀ a ∈ sevens, ∀ b ∈ fives, okK 8 (.tup [a, b, a, b]) = true := by decide +kernel
theorem okC : ∀ a ∈ sevens, ∀ b ∈ fives, okK 8 (.tup [b, a, b, a]) = true := by decide +kernel
theorem okab : ∀ a ∈ sevens, ∀ b ∈ fives, okK 8 (.tup [a, b]) = true := by decide +kernel
theorem oka : ∀ a ∈ sevens, okK 8 (.tup [a]) = true := by decide +kernel
theorem okk : ∀ a ∈ sevens, ∀ b ∈ fives, okK 8 (.tup [keptD a, keptD b]) = true := by decide +kernel
theorem okz : ∀ a ∈ sevens, okK 8 (.tup [.tup [a, .str "zz"]]) = true := by decide +kernel
theorem oky : ∀ a ∈ sevens, okK 8 (.tup [.tup [a]]) = true := by decide +kernel
theorem ok0 : okK 8 (.tup []) = true := by decide +kernel
theorem oA : ∀ a ∈ sevens, okK 8 a = true := by decide +kernel
theorem oB : ∀ b ∈ fives, okK 8 b = true := by decide +kernel
theorem r1 : ∀ a ∈ sevens, ∀ b ∈ fives, chkQ (.lst [.str "step", .tup [keptD a, keptD b, keptD a, keptD b], keptD a, keptD b, keptD a, keptD b]) = true := by decide +kernel
theorem r2 : ∀ a ∈ sevens, ∀ b ∈ fives, chkQ (.lst [.str "call", .tup [keptD b, keptD a, keptD b, keptD a], keptD b, keptD a, keptD b, keptD a]) = true := by decide +kernel
theorem r3 : ∀ a ∈ sevens, ∀ b ∈ fives, chkQ (.lst [.str "paper", .tup [keptD a, keptD b], .str "denial", .tup [keptD a, keptD b]]) = true := by decide +kernel
theorem q1 : ∀ a ∈ sevens, ∀ b ∈ fives, eqP isP (stepT a b a b) (stepT a b a b) = some true := by decide +kernel
theorem q2 : ∀ a ∈ sevens, ∀ b ∈ fives, eqP isP (callT b a b a) (callT b a b a) = some true := by decide +kernel
theorem q3 : ∀ a ∈ sevens, ∀ b ∈ fives, eqP isP (stepT a b a b) (callT b a b a) = some false := by decide +kernel
theorem q4 : ∀ a ∈ sevens, ∀ b ∈ fives, eqP isP (papT [a, b]) (papT [keptD a, keptD b]) = some true := by decide +kernel
theorem q5 : ∀ a ∈ sevens, ∀ b ∈ fives, eqP isP (denT [a, b]) (papT [a, b]) = some false := by decide +kernel
theorem q6 : ∀ a ∈ sevens, ∀ b ∈ fives, eqP isP (papT [a, b]) (papT [a]) = some false := by decide +kernel
theorem q7 : eqP isP (papT []) (papT []) = some true := by decide +kernel
theorem q8 : ∀ a ∈ sevens, eqP isP (papT [.tup [a, .str "zz"]]) (papT [.tup [a]]) = some false := by decide +kernel
theorem q9 : eqD (.lst [.bl true, .bl true, .bl false]) (.lst [.bl true, .bl true, .bl false]) = some true := by decide +kernel
theorem r4 : ∀ a ∈ sevens, chkQ (.lst [a, a, a, a]) = true := by decide +kernel
theorem r5 : ∀ a ∈ sevens, ∀ b ∈ fives, chkQ (.lst [a, b, a]) = true := by decide +kernel
theorem r6 : ∀ a ∈ sevens, ∀ b ∈ fives, chkQ (.lst [a, b]) = true := by decide +kernel
theorem q10 : ∀ i < 8, eqD (.lst ((List.range 8).map fun j => .bl (decide (i = j)))) (.lst ((List.range 8).map fun j => .bl (decide (j = i)))) = some true := by decide +kernel
theorem q11 : eqD (.lst [.bl true, .bl true, .bl true, .bl true, .bl false, .bl false, .bl false, .bl false]) (.lst [.bl true, .bl true, .bl true, .bl true, .bl false, .bl false, .bl false, .bl false]) = some true := by decide +kernel
/-- repr of the same -/
theorem rep_of {x y : D} (e : x = y) (h : chkQ y = true) : ∃ p q, toQ x = some p ∧ p.showable = true ∧ p.depth ≤ 60 ∧ p.shown.length ≤ sizeLine ∧ toQ y = some q ∧ q.showable = true ∧ q.depth ≤ 60 ∧ q.shown.length ≤ sizeLine ∧ true = decide (p.shown = q.shown) := by
  subst e
  obtain ⟨p, h1, h2, h3, h4⟩ := chkQ_of h
  exact ⟨p, p, h1, h2, h3, h4, h1, h2, h3, h4, (decide_eq_true rfl).symm⟩
end K00
end DL

-- part K00G
set_option maxHeartbeats 4000000
/-! K00: _law_flags_of -/
namespace DL
namespace K00
open PySem PySem.Spec PyProof.Rows L2
/-- what the written part says of the errors' classes -/
structure ErrT (K : PySem.W.Frag) (mg : Str → Option Value) (Cs : Nat → Addr) (CSo CPt : Addr) : Prop where
  g0 : mg "BadProgram" = some (.ref (Cs 0))
  g1 : mg "BadPlace" = some (.ref (Cs 1))
  g2 : mg "BadNumber" = some (.ref (Cs 2))
  g3 : mg "BadValue" = some (.ref (Cs 3))
  g4 : mg "BadText" = some (.ref (Cs 4))
  g5 : mg "BadCommand" = some (.ref (Cs 5))
  g6 : mg "Nothing" = some (.ref (Cs 6))
  g7 : mg "TooMany" = some (.ref (Cs 7))
  gS : mg "SoError" = some (.ref CSo)
  gP : mg "PartError" = some (.ref CPt)
  x : ∀ i, i < 8 → XkC K (Cs i)
  k : ∀ i j, i < 8 → j < 8 → PySem.W.kitOne K (.ref (Cs i)) (.ref (Cs j)) = some (decide (i = j))
  kS : ∀ i, i < 8 → PySem.W.kitOne K (.ref (Cs i)) (.ref CSo) = some true
  kP : ∀ i, i < 8 → PySem.W.kitOne K (.ref (Cs i)) (.ref CPt) = some (decide (i < 4))
  kV : ∀ i, i < 8 → PySem.W.kitOne K (.ref (Cs i)) (.type "ValueError") = some true
  oc : PySem.W.specialIn K (.builtin "object.__class__") "__get__" = some (some (.builtin "getset_descriptor.__get__"))
  ot : PySem.W.takesIn K (.builtin "object.__class__") = some true
abbrev sFl : Stmt := topS 23
theorem scFl : FnScope ["error", "found"] ["error"] (defScope sFl) := ⟨rfl, rfl, rfl, by decide +kernel, rfl, by decide +kernel, by decide +kernel⟩
def gFl (Cs : Nat → Addr) : GF := fun ds c Q => ∃ (i : Nat) (ns : List Str) (es : List D), i < 8 ∧ ds = [.exc (Cs i) ns es] ∧ Q (.lst ((List.range 8).map fun j => .bl (decide (i = j)))) c
section
variable {P : Program} {w : World} {K : PySem.W.Frag} {mg : Str → Option Value} {base : Heap} {cls : Str → Option Addr}
theorem ok_fl {f : Addr} {fd : FuncData} {k : Nat} {Cs : Nat → Addr} {CSo CPt : Addr} (F : Fun K "_law_flags_of" "_law_flags_of" sFl f fd) (T : ErrT K mg Cs CSo CPt) (m_isinstance : mg "isinstance" = none) : FnOk P w K mg base CX0 (k + 1) f fd ["error"] (spD K cls (gFl Cs)) := by
  refine F.ok scFl (fun vs H Q E h => len_of (n := 1) (fun ds c QD ⟨i, ns, es, hi, e, _⟩ => by rw [e]; rfl) h) (fun cdv A outer s H vs Q E hr h => ?_)
  refine ⟨_, (pss_cons (ps_set (i := 1) scFl.nd rfl (.inl rfl) (pe_lst (pa_cons (pe_callB (call_isiE T.oc T.ot) (by rfl) m_isinstance (by decide +kernel) (pa_cons (pv 0) (pa_cons (pe_glob (by rfl) T.g0 (v := .ref (Cs 0)) rfl) pa_nil))) (pa_cons (pe_callB (call_isiE T.oc T.ot) (by rfl) m_isinstance (by decide +kernel) (pa_cons (pv 0) (pa_cons (pe_glob (by rfl) T.g1 (v := .ref (Cs 1)) rfl) pa_nil))) (pa_cons (pe_callB (call_isiE T.oc T.ot) (by rfl) m_isinstance (by decide +kernel) (pa_cons (pv 0) (pa_cons (pe_glob (by rfl) T.g2 (v := .ref (Cs 2)) rfl) pa_nil))) (pa_cons (pe_callB (call_isiE T.oc T.ot) (by rfl) m_isinstance (by decide +kernel) (pa_cons (pv 0) (pa_cons (pe_glob (by rfl) T.g3 (v := .ref (Cs 3)) rfl) pa_nil))) pa_nil))))))
    (pss_one (ps_ret (pe_op op_catS (pv 1) (pe_lst (pa_cons (pe_callB (call_isiE T.oc T.ot) (by rfl) m_isinstance (by decide +kernel) (pa_cons (pv 0) (pa_cons (pe_glob (by rfl) T.g4 (v := .ref (Cs 4)) rfl) pa_nil))) (pa_cons (pe_callB (call_isiE T.oc T.ot) (by rfl) m_isinstance (by decide +kernel) (pa_cons (pv 0) (pa_cons (pe_glob (by rfl) T.g5 (v := .ref (Cs 5)) rfl) pa_nil))) (pa_cons (pe_callB (call_isiE T.oc T.ot) (by rfl) m_isinstance (by decide +kernel) (pa_cons (pv 0) (pa_cons (pe_glob (by rfl) T.g6 (v := .ref (Cs 6)) rfl) pa_nil))) (pa_cons (pe_callB (call_isiE T.oc T.ot) (by rfl) m_isinstance (by decide +kernel) (pa_cons (pv 0) (pa_cons (pe_glob (by rfl) T.g7 (v := .ref (Cs 7)) rfl) pa_nil))) pa_nil))))))))),
    body_of (fun pw B hio => (rs_seq (rs_asg (re_lst (ra_cons (re_isiE (re_var (i := 0) hio) (.own (Cs 0)) (kk := fun C b => XkC K C ∧ PySem.W.kitOne K (.ref C) (.ref (Cs 0)) = some b) (fun C b h => h)) (ra_cons (re_isiE (re_var (i := 0) hio) (.own (Cs 1)) (kk := fun C b => XkC K C ∧ PySem.W.kitOne K (.ref C) (.ref (Cs 1)) = some b) (fun C b h => h)) (ra_cons (re_isiE (re_var (i := 0) hio) (.own (Cs 2)) (kk := fun C b => XkC K C ∧ PySem.W.kitOne K (.ref C) (.ref (Cs 2)) = some b) (fun C b h => h)) (ra_cons (re_isiE (re_var (i := 0) hio) (.own (Cs 3)) (kk := fun C b => XkC K C ∧ PySem.W.kitOne K (.ref C) (.ref (Cs 3)) = some b) (fun C b h => h)) ra_nil))))) (rg_name (i := 1)))
    (rs_ret (re_catS (re_var (i := 1) hio) (re_lst (ra_cons (re_isiE (re_var (i := 0) hio) (.own (Cs 4)) (kk := fun C b => XkC K C ∧ PySem.W.kitOne K (.ref C) (.ref (Cs 4)) = some b) (fun C b h => h)) (ra_cons (re_isiE (re_var (i := 0) hio) (.own (Cs 5)) (kk := fun C b => XkC K C ∧ PySem.W.kitOne K (.ref C) (.ref (Cs 5)) = some b) (fun C b h => h)) (ra_cons (re_isiE (re_var (i := 0) hio) (.own (Cs 6)) (kk := fun C b => XkC K C ∧ PySem.W.kitOne K (.ref C) (.ref (Cs 6)) = some b) (fun C b h => h)) (ra_cons (re_isiE (re_var (i := 0) hio) (.own (Cs 7)) (kk := fun C b => XkC K C ∧ PySem.W.kitOne K (.ref C) (.ref (Cs 7)) = some b) (fun C b h => h)) ra_nil))))))))) ?_ h⟩
  rintro ds c QD ⟨i, ns, es, hi, rfl, q⟩
  refine ⟨by show 1 ≤ 2; decide, ?_⟩
  have x := T.x i hi
  have k := fun j hj => T.k i j hi hj
  exact ⟨_, ⟨x, k 0 (by decide)⟩, _, ⟨x, k 1 (by decide)⟩, _, ⟨x, k 2 (by decide)⟩, _, ⟨x, k 3 (by decide)⟩, by show 4 ≤ sizeLine; decide, _, ⟨x, k 4 (by decide)⟩, _, ⟨x, k 5 (by decide)⟩, _, ⟨x, k 6 (by decide)⟩, _, ⟨x, k 7 (by decide)⟩, by show 4 ≤ sizeLine; decide, by show 8 ≤ sizeLine; decide, q⟩
end
end K00
end DL

-- part DL16
set_option maxHeartbeats 4000000
/-! small steps for chains over trees; the law's own promise, its well -/
namespace DL
open PySem PySem.Spec PyProof.Rows L2
theorem wipeS_ne {sl : List Sl} {j : Nat} : ∀ {vs : List Nat}, j ∉ vs → (wipeS sl vs)[j]? = sl[j]?
  | [], _ => rfl
  | v :: vs, h => by
    show ((wipeS sl vs).set v .un)[j]? = _
    rw [List.getElem?_set_ne (fun e => h (by rw [← e]; exact List.mem_cons_self ..)), wipeS_ne fun hm => h (List.mem_cons_of_mem _ hm)]
theorem Agr.wipe {vs : List Nat} {ρ : Ev} {c : Nat} : Agr vs ρ ((ρ.cnt c).wipe vs) := ⟨wipeS_length _ _, fun j hj => wipeS_ne hj⟩
theorem Agr.put {vs : List Nat} {ρ ρ1 : Ev} {i : Nat} {s : Sl} (h : Agr vs ρ ρ1) (hi : i ∈ vs) : Agr vs ρ (ρ1.set i s) :=
  ⟨by show (ρ1.sl.set i s).length = _; rw [List.length_set]; exact h.1, fun j hj => by show (ρ1.sl.set i s)[j]? = _; rw [List.getElem?_set_ne (fun e => hj (by rw [← e]; exact hi))]; exact h.2 j hj⟩
theorem intsD_length {lo : Int} {n : Nat} : (intsD lo n).length = n := by unfold intsD; rw [List.length_map, List.length_range]
theorem dVar_at {i : Nat} {ρ : Ev} {d : D} {Q : Ev → D → Prop} (h : ρ.sl[i]? = some (.v d)) (q : Q ρ d) : dVar i ρ Q := by
  unfold dVar
  rw [h]
  exact q
/-- a statement that is never reached -/
theorem rs_never {W : Wd} {B : Bs} : RS W B tNever (fun _ _ => False) := fun σ H F ρ D DD r h f => h.elim
theorem intsD_mem {lo : Int} {n : Nat} {d : D} (h : d ∈ intsD lo n) : ∃ i : Int, d = .int i := by
  unfold intsD at h
  obtain ⟨i, _, e⟩ := List.mem_map.mp h
  exact ⟨_, e.symm⟩
theorem lz {a b : Nat} (h : Nat.ble a b = true) : a ≤ b := Nat.le_of_ble_eq_true h
theorem lz' {a b : Nat} (h : Nat.ble (a + 1) b = true) : a < b := Nat.le_of_ble_eq_true h
theorem dseq_mid {a b : DS} {DD : DEnds} {ρ : Ev} (M : Ev → Prop) (ha : ∀ nx : Ev → Prop, (∀ ρ', M ρ' → nx ρ') → a { DD with nx := nx } ρ) (hb : ∀ ρ', M ρ' → b DD ρ') : dSeq a b DD ρ := ha (b DD) hb
theorem dfor_M {s : DI} {g : DG} {b : DS} {DD : DEnds} {ρ : Ev} (M : Nat → Ev → Prop) (ds : List D) (h : s ρ fun ρ1 es => es = ds ∧ M 0 ρ1) (step : ∀ i d ρ, ds[i]? = some d → M i ρ → ∀ nx : Ev → Prop, (∀ ρ', M (i + 1) ρ' → nx ρ') → g d ρ fun ρ1 => b { nx := nx, ct := nx, bk := DD.nx, rt := DD.rt } ρ1) (fin : ∀ ρ, M ds.length ρ → DD.nx ρ)
    (mono : ∀ Q Q' : Ev → List D → Prop, (∀ ρ ds, Q ρ ds → Q' ρ ds) → s ρ Q → s ρ Q') : dFor s g b DD ρ := by
  have key : ∀ (i : Nat) (ρ : Ev), i ≤ ds.length → M i ρ → dForL g b (ds.drop i) DD ρ := by
    intro i
    generalize hk : ds.length - i = k
    induction k generalizing i with
    | zero =>
      intro ρ hi m
      have e : i = ds.length := by omega
      subst e
      rw [List.drop_length]
      exact fin ρ m
    | succ k ih =>
      intro ρ hi m
      have hlt : i < ds.length := by omega
      rw [List.drop_eq_getElem_cons hlt]
      exact step i _ ρ (List.getElem?_eq_getElem hlt) m _ fun ρ' m' => ih (i + 1) (by omega) ρ' (by omega) m'
  exact mono _ _ (fun ρ1 es ⟨e, m⟩ => by subst e; exact key 0 ρ1 (Nat.zero_le _) m) h
theorem rel_well {K : PySem.W.Frag} {cls : Str → Option Addr} {p pc : Addr} {F H : Hp} {σ : L2.St} {ns : List Int} {n : Nat} (hl : σ.length = n + 2) (h1 : σ[1]? = some (some (.ref p))) (sf : Same F H) (fp : F p = none) (hn : ns.length ≤ 60) (hp : H p = some (.lst [.ref pc, .int 0, .int 0])) (hs : SqL K F pc (ns.map V.int)) :
    Rel ⟨K, cls, some p⟩ (bs0 F H) F H σ ⟨.un :: .v .well :: List.replicate n .un, 0⟩ := by
  have get : ∀ (i : Nat) (s : Sl), (Sl.un :: Sl.v .well :: List.replicate n Sl.un)[i]? = some s → s = .un ∨ (i = 1 ∧ s = .v .well) := fun i s h => by
    match i with
    | 0 => exact .inl (Option.some.inj h).symm
    | 1 => exact .inr ⟨rfl, (Option.some.inj h).symm⟩
    | i + 2 =>
      have h : (List.replicate n Sl.un)[i]? = some s := h
      rw [List.getElem?_replicate] at h
      split at h
      · exact .inl (Option.some.inj h).symm
      · cases h
  refine ⟨sf, by show σ.length = (Sl.un :: Sl.v .well :: List.replicate n Sl.un).length; rw [hl]; simp, fun i s h => ?_, fun i j d e q h => ?_, ?_, fun a o h _ _ => h, fun a _ h2 => h2, Same.refl _, (fun a ha => nomatch ha), (fun q hq => nomatch hq), (fun q hq => nomatch hq), List.nodup_nil⟩
  · rcases get i s h with e | ⟨e1, e2⟩
    · subst e; trivial
    · subst e1 e2; exact ⟨.ref p, h1, p, rfl, rfl⟩
  · rcases get i _ h with e | ⟨_, e⟩ <;> cases e
  · exact ⟨fp, (fun z => nomatch z), pc, ns, 0, 0, hp, hs, Int.le_refl _, Int.le_refl _, Int.le_refl _, hn⟩
theorem well_go {W : Wd} {B : Bs} {ts : TS} {T : DS} {D : Ends} {DD : DEnds} {σ : L2.St} {H F : Hp} {ρ : Ev} (h : RS W B ts T) (r : Rel W B F H σ ρ) (f : Fits W B F D DD) (q : T DD ρ) : ts D σ H := h σ H F ρ D DD r q f
def spLaw (K : PySem.W.Frag) : Sp := fun vs H Q _ => ∃ (a : Addr) (ns : List Int), vs = [.ref a] ∧ SqL K H a (ns.map V.int) ∧ ns.length ≤ 63 ∧ ∀ H', Q (.bl true) H'
/-- a slot that holds no object of one's own -/
def noO : Sl → Bool
  | .o _ => false
  | _ => true
theorem noOwn1 {l : List Sl} {c i : Nat} {s : Sl} (h : l[i]? = some s) (hs : noO s = true) : noOwn ⟨l, c⟩ [i] = true := by
  unfold noOwn
  rw [List.all_cons, List.all_nil, Bool.and_true]
  show (match l[i]? with | some (.o _) => false | _ => true) = true
  rw [h]
  cases s with
  | o d => cases hs
  | _ => rfl
theorem re_with {W : Wd} {B : Bs} {te : TE} {t : DE} {P : Ev → Prop} (re : RE W B te t) : RE W B te (fun ρ Q => P ρ ∧ t ρ Q) := fun σ H F ρ Q R r h k => re σ H F ρ Q R r h.2 k
end DL

-- part K00H
set_option maxHeartbeats 40000000
/-! K00: _law_papers_right -/
namespace DL
namespace K00
open PySem PySem.Spec PyProof.Rows L2
theorem okSS {a b : D} : okY okp "Step" (stepT a b a b) = true := by show okp "Step" "Step" = true; decide +kernel
theorem okCC {a b : D} : okY okp "Call" (callT a b a b) = true := by show okp "Call" "Call" = true; decide +kernel
theorem okSC {a b : D} : okY okp "Step" (callT a b a b) = true := by show okp "Step" "Call" = true; decide +kernel
theorem okPP {xs : List D} : okY okp "Paper" (papT xs) = true := by show okp "Paper" "Paper" = true; decide +kernel
theorem subPD : subp "Paper" "Denial" = true := by decide +kernel
theorem kw4 : ∀ {W : Wd} (F : Hp) (x : V) (zs : List V) (ds : List D), DenL W F ds zs → ds.length = 4 → ∃ us, (fun us ws => us ++ ws.reverse : List V → List V → List V) [x] zs = x :: us ∧ DenL W F (List.reverse ds) us := fun F x zs ds h hl => by
  match ds, hl with
  | [a, b, c, d], _ =>
    obtain ⟨u, r, e, h1, h⟩ := h
    subst e
    obtain ⟨u2, r, e, h2, h⟩ := h
    subst e
    obtain ⟨u3, u4, e, h3, h4⟩ := den2 h
    subst e
    exact ⟨[u4, u3, u2, u], rfl, .cons h4 (.cons h3 (.cons h2 (.cons h1 DenL.nil)))⟩
/-- all that _law_papers_right asks -/
structure PapB (P : Program) (w : World) (K : PySem.W.Frag) (mg : Str → Option Value) (base : Heap) (cls : Str → Option Addr) where
  fA : Addr
  fdA : FuncData
  FA : Fun K "_law_as_kept" "_law_as_kept" sAk fA fdA
  GA : FnOk P w K mg base CX0 8 fA fdA ["value"] (spD K cls (gK 8))
  gA : mg "_law_as_kept" = some (.ref fA)
  bA : Binds K fdA ["value"] []
  CStep : Addr
  fStep : Addr
  fdStep : FuncData
  MStep : Mk K CStep fStep
  GStep : FnOk P w K mg base CX0 10 fStep fdStep ["self", "word", "start", "goal", "act"] (spI K cls (gStep nmOf 8))
  gStep : mg "Step" = some (.ref CStep)
  bStep : Binds K fdStep ["self", "word", "start", "goal", "act"] []
  kStep : KBn K fdStep ["self", "word", "start", "goal", "act"] 1 ["act", "goal", "start", "word"] (fun us ws => us ++ ws.reverse) (fun us ws => us ++ ws.reverse)
  cStep : cls "Step" = some CStep
  CCall : Addr
  fCall : Addr
  fdCall : FuncData
  MCall : Mk K CCall fCall
  GCall : FnOk P w K mg base CX0 10 fCall fdCall ["self", "point", "part", "kept", "behind"] (spI K cls (gCall nmOf 8))
  gCall : mg "Call" = some (.ref CCall)
  bCall : Binds K fdCall ["self", "point", "part", "kept", "behind"] []
  kCall : KBn K fdCall ["self", "point", "part", "kept", "behind"] 1 ["behind", "kept", "part", "point"] (fun us ws => us ++ ws.reverse) (fun us ws => us ++ ws.reverse)
  cCall : cls "Call" = some CCall
  fP : Addr
  FP : FnR P w K mg base CX0 9 fP (spStar K cls (gPap nmOf 8))
  CPaper : Addr
  CDenial : Addr
  MPaper : Mk K CPaper fP
  MDenial : Mk K CDenial fP
  gPaper : mg "Paper" = some (.ref CPaper)
  gDenial : mg "Denial" = some (.ref CDenial)
  cPaper : cls "Paper" = some CPaper
  cDenial : cls "Denial" = some CDenial
  kP : ∀ {pw}, KOk ⟨K, cls, pw⟩ (isSubD isP) (.ref CPaper)
  kD : ∀ {pw}, KOk ⟨K, cls, pw⟩ (isSubD isD) (.ref CDenial)
  T : AttrT K cls ["word", "parts", "kind", "start", "goal", "act", "point", "part", "kept", "behind"]
  fe : Addr
  ef : PySem.W.isFn K (.ref fe) = true
  Fe : FnR P w K mg base CX0 1 fe (spD K cls (gEqP isP))
  ET : EqU K cls fe okp subp
  Gb : Addr → Prop
  bv : Addr → Bool
  bf : ∀ g, Gb g → PySem.W.isFn K (.ref g) = true
  Fb : ∀ g, Gb g → FnR P w K mg base CX0 1 g (spD K cls (gB (bv g)))
  hb : ∀ c C b, cls c = some C → bOf c = some b → ∃ g, PySem.W.findIn K (.ref C) "__bool__" = some (some (.ref g)) ∧ Gb g ∧ bv g = b
  m_isinstance : mg "isinstance" = none
  m_bool : mg "bool" = none
  m_repr : mg "repr" = none
abbrev sPR : Stmt := topS 24
theorem scPR : FnScope ["a", "b", "da", "db", "one", "other", "plain", "denial"] ["a", "b"] (defScope sPR) := ⟨rfl, rfl, rfl, by decide +kernel, rfl, by decide +kernel, by decide +kernel⟩
def gPR : GF := fun ds c Q => ∃ a b, ds = [a, b] ∧ a ∈ sevens ∧ b ∈ fives ∧ Q (.bl true) c
section
variable {P : Program} {w : World} {K : PySem.W.Frag} {mg : Str → Option Value} {base : Heap} {cls : Str → Option Addr}
theorem ok_PR {f : Addr} {fd : FuncData} (F : Fun K "_law_papers_right" "_law_papers_right" sPR f fd) (L : PapB P w K mg base cls) : FnG P w K mg base CX0 16 f fd ["a", "b"] (spD K cls gPR) := by
  refine okG F scPR (fun vs H Q E h => len_of (n := 2) (fun ds c QD ⟨a, b, e, _⟩ => by rw [e]; rfl) h) (fun cdv A outer s H vs Q E hr hgd h => ?_)
  have hu := hr.units
  refine ⟨_, (pss_cons (ps_par (i := 2) (j := 3) rfl scPR.nd rfl rfl (by decide) rfl rfl (pa_cons (pe_call L.GA (by exact hr.mono (by decide)) (by rfl) L.gA L.FA.kp L.bA .nil pass0 (pa_cons (pv 0) pa_nil)) (pa_cons (pe_call L.GA (by exact hr.mono (by decide)) (by rfl) L.gA L.FA.kp L.bA .nil pass0 (pa_cons (pv 1) pa_nil)) pa_nil)) rfl)
    (pss_cons (ps_par (i := 4) (j := 5) rfl scPR.nd rfl rfl (by decide) rfl rfl (pa_cons (pe_make L.MStep L.GStep (by exact hr.mono (by decide)) (by rfl) L.gStep L.bStep .nil pass0 (pa_cons (pv 0) (pa_cons (pv 1) (pa_cons (pv 0) (pa_cons (pv 1) pa_nil))))) (pa_cons (pe_make L.MCall L.GCall (by exact hr.mono (by decide)) (by rfl) L.gCall L.bCall .nil pass0 (pa_cons (pv 1) (pa_cons (pv 0) (pa_cons (pv 1) (pa_cons (pv 0) pa_nil))))) pa_nil)) rfl)
    (pss_cons (ps_if (pt_cmpR op_ne (pe_callB (call_reprQ hgd hr.units) (by rfl) L.m_repr (by decide +kernel) (pa_cons (pe_lst (pa_cons (pe_fldK (K := K) rfl (pv 4) rfl) (pa_cons (pe_fldK (K := K) rfl (pv 4) rfl) (pa_cons (pe_fldK (K := K) rfl (pv 4) rfl) (pa_cons (pe_fldK (K := K) rfl (pv 4) rfl) (pa_cons (pe_fldK (K := K) rfl (pv 4) rfl) (pa_cons (pe_fldK (K := K) rfl (pv 4) rfl) pa_nil))))))) pa_nil)) (pe_callB (call_reprQ hgd hr.units) (by rfl) L.m_repr (by decide +kernel) (pa_cons (pe_lst (pa_cons pe_str (pa_cons (pe_tup (pa_cons (pv 2) (pa_cons (pv 3) (pa_cons (pv 2) (pa_cons (pv 3) pa_nil))))) (pa_cons (pv 2) (pa_cons (pv 3) (pa_cons (pv 2) (pa_cons (pv 3) pa_nil))))))) pa_nil)) (nomark _)) (pss_one (ps_ret pe_bl)) pss_nil)
    (pss_cons (ps_if (pt_cmpR op_ne (pe_callB (call_reprQ hgd hr.units) (by rfl) L.m_repr (by decide +kernel) (pa_cons (pe_lst (pa_cons (pe_fldK (K := K) rfl (pv 5) rfl) (pa_cons (pe_fldK (K := K) rfl (pv 5) rfl) (pa_cons (pe_fldK (K := K) rfl (pv 5) rfl) (pa_cons (pe_fldK (K := K) rfl (pv 5) rfl) (pa_cons (pe_fldK (K := K) rfl (pv 5) rfl) (pa_cons (pe_fldK (K := K) rfl (pv 5) rfl) pa_nil))))))) pa_nil)) (pe_callB (call_reprQ hgd hr.units) (by rfl) L.m_repr (by decide +kernel) (pa_cons (pe_lst (pa_cons pe_str (pa_cons (pe_tup (pa_cons (pv 3) (pa_cons (pv 2) (pa_cons (pv 3) (pa_cons (pv 2) pa_nil))))) (pa_cons (pv 3) (pa_cons (pv 2) (pa_cons (pv 3) (pa_cons (pv 2) pa_nil))))))) pa_nil)) (nomark _)) (pss_one (ps_ret pe_bl)) pss_nil)
    (pss_cons (ps_if (PW.pt (pw_or (pt_cmpR (r := rNeX K L.fe (spD K cls (gEqP isP)) E0) (op_neX (E := E0) L.ef L.Fe (by exact hr.mono (by decide)) pass0) (pv 4) (pe_makeK0 L.MStep L.GStep (by exact hr.mono (by decide)) (by rfl) L.gStep L.kStep pass0 (pk_cons (pv 1) (pk_cons (pv 0) (pk_cons (pv 1) (pk_cons (pv 0) pk_nil))))) (nomark _)) (pw_or (pt_cmpR (r := rNeX K L.fe (spD K cls (gEqP isP)) E0) (op_neX (E := E0) L.ef L.Fe (by exact hr.mono (by decide)) pass0) (pv 5) (pe_makeK0 L.MCall L.GCall (by exact hr.mono (by decide)) (by rfl) L.gCall L.kCall pass0 (pk_cons (pv 0) (pk_cons (pv 1) (pk_cons (pv 0) (pk_cons (pv 1) pk_nil))))) (nomark _)) (pw_or (pt_cmpR (r := rEqI K L.fe (spD K cls (gEqP isP)) E0) (op_eqI (E := E0) L.ef L.Fe (by exact hr.mono (by decide)) pass0) (pv 4) (pv 5) (nomark _)) (pw_or1 (pt_cmpR (r := rEqI K L.fe (spD K cls (gEqP isP)) E0) (op_eqI (E := E0) L.ef L.Fe (by exact hr.mono (by decide)) pass0) (pv 4) (pe_fldK (K := K) rfl (pv 4) rfl) (nomark _))))))) (pss_one (ps_ret pe_bl)) pss_nil)
    (pss_cons (ps_par (i := 6) (j := 7) rfl scPR.nd rfl rfl (by decide) rfl rfl (pa_cons (StX.pe_makeR L.MPaper L.FP (by exact hr.mono (by decide)) (by rfl) L.gPaper pass0 (pa_cons (pv 0) (pa_cons (pv 1) pa_nil))) (pa_cons (StX.pe_makeR L.MDenial L.FP (by exact hr.mono (by decide)) (by rfl) L.gDenial pass0 (pa_cons (pv 0) (pa_cons (pv 1) pa_nil))) pa_nil)) rfl)
    (pss_cons (ps_if (pt_cmpR op_ne (pe_callB (call_reprQ hgd hr.units) (by rfl) L.m_repr (by decide +kernel) (pa_cons (pe_lst (pa_cons (pe_fldK (K := K) rfl (pv 6) rfl) (pa_cons (pe_fldK (K := K) rfl (pv 6) rfl) (pa_cons (pe_fldK (K := K) rfl (pv 7) rfl) (pa_cons (pe_fldK (K := K) rfl (pv 7) rfl) pa_nil))))) pa_nil)) (pe_callB (call_reprQ hgd hr.units) (by rfl) L.m_repr (by decide +kernel) (pa_cons (pe_lst (pa_cons pe_str (pa_cons (pe_tup (pa_cons (pv 2) (pa_cons (pv 3) pa_nil))) (pa_cons pe_str (pa_cons (pe_tup (pa_cons (pv 2) (pa_cons (pv 3) pa_nil))) pa_nil))))) pa_nil)) (nomark _)) (pss_one (ps_ret pe_bl)) pss_nil)
    (pss_cons (ps_if (PW.pt (pw_or (pt_cmpR (op_neD hu) (pe_lst (pa_cons (pe_callTy (r := rBoolI K L.Gb (fun g => spD K cls (gB (L.bv g))) E0) (call_boolI L.bf L.Fb (by exact hr.mono (by decide)) pass0) (by rfl) L.m_bool (by decide +kernel) (pa_cons (pv 4) pa_nil)) (pa_cons (pe_callTy (r := rBoolI K L.Gb (fun g => spD K cls (gB (L.bv g))) E0) (call_boolI L.bf L.Fb (by exact hr.mono (by decide)) pass0) (by rfl) L.m_bool (by decide +kernel) (pa_cons (pv 6) pa_nil)) (pa_cons (pe_callTy (r := rBoolI K L.Gb (fun g => spD K cls (gB (L.bv g))) E0) (call_boolI L.bf L.Fb (by exact hr.mono (by decide)) pass0) (by rfl) L.m_bool (by decide +kernel) (pa_cons (pv 7) pa_nil)) pa_nil)))) (pe_lst (pa_cons pe_bl (pa_cons pe_bl (pa_cons pe_bl pa_nil)))) (nomark _)) (pw_or (pt_not (pt_val (pe_callB (r := rIsi K) call_isi (by rfl) L.m_isinstance (by decide +kernel) (pa_cons (pv 4) (pa_cons (pe_glob (by rfl) L.gPaper (v := .ref L.CPaper) rfl) pa_nil))))) (pw_or (pt_val (pe_callB (r := rIsi K) call_isi (by rfl) L.m_isinstance (by decide +kernel) (pa_cons (pv 4) (pa_cons (pe_glob (by rfl) L.gDenial (v := .ref L.CDenial) rfl) pa_nil)))) (pw_or1 (pt_not (pt_val (pe_callB (r := rIsi K) call_isi (by rfl) L.m_isinstance (by decide +kernel) (pa_cons (pv 7) (pa_cons (pe_glob (by rfl) L.gPaper (v := .ref L.CPaper) rfl) pa_nil)))))))))) (pss_one (ps_ret pe_bl)) pss_nil)
    (pss_one (ps_ret (pe_and (pe_cmpR (r := rEqI K L.fe (spD K cls (gEqP isP)) E0) (op_eqI (E := E0) L.ef L.Fe (by exact hr.mono (by decide)) pass0) (pv 6) (StX.pe_makeR L.MPaper L.FP (by exact hr.mono (by decide)) (by rfl) L.gPaper pass0 (pa_cons (pv 2) (pa_cons (pv 3) pa_nil))) (nomark _)) (pe_and (pe_cmpR (r := rNeX K L.fe (spD K cls (gEqP isP)) E0) (op_neX (E := E0) L.ef L.Fe (by exact hr.mono (by decide)) pass0) (pv 6) (pv 7) (nomark _)) (pe_and (pe_cmpR (r := rNeX K L.fe (spD K cls (gEqP isP)) E0) (op_neX (E := E0) L.ef L.Fe (by exact hr.mono (by decide)) pass0) (pv 6) (StX.pe_makeR L.MPaper L.FP (by exact hr.mono (by decide)) (by rfl) L.gPaper pass0 (pa_cons (pv 0) pa_nil)) (nomark _)) (pe_and (pe_cmpR (r := rEqI K L.fe (spD K cls (gEqP isP)) E0) (op_eqI (E := E0) L.ef L.Fe (by exact hr.mono (by decide)) pass0) (pe_makeR0 L.MPaper L.FP (by exact hr.mono (by decide)) (by rfl) L.gPaper pass0) (pe_makeR0 L.MPaper L.FP (by exact hr.mono (by decide)) (by rfl) L.gPaper pass0) (nomark _)) (pe_one (pe_cmpR (r := rNeX K L.fe (spD K cls (gEqP isP)) E0) (op_neX (E := E0) L.ef L.Fe (by exact hr.mono (by decide)) pass0) (StX.pe_makeR L.MPaper L.FP (by exact hr.mono (by decide)) (by rfl) L.gPaper pass0 (pa_cons (pe_tup (pa_cons (pv 0) (pa_cons pe_str pa_nil))) pa_nil)) (StX.pe_makeR L.MPaper L.FP (by exact hr.mono (by decide)) (by rfl) L.gPaper pass0 (pa_cons (pe_tup (pa_cons (pv 0) pa_nil)) pa_nil)) (nomark _))))))))))))))))),
    body_of (fun pw B hio => (rs_seq (rs_par (i := 2) (j := 3) (ra_cons (re_call (G := gK 8) (E := E0) (ra_cons (re_var (i := 0) hio) ra_nil)) (ra_cons (re_call (G := gK 8) (E := E0) (ra_cons (re_var (i := 1) hio) ra_nil)) ra_nil)))
    (rs_seq (rs_par (i := 4) (j := 5) (ra_cons (RN.re (rn_make (E := E0) (cn := "Step") L.cStep (ra_cons (re_var (i := 0) hio) (ra_cons (re_var (i := 1) hio) (ra_cons (re_var (i := 0) hio) (ra_cons (re_var (i := 1) hio) ra_nil)))))) (ra_cons (RN.re (rn_make (E := E0) (cn := "Call") L.cCall (ra_cons (re_var (i := 1) hio) (ra_cons (re_var (i := 0) hio) (ra_cons (re_var (i := 1) hio) (ra_cons (re_var (i := 0) hio) ra_nil)))))) ra_nil)))
    (rs_seq (rs_if (rt_test (re_neS (re_reprQ (ra_cons (re_lst (ra_cons (re_fld (re_var (i := 4) hio) L.T.cl (L.T.no _ (by decide +kernel))) (ra_cons (re_fld (re_var (i := 4) hio) L.T.cl (L.T.no _ (by decide +kernel))) (ra_cons (re_fld (re_var (i := 4) hio) L.T.cl (L.T.no _ (by decide +kernel))) (ra_cons (re_fld (re_var (i := 4) hio) L.T.cl (L.T.no _ (by decide +kernel))) (ra_cons (re_fld (re_var (i := 4) hio) L.T.cl (L.T.no _ (by decide +kernel))) (ra_cons (re_fld (re_var (i := 4) hio) L.T.cl (L.T.no _ (by decide +kernel))) ra_nil))))))) ra_nil)) (re_reprQ (ra_cons (re_lst (ra_cons re_c (ra_cons (re_tup (ra_cons (re_var (i := 2) hio) (ra_cons (re_var (i := 3) hio) (ra_cons (re_var (i := 2) hio) (ra_cons (re_var (i := 3) hio) ra_nil))))) (ra_cons (re_var (i := 2) hio) (ra_cons (re_var (i := 3) hio) (ra_cons (re_var (i := 2) hio) (ra_cons (re_var (i := 3) hio) ra_nil))))))) ra_nil)))) (rs_ret re_c) rs_next)
    (rs_seq (rs_if (rt_test (re_neS (re_reprQ (ra_cons (re_lst (ra_cons (re_fld (re_var (i := 5) hio) L.T.cl (L.T.no _ (by decide +kernel))) (ra_cons (re_fld (re_var (i := 5) hio) L.T.cl (L.T.no _ (by decide +kernel))) (ra_cons (re_fld (re_var (i := 5) hio) L.T.cl (L.T.no _ (by decide +kernel))) (ra_cons (re_fld (re_var (i := 5) hio) L.T.cl (L.T.no _ (by decide +kernel))) (ra_cons (re_fld (re_var (i := 5) hio) L.T.cl (L.T.no _ (by decide +kernel))) (ra_cons (re_fld (re_var (i := 5) hio) L.T.cl (L.T.no _ (by decide +kernel))) ra_nil))))))) ra_nil)) (re_reprQ (ra_cons (re_lst (ra_cons re_c (ra_cons (re_tup (ra_cons (re_var (i := 3) hio) (ra_cons (re_var (i := 2) hio) (ra_cons (re_var (i := 3) hio) (ra_cons (re_var (i := 2) hio) ra_nil))))) (ra_cons (re_var (i := 3) hio) (ra_cons (re_var (i := 2) hio) (ra_cons (re_var (i := 3) hio) (ra_cons (re_var (i := 2) hio) ra_nil))))))) ra_nil)))) (rs_ret re_c) rs_next)
    (rs_seq (rs_if (rt_or (rt_test (re_neU (E := E0) L.ET (re_var (i := 4) hio) (RN.re (rn_makeK0 (E := E0) (cn := "Step") (pm := List.reverse) L.cStep (ra_cons (re_var (i := 1) hio) (ra_cons (re_var (i := 0) hio) (ra_cons (re_var (i := 1) hio) (ra_cons (re_var (i := 0) hio) ra_nil)))) kw4)))) (rt_or (rt_test (re_neU (E := E0) L.ET (re_var (i := 5) hio) (RN.re (rn_makeK0 (E := E0) (cn := "Call") (pm := List.reverse) L.cCall (ra_cons (re_var (i := 0) hio) (ra_cons (re_var (i := 1) hio) (ra_cons (re_var (i := 0) hio) (ra_cons (re_var (i := 1) hio) ra_nil)))) kw4)))) (rt_or (rt_test (re_eqU (E := E0) L.ET (re_var (i := 4) hio) (re_var (i := 5) hio))) (rt_test (re_eqU (E := E0) L.ET (re_var (i := 4) hio) (re_fld (re_var (i := 4) hio) L.T.cl (L.T.no _ (by decide +kernel)))))))) (rs_ret re_c) rs_next)
    (rs_seq (rs_par (i := 6) (j := 7) (ra_cons (RN.re (rn_makeR (E := E0) (cn := "Paper") L.cPaper (ra_cons (re_var (i := 0) hio) (ra_cons (re_var (i := 1) hio) ra_nil)))) (ra_cons (RN.re (rn_makeR (E := E0) (cn := "Denial") L.cDenial (ra_cons (re_var (i := 0) hio) (ra_cons (re_var (i := 1) hio) ra_nil)))) ra_nil)))
    (rs_seq (rs_if (rt_test (re_neS (re_reprQ (ra_cons (re_lst (ra_cons (re_fld (re_var (i := 6) hio) L.T.cl (L.T.no _ (by decide +kernel))) (ra_cons (re_fld (re_var (i := 6) hio) L.T.cl (L.T.no _ (by decide +kernel))) (ra_cons (re_fld (re_var (i := 7) hio) L.T.cl (L.T.no _ (by decide +kernel))) (ra_cons (re_fld (re_var (i := 7) hio) L.T.cl (L.T.no _ (by decide +kernel))) ra_nil))))) ra_nil)) (re_reprQ (ra_cons (re_lst (ra_cons re_c (ra_cons (re_tup (ra_cons (re_var (i := 2) hio) (ra_cons (re_var (i := 3) hio) ra_nil))) (ra_cons re_c (ra_cons (re_tup (ra_cons (re_var (i := 2) hio) (ra_cons (re_var (i := 3) hio) ra_nil))) ra_nil))))) ra_nil)))) (rs_ret re_c) rs_next)
    (rs_seq (rs_if (rt_or (rt_test (re_neD (re_lst (ra_cons (re_boolI (E := E0) L.hb (ra_cons (re_var (i := 4) hio) ra_nil)) (ra_cons (re_boolI (E := E0) L.hb (ra_cons (re_var (i := 6) hio) ra_nil)) (ra_cons (re_boolI (E := E0) L.hb (ra_cons (re_var (i := 7) hio) ra_nil)) ra_nil)))) (re_lst (ra_cons re_c (ra_cons re_c (ra_cons re_c ra_nil)))))) (rt_or (rt_not (rt_B (re_isi (re_var (i := 4) hio) (.own L.CPaper) (k := isSubD isP) L.kP))) (rt_or (rt_B (re_isi (re_var (i := 4) hio) (.own L.CDenial) (k := isSubD isD) L.kD)) (rt_not (rt_B (re_isi (re_var (i := 7) hio) (.own L.CPaper) (k := isSubD isP) L.kP)))))) (rs_ret re_c) rs_next)
    (rs_ret (re_andV (re_eqU (E := E0) L.ET (re_var (i := 6) hio) (RN.re (rn_makeR (E := E0) (cn := "Paper") L.cPaper (ra_cons (re_var (i := 2) hio) (ra_cons (re_var (i := 3) hio) ra_nil))))) (re_andV (re_neU (E := E0) L.ET (re_var (i := 6) hio) (re_var (i := 7) hio)) (re_andV (re_neU (E := E0) L.ET (re_var (i := 6) hio) (RN.re (rn_makeR (E := E0) (cn := "Paper") L.cPaper (ra_cons (re_var (i := 0) hio) ra_nil)))) (re_andV (re_eqU (E := E0) L.ET (RN.re (rn_makeR (E := E0) (cn := "Paper") L.cPaper ra_nil)) (RN.re (rn_makeR (E := E0) (cn := "Paper") L.cPaper ra_nil))) (re_neU (E := E0) L.ET (RN.re (rn_makeR (E := E0) (cn := "Paper") L.cPaper (ra_cons (re_tup (ra_cons (re_var (i := 0) hio) (ra_cons re_c ra_nil))) ra_nil))) (RN.re (rn_makeR (E := E0) (cn := "Paper") L.cPaper (ra_cons (re_tup (ra_cons (re_var (i := 0) hio) ra_nil)) ra_nil)))))))))))))))))) ?_ h⟩
  rintro ds c QD ⟨a, b, rfl, ha, hb, q⟩
  refine ⟨by show 2 ≤ 8; decide, ?_⟩
  refine dseq_mid (fun ρ => ρ = ⟨[.v a, .v b, .v (keptD a), .v (keptD b), .un, .un, .un, .un], c⟩) (fun nx hnx => ?_) ?_
  · exact ⟨a, rfl, oA a ha, b, rfl, oB b hb, hnx _ rfl⟩
  rintro _ rfl
  refine dseq_mid (fun ρ => ρ = ⟨[.v a, .v b, .v (keptD a), .v (keptD b), .v (stepT a b a b), .v (callT b a b a), .un, .un], c⟩) (fun nx hnx => ?_) ?_
  · exact ⟨_, _, _, _, "Step", rfl, rfl, nmStep, okS a ha b hb, lenStep, _, _, _, _, "Call", rfl, rfl, nmCall, okC a ha b hb, lenCall, hnx _ rfl⟩
  rintro _ rfl
  refine dseq_mid (fun ρ => ρ = ⟨[.v a, .v b, .v (keptD a), .v (keptD b), .v (stepT a b a b), .v (callT b a b a), .un, .un], c⟩) (fun nx hnx => ?_) ?_
  · obtain ⟨p, q, h1, h2, h3, h4, g1, g2, g3, g4, hpq⟩ := rep_of (x := .lst [.str (Txt.lower ("Step" : Str)), .tup [keptD a, keptD b, keptD a, keptD b], keptD a, keptD b, keptD a, keptD b]) (by rw [lowS]) (r1 a ha b hb)
    exact ⟨lz rfl, _, p, rfl, h1, ⟨_, rfl⟩, h2, h3, h4, lz rfl, lz rfl, _, q, rfl, g1, ⟨_, rfl⟩, g2, g3, g4, _, _, true, rfl, rfl, hpq, hnx _ rfl⟩
  rintro _ rfl
  refine dseq_mid (fun ρ => ρ = ⟨[.v a, .v b, .v (keptD a), .v (keptD b), .v (stepT a b a b), .v (callT b a b a), .un, .un], c⟩) (fun nx hnx => ?_) ?_
  · obtain ⟨p, q, h1, h2, h3, h4, g1, g2, g3, g4, hpq⟩ := rep_of (x := .lst [.str (Txt.lower ("Call" : Str)), .tup [keptD b, keptD a, keptD b, keptD a], keptD b, keptD a, keptD b, keptD a]) (by rw [lowC]) (r2 a ha b hb)
    exact ⟨lz rfl, _, p, rfl, h1, ⟨_, rfl⟩, h2, h3, h4, lz rfl, lz rfl, _, q, rfl, g1, ⟨_, rfl⟩, g2, g3, g4, _, _, true, rfl, rfl, hpq, hnx _ rfl⟩
  rintro _ rfl
  refine dseq_mid (fun ρ => ρ = ⟨[.v a, .v b, .v (keptD a), .v (keptD b), .v (stepT a b a b), .v (callT b a b a), .un, .un], c⟩) (fun nx hnx => ?_) ?_
  · exact ⟨rfl, _, _, _, _, "Step", rfl, rfl, nmStep, okS a ha b hb, lenStep, .inl ⟨okSS, _, _, true, rfl, q1 a ha b hb, rfl, _, _, _, _, "Call", rfl, rfl, nmCall, okC a ha b hb, lenCall, .inl ⟨okCC, _, _, true, rfl, q2 a ha b hb, ⟨okSC, _, _, false, rfl, q3 a ha b hb, ⟨rfl, _, _, false, rfl, rfl, hnx _ rfl⟩⟩⟩⟩⟩
  rintro _ rfl
  refine dseq_mid (fun ρ => ρ = ⟨[.v a, .v b, .v (keptD a), .v (keptD b), .v (stepT a b a b), .v (callT b a b a), .v (papT [a, b]), .v (denT [a, b])], c⟩) (fun nx hnx => ?_) ?_
  · exact ⟨lz rfl, _, "Paper", rfl, nmPaper, okab a ha b hb, lenPaper, lz rfl, _, "Denial", rfl, nmDenial, okab a ha b hb, lenDenial, hnx _ rfl⟩
  rintro _ rfl
  refine dseq_mid (fun ρ => ρ = ⟨[.v a, .v b, .v (keptD a), .v (keptD b), .v (stepT a b a b), .v (callT b a b a), .v (papT [a, b]), .v (denT [a, b])], c⟩) (fun nx hnx => ?_) ?_
  · obtain ⟨p, q, h1, h2, h3, h4, g1, g2, g3, g4, hpq⟩ := rep_of (x := .lst [.str (Txt.lower ("Paper" : Str)), .tup [keptD a, keptD b], .str (Txt.lower ("Denial" : Str)), .tup [keptD a, keptD b]]) (by rw [lowP, lowD]) (r3 a ha b hb)
    exact ⟨lz rfl, _, p, rfl, h1, ⟨_, rfl⟩, h2, h3, h4, lz rfl, lz rfl, lz rfl, _, q, rfl, g1, ⟨_, rfl⟩, g2, g3, g4, _, _, true, rfl, rfl, hpq, hnx _ rfl⟩
  rintro _ rfl
  refine dseq_mid (fun ρ => ρ = ⟨[.v a, .v b, .v (keptD a), .v (keptD b), .v (stepT a b a b), .v (callT b a b a), .v (papT [a, b]), .v (denT [a, b])], c⟩) (fun nx hnx => ?_) ?_
  · exact ⟨lz rfl, lz rfl, true, q9, true, isPStep, false, isDStep, true, isPDenial, hnx _ rfl⟩
  rintro _ rfl
  exact ⟨lz rfl, _, "Paper", rfl, nmPaper, okk a ha b hb, lenPaper, okPP, _, _, true, rfl, q4 a ha b hb, .inr ⟨_, _, _, rfl, subPD, _, _, false, rfl, q5 a ha b hb, lz rfl, _, "Paper", rfl, nmPaper, oka a ha, lenPaper, .inl ⟨okPP, _, _, false, rfl, q6 a ha b hb, lz rfl, _, "Paper", rfl, nmPaper, ok0, lenPaper, lz rfl, _, "Paper", rfl, nmPaper, ok0, lenPaper, ⟨okPP, _, _, true, rfl, q7, lz rfl, lz rfl, _, "Paper", rfl, nmPaper, okz a ha, lenPaper, lz rfl, lz rfl, _, "Paper", rfl, nmPaper, oky a ha, lenPaper, .inl ⟨okPP, _, _, false, rfl, q8 a ha, q⟩⟩⟩⟩⟩
end
end K00
end DL

-- part K00I
set_option maxHeartbeats 40000000
/-! K00: the law's walk -/
namespace DL
namespace K00
open PySem PySem.Spec PyProof.Rows L2
abbrev sLaw : Stmt := topS 25
theorem scL : FnScope ["script", "well", "turn", "one", "two", "some", "named", "row", "at", "error", "spot"] ["script"] (defScope sLaw) := ⟨rfl, rfl, rfl, by decide +kernel, rfl, by decide +kernel, by decide +kernel⟩
abbrev E7 (Cs : Nat → Addr) (a b : D) : List D := [.exc (Cs 0) ["part"] [a], .exc (Cs 1) ["part"] [a], .exc (Cs 2) ["part"] [a], .exc (Cs 3) ["part"] [a], .exc (Cs 4) ["word", "line"] [b, a], .exc (Cs 5) ["word"] [a], .exc (Cs 6) [] []]
abbrev E8 (Cs : Nat → Addr) (a b : D) : List D := [.exc (Cs 0) ["part"] [a], .exc (Cs 1) ["part"] [a], .exc (Cs 2) ["part"] [a], .exc (Cs 3) ["part"] [a], .exc (Cs 4) ["word", "line"] [b, a], .exc (Cs 5) ["word"] [a], .exc (Cs 6) [] [], .exc (Cs 7) ["most", "what"] [b, a]]
theorem enum_at {Cs : Nat → Addr} {a b d : D} {m : Nat} (h : ((E8 Cs a b).zipIdx.map fun p => D.tup [.int (p.2 : Nat), p.1])[m]? = some d) : ∃ ns es, m < 8 ∧ d = .tup [.int (m : Nat), .exc (Cs m) ns es] := by
  match m, h with
  | 0, h => cases h; exact ⟨_, _, by decide, rfl⟩
  | 1, h => cases h; exact ⟨_, _, by decide, rfl⟩
  | 2, h => cases h; exact ⟨_, _, by decide, rfl⟩
  | 3, h => cases h; exact ⟨_, _, by decide, rfl⟩
  | 4, h => cases h; exact ⟨_, _, by decide, rfl⟩
  | 5, h => cases h; exact ⟨_, _, by decide, rfl⟩
  | 6, h => cases h; exact ⟨_, _, by decide, rfl⟩
  | 7, h => cases h; exact ⟨_, _, by decide, rfl⟩
  | m + 8, h => cases h
def spF (m : Nat) : D → D
  | .int k => .bl (decide (k = (m : Int)))
  | _ => .non
def ptF : D → D
  | .exc _ ns _ => .bl (ns == [("part" : Str)])
  | _ => .non
theorem mem_E8 {Cs : Nat → Addr} {a b d : D} (h : d ∈ E8 Cs a b) : ∃ m ns es, m < 8 ∧ d = .exc (Cs m) ns es ∧ ptF (.exc (Cs m) ns es) = .bl (decide (m < 4)) := by
  simp only [E8, List.mem_cons, List.not_mem_nil, or_false] at h
  rcases h with rfl | rfl | rfl | rfl | rfl | rfl | rfl | rfl
  · exact ⟨0, _, _, by decide, rfl, rfl⟩
  · exact ⟨1, _, _, by decide, rfl, rfl⟩
  · exact ⟨2, _, _, by decide, rfl, rfl⟩
  · exact ⟨3, _, _, by decide, rfl, rfl⟩
  · exact ⟨4, _, _, by decide, rfl, rfl⟩
  · exact ⟨5, _, _, by decide, rfl, rfl⟩
  · exact ⟨6, _, _, by decide, rfl, rfl⟩
  · exact ⟨7, _, _, by decide, rfl, rfl⟩
theorem q12 : ∀ m < 8, eqD (.lst ((List.range 8).map fun j => .bl (decide (m = j)))) (.lst ((intsD 0 8).map (spF m))) = some true := by decide +kernel
theorem eqD_int {a b : Int} : eqD (.int a) (.int b) = some (decide (a = b)) := rfl
/-- all that the law's walk asks -/
structure LawB (P : Program) (w : World) (K : PySem.W.Frag) (mg : Str → Option Value) (base : Heap) (cls : Str → Option Addr) (Cs : Nat → Addr) (CSo CPt : Addr) where
  B : PapB P w K mg base cls
  E : ErrT K mg Cs CSo CPt
  nf : ∀ i, i < 8 → ∀ f ∈ ([("part" : Str), "line", "word", "what", "most"] : List Str), PySem.W.findIn K (.ref (Cs i)) f = some none
  fW : Addr
  fdW : FuncData
  FW : Fun K "_law_well" "_law_well" sWell fW fdW
  GW : FnOk P w K mg base CX0 1 fW fdW ["script"] (spWell K cls)
  gW : mg "_law_well" = some (.ref fW)
  bW : Binds K fdW ["script"] []
  fO : Addr
  fdO : FuncData
  FO : Fun K "_law_one" "_law_one" sOne fO fdO
  GO : FnOk P w K mg base CX0 2 fO fdO ["well", "some"] (spD K cls gOne)
  gO : mg "_law_one" = some (.ref fO)
  bO : Binds K fdO ["well", "some"] []
  fl : Addr
  fdl : FuncData
  Fl : Fun K "_law_flags_of" "_law_flags_of" sFl fl fdl
  Gl : FnOk P w K mg base CX0 1 fl fdl ["error"] (spD K cls (gFl Cs))
  gl : mg "_law_flags_of" = some (.ref fl)
  bl : Binds K fdl ["error"] []
  fR : Addr
  fdR : FuncData
  FR : Fun K "_law_papers_right" "_law_papers_right" sPR fR fdR
  GR : FnG P w K mg base CX0 16 fR fdR ["a", "b"] (spD K cls gPR)
  gR : mg "_law_papers_right" = some (.ref fR)
  bR : Binds K fdR ["a", "b"] []
  h0 : Addr
  hd0 : FuncData
  ok0 : Addr → Prop
  I0 : FnOk P w K mg base CX0 1 h0 hd0 ["self", "part"] (spE1 K ok0 "part")
  bI0 : Binds K hd0 ["self", "part"] []
  kI0 : KBn K hd0 ["self", "part"] 1 ["part"] (fun us ws => us ++ ws) (fun us ws => us ++ ws)
  iC0 : ∀ i, i < 4 → PySem.W.findIn K (.ref (Cs i)) "__init__" = some (some (.ref h0))
  ty0 : PySem.W.typeIn K (.ref h0) = some (.type "function")
  oC0 : ∀ i, i < 4 → ok0 (Cs i)
  h4 : Addr
  hd4 : FuncData
  ok4 : Addr → Prop
  I4 : FnOk P w K mg base CX0 1 h4 hd4 ["self", "line", "word"] (spE2 K ok4 "line" "word")
  bI4 : Binds K hd4 ["self", "line", "word"] []
  kI4 : KBn K hd4 ["self", "line", "word"] 1 ["word", "line"] (fun us ws => us ++ ws.reverse) (fun us ws => us ++ ws.reverse)
  iC4 : ∀ i, i = 4 → PySem.W.findIn K (.ref (Cs i)) "__init__" = some (some (.ref h4))
  ty4 : PySem.W.typeIn K (.ref h4) = some (.type "function")
  oC4 : ∀ i, i = 4 → ok4 (Cs i)
  h5 : Addr
  hd5 : FuncData
  ok5 : Addr → Prop
  I5 : FnOk P w K mg base CX0 1 h5 hd5 ["self", "word"] (spE1 K ok5 "word")
  bI5 : Binds K hd5 ["self", "word"] []
  kI5 : KBn K hd5 ["self", "word"] 1 ["word"] (fun us ws => us ++ ws) (fun us ws => us ++ ws)
  iC5 : ∀ i, i = 5 → PySem.W.findIn K (.ref (Cs i)) "__init__" = some (some (.ref h5))
  ty5 : PySem.W.typeIn K (.ref h5) = some (.type "function")
  oC5 : ∀ i, i = 5 → ok5 (Cs i)
  h7 : Addr
  hd7 : FuncData
  ok7 : Addr → Prop
  I7 : FnOk P w K mg base CX0 1 h7 hd7 ["self", "what", "most"] (spE2 K ok7 "what" "most")
  bI7 : Binds K hd7 ["self", "what", "most"] []
  kI7 : KBn K hd7 ["self", "what", "most"] 1 ["most", "what"] (fun us ws => us ++ ws.reverse) (fun us ws => us ++ ws.reverse)
  iC7 : ∀ i, i = 7 → PySem.W.findIn K (.ref (Cs i)) "__init__" = some (some (.ref h7))
  ty7 : PySem.W.typeIn K (.ref h7) = some (.type "function")
  oC7 : ∀ i, i = 7 → ok7 (Cs i)
  q6 : PySem.W.excIn K (Cs 6) [.type "ValueError", .type "Exception", .type "BaseException", .type "object"] "ValueError.__new__" = true
  k6 : PySem.W.keepIn K (.ref (Cs 6)) = true
  m_VE : mg "ValueError" = none
  m_range : mg "range" = none
  m_enum : mg "enumerate" = none
section
variable {P : Program} {w : World} {K : PySem.W.Frag} {mg : Str → Option Value} {base : Heap} {cls : Str → Option Addr}
theorem ok_law {f : Addr} {fd : FuncData} {Cs : Nat → Addr} {CSo CPt : Addr} (F : Fun K "law" "law" sLaw f fd) (L : LawB P w K mg base cls Cs CSo CPt) : FnG P w K mg base CX0 20 f fd ["script"] (spLaw K) := by
  have m_range := L.m_range
  refine okG F scL (fun vs H Q E h => ?_) (fun cdv A outer s H vs Q E hr hgd h => ?_)
  · obtain ⟨a, ns, rfl, _⟩ := h
    rfl
  obtain ⟨a, ns, rfl, hS, hl, q⟩ := h
  have hu := hr.units
  refine ⟨_, pss_cons (ps_set (i := 1) scL.nd rfl (.inl rfl) (pe_call L.GW (by exact hr.mono (by decide)) (by rfl) L.gW L.FW.kp L.bW .nil pass0 (pa_cons (pv 0) pa_nil)))
    (pss_cons (ps_for PassesOwn.never rfl (pi_range1 (by rfl) m_range (pa_cons pe_int pa_nil)) (pg_name (i := 2) scL.nd rfl (.inl rfl)) (pss_cons (ps_par (i := 3) (j := 4) rfl scL.nd rfl rfl (by decide) rfl rfl (pa_cons (pe_call L.GO (by exact hr.mono (by decide)) (by rfl) L.gO L.FO.kp L.bO .nil pass0 (pa_cons (pv 1) (pa_cons (pe_lst (pa_cons pe_non (pa_cons pe_int (pa_cons pe_str (pa_cons (pe_tup (pa_cons pe_str (pa_cons pe_int pa_nil))) (pa_cons (pe_lst (pa_cons pe_int (pa_cons (pe_lst (pa_cons pe_int pa_nil)) pa_nil))) (pa_cons (pe_disp (pps_cons pe_str pe_int pps_nil) rfl rfl (by decide) (by decide)) (pa_cons (pe_op op_pow pe_int pe_int) pa_nil)))))))) pa_nil))) (pa_cons (pe_call L.GO (by exact hr.mono (by decide)) (by rfl) L.gO L.FO.kp L.bO .nil pass0 (pa_cons (pv 1) (pa_cons (pe_lst (pa_cons pe_int (pa_cons pe_str (pa_cons pe_non (pa_cons (pe_tup pa_nil) (pa_cons (pe_lst (pa_cons (pe_lst pa_nil) pa_nil)) pa_nil)))))) pa_nil))) pa_nil)) rfl)
    (pss_cons (ps_set (i := 5) scL.nd rfl (.inl rfl) (pe_lst (pa_cons (pe_mkE (L.E.x 0 (by decide)).o (L.iC0 0 (by decide)) L.ty0 L.I0 (by exact hr.mono (by decide)) L.bI0 pass0 (by rfl) L.E.g0 (pa_cons (pv 3) pa_nil)) (pa_cons (pe_mkE (L.E.x 1 (by decide)).o (L.iC0 1 (by decide)) L.ty0 L.I0 (by exact hr.mono (by decide)) L.bI0 pass0 (by rfl) L.E.g1 (pa_cons (pv 3) pa_nil)) (pa_cons (pe_mkE (L.E.x 2 (by decide)).o (L.iC0 2 (by decide)) L.ty0 L.I0 (by exact hr.mono (by decide)) L.bI0 pass0 (by rfl) L.E.g2 (pa_cons (pv 3) pa_nil)) (pa_cons (pe_mkE (L.E.x 3 (by decide)).o (L.iC0 3 (by decide)) L.ty0 L.I0 (by exact hr.mono (by decide)) L.bI0 pass0 (by rfl) L.E.g3 (pa_cons (pv 3) pa_nil)) (pa_cons (pe_mkE (L.E.x 4 (by decide)).o (L.iC4 4 (by decide)) L.ty4 L.I4 (by exact hr.mono (by decide)) L.bI4 pass0 (by rfl) L.E.g4 (pa_cons (pv 3) (pa_cons (pv 4) pa_nil))) (pa_cons (pe_mkE (L.E.x 5 (by decide)).o (L.iC5 5 (by decide)) L.ty5 L.I5 (by exact hr.mono (by decide)) L.bI5 pass0 (by rfl) L.E.g5 (pa_cons (pv 3) pa_nil)) (pa_cons (pe_mkN PySem.F.excBase_ValueError L.q6 L.E.g6 L.k6 (by rfl)) (pa_cons (pe_mkE (L.E.x 7 (by decide)).o (L.iC7 7 (by decide)) L.ty7 L.I7 (by exact hr.mono (by decide)) L.bI7 pass0 (by rfl) L.E.g7 (pa_cons (pv 3) (pa_cons (pv 4) pa_nil))) pa_nil))))))))))
    (pss_cons (ps_set (i := 6) scL.nd rfl (.inl rfl) (pe_lst (pa_cons (pe_mkEK (L.E.x 0 (by decide)).o (L.iC0 0 (by decide)) L.ty0 L.I0 (by exact hr.mono (by decide)) L.kI0 (fun a ws _ => ⟨_, rfl⟩) pass0 (by rfl) L.E.g0 (pk_cons (pv 3) pk_nil)) (pa_cons (pe_mkEK (L.E.x 1 (by decide)).o (L.iC0 1 (by decide)) L.ty0 L.I0 (by exact hr.mono (by decide)) L.kI0 (fun a ws _ => ⟨_, rfl⟩) pass0 (by rfl) L.E.g1 (pk_cons (pv 3) pk_nil)) (pa_cons (pe_mkEK (L.E.x 2 (by decide)).o (L.iC0 2 (by decide)) L.ty0 L.I0 (by exact hr.mono (by decide)) L.kI0 (fun a ws _ => ⟨_, rfl⟩) pass0 (by rfl) L.E.g2 (pk_cons (pv 3) pk_nil)) (pa_cons (pe_mkEK (L.E.x 3 (by decide)).o (L.iC0 3 (by decide)) L.ty0 L.I0 (by exact hr.mono (by decide)) L.kI0 (fun a ws _ => ⟨_, rfl⟩) pass0 (by rfl) L.E.g3 (pk_cons (pv 3) pk_nil)) (pa_cons (pe_mkEK (L.E.x 4 (by decide)).o (L.iC4 4 (by decide)) L.ty4 L.I4 (by exact hr.mono (by decide)) L.kI4 (fun a ws _ => ⟨_, rfl⟩) pass0 (by rfl) L.E.g4 (pk_cons (pv 4) (pk_cons (pv 3) pk_nil))) (pa_cons (pe_mkEK (L.E.x 5 (by decide)).o (L.iC5 5 (by decide)) L.ty5 L.I5 (by exact hr.mono (by decide)) L.kI5 (fun a ws _ => ⟨_, rfl⟩) pass0 (by rfl) L.E.g5 (pk_cons (pv 3) pk_nil)) (pa_cons (pe_mkN PySem.F.excBase_ValueError L.q6 L.E.g6 L.k6 (by rfl)) pa_nil)))))))))
    (pss_cons (ps_expr (pe_bm PySem.F.plainAttrs_list PySem.F.slot_list_append PySem.F.type_list_append mt_append (pv 6) (pa_cons (pe_mkEK (L.E.x 7 (by decide)).o (L.iC7 7 (by decide)) L.ty7 L.I7 (by exact hr.mono (by decide)) L.kI7 (fun a ws _ => ⟨_, rfl⟩) pass0 (by rfl) L.E.g7 (pk_cons (pv 4) (pk_cons (pv 3) pk_nil))) pa_nil)))
    (pss_cons (ps_for PassesOwn.never rfl (pi_seq (pe_tup (pa_cons (pv 5) (pa_cons (pv 6) pa_nil)))) (pg_name (i := 7) scL.nd rfl (.inl rfl)) (pss_cons (ps_if (PW.pt (pw_or (pt_cmpR op_ne (pe_callB (call_reprQ hgd hr.units) (by rfl) L.B.m_repr (by decide +kernel) (pa_cons (pe_lc rfl scL.nd (pi_seq (pe_slice sl_list (pv 7) po_none (po_some pe_int))) (own := [("error", 9)]) (blkOk_by rfl) (fun _ _ _ _ _ => (pg_name (i := 9) scL.nd rfl (.inl rfl))) (fun _ _ _ _ _ => pts_nil) (fun _ _ _ _ _ => (pe_fldE (K := K) rfl (pv 9) rfl))) pa_nil)) (pe_callB (call_reprQ hgd hr.units) (by rfl) L.B.m_repr (by decide +kernel) (pa_cons (pe_op op_rep (pe_lst (pa_cons (pv 3) pa_nil)) pe_int) pa_nil)) (nomark _)) (pw_or1 (pt_cmpR op_ne (pe_callB (call_reprQ hgd hr.units) (by rfl) L.B.m_repr (by decide +kernel) (pa_cons (pe_lst (pa_cons (pe_fldE (K := K) rfl (pe_ix ix_list (pv 7) pe_int (fun _ _ => rfl)) rfl) (pa_cons (pe_fldE (K := K) rfl (pe_ix ix_list (pv 7) pe_int (fun _ _ => rfl)) rfl) (pa_cons (pe_fldE (K := K) rfl (pe_ix ix_list (pv 7) pe_int (fun _ _ => rfl)) rfl) pa_nil)))) pa_nil)) (pe_callB (call_reprQ hgd hr.units) (by rfl) L.B.m_repr (by decide +kernel) (pa_cons (pe_lst (pa_cons (pv 3) (pa_cons (pv 4) (pa_cons (pv 3) pa_nil)))) pa_nil)) (nomark _))))) (pss_one (ps_ret pe_bl)) pss_nil)
    (pss_cons (ps_if (pt_cmpR op_ne (pe_callB (call_reprQ hgd hr.units) (by rfl) L.B.m_repr (by decide +kernel) (pa_cons (pe_lst (pa_cons (pe_fldE (K := K) rfl (pe_ix ix_list (pv 7) pe_int (fun _ _ => rfl)) rfl) (pa_cons (pe_fldE (K := K) rfl (pe_ix ix_list (pv 7) pe_int (fun _ _ => rfl)) rfl) pa_nil))) pa_nil)) (pe_callB (call_reprQ hgd hr.units) (by rfl) L.B.m_repr (by decide +kernel) (pa_cons (pe_lst (pa_cons (pv 3) (pa_cons (pv 4) pa_nil))) pa_nil)) (nomark _)) (pss_one (ps_ret pe_bl)) pss_nil)
    (pss_cons (ps_for PassesOwn.never rfl (pi_enum (by rfl) L.m_enum (pa_cons (pv 7) pa_nil)) (pg_tup rfl (pgs_cons (pg_name (i := 8) scL.nd rfl (.inr rfl)) (pgs_cons (pg_name (i := 9) scL.nd rfl (.inl rfl)) pgs_nil))) (pss_one (ps_if (PW.pt (pw_or (pt_cmpR (op_neD hu) (pe_call L.Gl (by exact hr.mono (by decide)) (by rfl) L.gl L.Fl.kp L.bl .nil pass0 (pa_cons (pv 9) pa_nil)) (pe_lc rfl scL.nd (pi_range1 (by rfl) m_range (pa_cons pe_int pa_nil)) (own := [("spot", 10)]) (blkOk_by rfl) (fun _ _ _ _ _ => (pg_name (i := 10) scL.nd rfl (.inl rfl))) (fun _ _ _ _ _ => pts_nil) (fun _ _ _ _ _ => (pe_cmpR (r := rEqD K) (op_eqD hu) (pv 10) (pv 8) (nomark _)))) (nomark _)) (pw_or (pt_not (pt_val (pe_callB (r := rIsiE K) (call_isiE L.E.oc L.E.ot) (by rfl) L.B.m_isinstance (by decide +kernel) (pa_cons (pv 9) (pa_cons (pe_glob (by rfl) L.E.gS (v := .ref CSo) rfl) pa_nil))))) (pw_or1 (pt_not (pt_val (pe_callB (r := rIsiE K) (call_isiE L.E.oc L.E.ot) (by rfl) L.B.m_isinstance (by decide +kernel) (pa_cons (pv 9) (pa_cons (pe_bltn (by rfl) L.m_VE (by decide +kernel) (v := .ty "ValueError") rfl) pa_nil))))))))) (pss_one (ps_ret pe_bl)) pss_nil)))
    (pss_one (ps_if (pt_cmpR (op_neD hu) (pe_lc rfl scL.nd (pi_seq (pv 7)) (own := [("error", 9)]) (blkOk_by rfl) (fun _ _ _ _ _ => (pg_name (i := 9) scL.nd rfl (.inl rfl))) (fun _ _ _ _ _ => pts_nil) (fun _ _ _ _ _ => (pe_callB (r := rIsiE K) (call_isiE L.E.oc L.E.ot) (by rfl) L.B.m_isinstance (by decide +kernel) (pa_cons (pv 9) (pa_cons (pe_glob (by rfl) L.E.gP (v := .ref CPt) rfl) pa_nil))))) (pe_op op_catS (pe_op op_rep (pe_lst (pa_cons pe_bl pa_nil)) pe_int) (pe_op op_rep (pe_lst (pa_cons pe_bl pa_nil)) pe_int)) (nomark _)) (pss_one (ps_ret pe_bl)) pss_nil))))))
    (pss_one (ps_if (pt_not (pt_val (pe_callG L.GR (by exact hr.mono (by decide)) hgd (by rfl) L.gR L.FR.kp L.bR .nil pass0 (pa_cons (pv 3) (pa_cons (pv 4) pa_nil))))) (pss_one (ps_ret pe_bl)) pss_nil))))))))
    (pss_one (ps_ret pe_bl))), ?_⟩
  refine seq_mid (fun σ' H' => ∃ (p pc : Addr) (F' : Hp) (ns' : List Int), σ' = (start ["script", "well", "turn", "one", "two", "some", "named", "row", "at", "error", "spot"] [V.ref a]).set 1 (some (.ref p)) ∧ Same F' H' ∧ F' p = none ∧ ns'.length ≤ 60 ∧ H' p = some (.lst [.ref pc, .int 0, .int 0]) ∧ SqL K F' pc (ns'.map V.int)) (fun nx hnx => ?_) ?_
  · refine ⟨.ref a, rfl, fun b => if b = a then H b else none, a, ns, rfl, ?_, ?_, by omega, fun p pc H' F' ns' k hp fp' hl' hp' hs' => ?_⟩
    · intro b o e
      have e : (if b = a then H b else none) = some o := e
      by_cases hb : b = a
      · rw [if_pos hb] at e; exact e
      · rw [if_neg hb] at e; cases e
    · have ea : (fun b => if b = a then H b else none : Hp) a = H a := if_pos rfl
      rcases hS with (hS | ⟨o, hS⟩) | hS
      · exact .inl (.inl (ea.trans hS))
      · exact .inl (.inr ⟨o, ea.trans hS⟩)
      · exact .inr hS
    · exact hnx _ _ ⟨p, pc, F', ns', rfl, k.fh, fp', hl', hp', hs'⟩
  rintro σ' H' ⟨p, pc, F', ns', rfl, sf, fp, hl', hp, hs⟩
  have hio : (bs0 F' H').io = [] := rfl
  refine well_go (ts := tSeq (tFor _ _ _) (tRet _)) (W := ⟨K, cls, some p⟩) (B := bs0 F' H') (F := F') (ρ := ⟨[.un, .v .well, .un, .un, .un, .un, .un, .un, .un, .un, .un], 0⟩) (DD := { nx := fun _ => False, rt := fun _ d => d = .bl true })
    (rs_seq (rs_for (ri_rng1 (ra_cons re_c ra_nil)) (rg_name (i := 2)) (rs_seq (rs_par (i := 3) (j := 4) (ra_cons (re_call (G := gOne) (E := E0) (ra_cons (re_var (i := 1) hio) (ra_cons (re_lst (ra_cons re_c (ra_cons re_c (ra_cons re_c (ra_cons (re_tup (ra_cons re_c (ra_cons re_c ra_nil))) (ra_cons (re_lst (ra_cons re_c (ra_cons (re_lst (ra_cons re_c ra_nil)) ra_nil))) (ra_cons re_disp1 (ra_cons (re_I re_c re_c) ra_nil)))))))) ra_nil))) (ra_cons (re_call (G := gOne) (E := E0) (ra_cons (re_var (i := 1) hio) (ra_cons (re_lst (ra_cons re_c (ra_cons re_c (ra_cons re_c (ra_cons (re_tup ra_nil) (ra_cons (re_lst (ra_cons (re_lst ra_nil) ra_nil)) ra_nil)))))) ra_nil))) ra_nil)))
    (rs_seq (rs_asg (re_lst (ra_cons (re_mk1 (C := Cs 0) (f := "part") (ok := L.ok0) (L.oC0 0 (by decide)) (ra_cons (re_var (i := 3) hio) ra_nil)) (ra_cons (re_mk1 (C := Cs 1) (f := "part") (ok := L.ok0) (L.oC0 1 (by decide)) (ra_cons (re_var (i := 3) hio) ra_nil)) (ra_cons (re_mk1 (C := Cs 2) (f := "part") (ok := L.ok0) (L.oC0 2 (by decide)) (ra_cons (re_var (i := 3) hio) ra_nil)) (ra_cons (re_mk1 (C := Cs 3) (f := "part") (ok := L.ok0) (L.oC0 3 (by decide)) (ra_cons (re_var (i := 3) hio) ra_nil)) (ra_cons (re_mk2 (C := Cs 4) (f := "line") (g := "word") (ok := L.ok4) (L.oC4 4 (by decide)) (ra_cons (re_var (i := 3) hio) (ra_cons (re_var (i := 4) hio) ra_nil))) (ra_cons (re_mk1 (C := Cs 5) (f := "word") (ok := L.ok5) (L.oC5 5 (by decide)) (ra_cons (re_var (i := 3) hio) ra_nil)) (ra_cons (re_mkN (C := Cs 6)) (ra_cons (re_mk2 (C := Cs 7) (f := "what") (g := "most") (ok := L.ok7) (L.oC7 7 (by decide)) (ra_cons (re_var (i := 3) hio) (ra_cons (re_var (i := 4) hio) ra_nil))) ra_nil))))))))) (rg_name (i := 5)))
    (rs_seq (rs_asgN (i := 6) (rn_lst (ra_cons (re_mk1K (C := Cs 0) (f := "part") (ok := L.ok0) (L.oC0 0 (by decide)) (ra_cons (re_var (i := 3) hio) ra_nil)) (ra_cons (re_mk1K (C := Cs 1) (f := "part") (ok := L.ok0) (L.oC0 1 (by decide)) (ra_cons (re_var (i := 3) hio) ra_nil)) (ra_cons (re_mk1K (C := Cs 2) (f := "part") (ok := L.ok0) (L.oC0 2 (by decide)) (ra_cons (re_var (i := 3) hio) ra_nil)) (ra_cons (re_mk1K (C := Cs 3) (f := "part") (ok := L.ok0) (L.oC0 3 (by decide)) (ra_cons (re_var (i := 3) hio) ra_nil)) (ra_cons (re_mk2K (C := Cs 4) (f := "line") (g := "word") (ok := L.ok4) (L.oC4 4 (by decide)) (ra_cons (re_var (i := 4) hio) (ra_cons (re_var (i := 3) hio) ra_nil))) (ra_cons (re_mk1K (C := Cs 5) (f := "word") (ok := L.ok5) (L.oC5 5 (by decide)) (ra_cons (re_var (i := 3) hio) ra_nil)) (ra_cons (re_mkN (C := Cs 6)) ra_nil)))))))))
    (rs_seq (rs_app (i := 6) (re_with (P := fun ρ => ∃ ds, getO ρ 6 = some (.lst ds)) (re_mk2K (C := Cs 7) (f := "what") (g := "most") (ok := L.ok7) (L.oC7 7 (by decide)) (ra_cons (re_var (i := 4) hio) (ra_cons (re_var (i := 3) hio) ra_nil)))) (fun ρ Q h => h.1))
    (rs_seq (rs_for (ri_seq (re_tup (ra_cons (re_var (i := 5) hio) (ra_cons (re_var (i := 6) hio) ra_nil)))) (rg_name (i := 7)) (rs_seq (rs_if (rt_or (rt_test (re_neS (re_reprQ (ra_cons (RN.re (rn_lc (is := [9]) (vs := [9]) (ri_seq (re_slL (re_var (i := 7) hio) ro_none (ro_some re_c))) (fun B hb => by have hio := hb.trans hio; exact (rg_name (i := 9))) (fun B hb => by have hio := hb.trans hio; exact rt_yes) (fun B hb => by have hio := hb.trans hio; exact (re_fldE (re_var (i := 9) hio) (ok := fun C => XkC K C ∧ PySem.W.findIn K (.ref C) "part" = some none) (fun C h => h))) (fun _ h => h))) ra_nil)) (re_reprQ (ra_cons (re_rep (rn_lst (ra_cons (re_var (i := 3) hio) ra_nil))) ra_nil)))) (rt_test (re_neS (re_reprQ (ra_cons (re_lst (ra_cons (re_fldE (re_ixL (re_var (i := 7) hio) re_c) (ok := fun C => XkC K C ∧ PySem.W.findIn K (.ref C) "line" = some none) (fun C h => h)) (ra_cons (re_fldE (re_ixL (re_var (i := 7) hio) re_c) (ok := fun C => XkC K C ∧ PySem.W.findIn K (.ref C) "word" = some none) (fun C h => h)) (ra_cons (re_fldE (re_ixL (re_var (i := 7) hio) re_c) (ok := fun C => XkC K C ∧ PySem.W.findIn K (.ref C) "word" = some none) (fun C h => h)) ra_nil)))) ra_nil)) (re_reprQ (ra_cons (re_lst (ra_cons (re_var (i := 3) hio) (ra_cons (re_var (i := 4) hio) (ra_cons (re_var (i := 3) hio) ra_nil)))) ra_nil))))) (rs_ret re_c) rs_next)
    (rs_seq (rs_if (rt_test (re_neS (re_reprQ (ra_cons (re_lst (ra_cons (re_fldE (re_ixL (re_var (i := 7) hio) re_c) (ok := fun C => XkC K C ∧ PySem.W.findIn K (.ref C) "what" = some none) (fun C h => h)) (ra_cons (re_fldE (re_ixL (re_var (i := 7) hio) re_c) (ok := fun C => XkC K C ∧ PySem.W.findIn K (.ref C) "most" = some none) (fun C h => h)) ra_nil))) ra_nil)) (re_reprQ (ra_cons (re_lst (ra_cons (re_var (i := 3) hio) (ra_cons (re_var (i := 4) hio) ra_nil))) ra_nil)))) (rs_ret re_c) rs_next)
    (rs_seq (rs_for (ri_enum (ra_cons (re_var (i := 7) hio) ra_nil)) (rg_tup (rgs_cons (rg_name (i := 8)) (rgs_cons (rg_name (i := 9)) rgs_nil))) (rs_if (rt_or (rt_test (re_neD (re_call (G := gFl Cs) (E := E0) (ra_cons (re_var (i := 9) hio) ra_nil)) (RN.re (rn_lc (is := [10]) (vs := [10]) (ri_rng1 (ra_cons re_c ra_nil)) (fun B hb => by have hio := hb.trans hio; exact (rg_name (i := 10))) (fun B hb => by have hio := hb.trans hio; exact rt_yes) (fun B hb => by have hio := hb.trans hio; exact (re_eqD (re_var (i := 10) hio) (re_var (i := 8) hio))) (fun _ h => h))))) (rt_or (rt_not (rt_B (re_isiE (re_var (i := 9) hio) (.own CSo) (kk := fun C b => XkC K C ∧ PySem.W.kitOne K (.ref C) (.ref CSo) = some b) (fun C b h => h)))) (rt_not (rt_B (re_isiE (re_var (i := 9) hio) (.ty "ValueError") (kk := fun C b => XkC K C ∧ PySem.W.kitOne K (.ref C) (.type "ValueError") = some b) (fun C b h => h)))))) (rs_ret re_c) rs_next))
    (rs_if (rt_test (re_neD (RN.re (rn_lc (is := [9]) (vs := [9]) (ri_seq (re_var (i := 7) hio)) (fun B hb => by have hio := hb.trans hio; exact (rg_name (i := 9))) (fun B hb => by have hio := hb.trans hio; exact rt_yes) (fun B hb => by have hio := hb.trans hio; exact (re_isiE (re_var (i := 9) hio) (.own CPt) (kk := fun C b => XkC K C ∧ PySem.W.kitOne K (.ref C) (.ref CPt) = some b) (fun C b h => h))) (fun _ h => h))) (re_catS (re_rep (rn_lst (ra_cons re_c ra_nil))) (re_rep (rn_lst (ra_cons re_c ra_nil)))))) (rs_ret re_c) rs_next)))))
    (rs_if (rt_not (rt_B (re_call (G := gPR) (E := E0) (ra_cons (re_var (i := 3) hio) (ra_cons (re_var (i := 4) hio) ra_nil))))) (rs_ret re_c) rs_next)))))))
    (rs_ret re_c)) ?_ ?_ ?_
  · exact rel_well (n := 9) rfl rfl sf fp hl' hp hs
  · exact ⟨fun _ _ _ _ _ _ z => z.elim, fun _ _ _ _ _ _ z => z.elim, fun _ _ _ _ _ _ z => z.elim, fun σ2 H2 F2 ρ2 d v r s2 dv e => by
      have e : d = .bl true := e
      subst e
      have ev : v = .bl true := dv
      subst ev
      exact q H2⟩
  refine dfor_M (fun i ρ => ∃ x2 x3 x4 x5 x6 x7 x8 x9 : Sl, noO x9 = true ∧ ρ = ⟨[.un, .v .well, x2, x3, x4, x5, x6, x7, x8, x9, .un], 2 * i⟩) [.int 0, .int 1, .int 2] ?_ ?_ ?_ ?_
  · exact ⟨by decide, rfl, _, _, _, _, _, _, _, .un, rfl, rfl⟩
  · rintro i t _ hi ⟨x2, x3, x4, x5, x6, x7, x8, x9, h9, rfl⟩ nx hnx
    have hi3 : i < 3 := (List.getElem?_eq_some_iff.mp hi).1
    refine dseq_mid (fun ρ => ∃ a b : D, a ∈ sevens ∧ b ∈ fives ∧ ρ = ⟨[.un, .v .well, .v t, .v a, .v b, x5, x6, x7, x8, x9, .un], 2 * i + 2⟩) (fun nx hnx => ?_) ?_
    · refine ⟨lz rfl, lz rfl, lz rfl, ⟨by decide, by decide, by decide⟩, lz rfl, _, rfl, lz' rfl, lz' rfl, by show 2 * i < _; omega, fun a ha => ?_⟩
      refine ⟨lz rfl, lz rfl, lz rfl, lz rfl, _, rfl, lz' rfl, lz' rfl, by show 2 * i + 1 < _; omega, fun b hb => ?_⟩
      exact hnx _ ⟨a, b, ha, hb, rfl⟩
    rintro _ ⟨a, b, ha, hb, rfl⟩
    refine dseq_mid (fun ρ => ρ = ⟨[.un, .v .well, .v t, .v a, .v b, .v (.lst (E8 Cs a b)), x6, x7, x8, x9, .un], 2 * i + 2⟩) (fun nx hnx => ?_) ?_
    · exact ⟨lz rfl, hnx _ rfl⟩
    rintro _ rfl
    refine dseq_mid (fun ρ => ρ = ⟨[.un, .v .well, .v t, .v a, .v b, .v (.lst (E8 Cs a b)), .o (.lst (E7 Cs a b)), x7, x8, x9, .un], 2 * i + 2⟩) (fun nx hnx => ?_) ?_
    · exact ⟨lz rfl, hnx _ rfl⟩
    rintro _ rfl
    refine dseq_mid (fun ρ => ρ = ⟨[.un, .v .well, .v t, .v a, .v b, .v (.lst (E8 Cs a b)), .o (.lst (E8 Cs a b)), x7, x8, x9, .un], 2 * i + 2⟩) (fun nx hnx => ?_) ?_
    · exact ⟨⟨_, rfl⟩, lz' rfl, hnx _ rfl⟩
    rintro _ rfl
    refine dseq_mid (fun ρ => ∃ x7 x8 x9 : Sl, noO x9 = true ∧ ρ = ⟨[.un, .v .well, .v t, .v a, .v b, .v (.lst (E8 Cs a b)), .v (.lst (E8 Cs a b)), x7, x8, x9, .un], 2 * i + 2⟩) (fun nx hnx => ?_) ?_
    · refine dfor_M (fun _ ρ => ∃ x7 x8 x9 : Sl, noO x9 = true ∧ ρ = ⟨[.un, .v .well, .v t, .v a, .v b, .v (.lst (E8 Cs a b)), .v (.lst (E8 Cs a b)), x7, x8, x9, .un], 2 * i + 2⟩) [.lst (E8 Cs a b), .lst (E8 Cs a b)] ?_ ?_ ?_ ?_
      · exact ⟨lz rfl, rfl, x7, x8, x9, h9, rfl⟩
      · rintro j r _ hj ⟨x7, x8, x9, h9, rfl⟩ nx hnx
        have er : r = .lst (E8 Cs a b) := by
          match j, hj with
          | 0, hj => exact (Option.some.inj hj).symm
          | 1, hj => exact (Option.some.inj hj).symm
        subst er
        refine dseq_mid (fun ρ => ρ = ⟨[.un, .v .well, .v t, .v a, .v b, .v (.lst (E8 Cs a b)), .v (.lst (E8 Cs a b)), .v (.lst (E8 Cs a b)), x8, x9, .un], 2 * i + 2⟩) (fun nx hnx => ?_) ?_
        · refine ⟨noOwn1 (s := x9) rfl h9, lc_map (ds := [.exc (Cs 0) ["part"] [a], .exc (Cs 1) ["part"] [a], .exc (Cs 2) ["part"] [a], .exc (Cs 3) ["part"] [a]]) (fun _ => a) (lz rfl) (fun d hd ρ1 Q hA hc h1 hq => ?_) (lz' rfl) ?_⟩
          · obtain ⟨m, hm, rfl⟩ : ∃ m, m < 4 ∧ d = .exc (Cs m) ["part"] [a] := by
              simp only [List.mem_cons, List.not_mem_nil, or_false] at hd
              rcases hd with rfl | rfl | rfl | rfl
              · exact ⟨0, by decide, rfl⟩
              · exact ⟨1, by decide, rfl⟩
              · exact ⟨2, by decide, rfl⟩
              · exact ⟨3, by decide, rfl⟩
            exact dVar_at h1 ⟨⟨L.E.x m (by omega), L.nf m (by omega) _ (by decide +kernel)⟩, hq⟩
          · obtain ⟨p, q, h1, h2, h3, h4, g1, g2, g3, g4, hpq⟩ := rep_of (x := .lst [a, a, a, a]) rfl (r4 a ha)
            refine ⟨_, p, rfl, h1, ⟨_, rfl⟩, h2, h3, h4, lz rfl, [a], rfl, by decide, by decide, lz rfl, _, q, rfl, g1, ⟨_, rfl⟩, g2, g3, g4, _, _, true, rfl, rfl, hpq, ?_⟩
            obtain ⟨p, q, h1, h2, h3, h4, g1, g2, g3, g4, hpq⟩ := rep_of (x := .lst [a, b, a]) rfl (r5 a ha b hb)
            exact ⟨⟨L.E.x 4 (by decide), L.nf 4 (by decide) _ (by decide +kernel)⟩, ⟨L.E.x 4 (by decide), L.nf 4 (by decide) _ (by decide +kernel)⟩, ⟨L.E.x 5 (by decide), L.nf 5 (by decide) _ (by decide +kernel)⟩, lz rfl, _, p, rfl, h1, ⟨_, rfl⟩, h2, h3, h4, lz rfl, _, q, rfl, g1, ⟨_, rfl⟩, g2, g3, g4, _, _, true, rfl, rfl, hpq, hnx _ rfl⟩
        rintro _ rfl
        refine dseq_mid (fun ρ => ρ = ⟨[.un, .v .well, .v t, .v a, .v b, .v (.lst (E8 Cs a b)), .v (.lst (E8 Cs a b)), .v (.lst (E8 Cs a b)), x8, x9, .un], 2 * i + 2⟩) (fun nx hnx => ?_) ?_
        · obtain ⟨p, q, h1, h2, h3, h4, g1, g2, g3, g4, hpq⟩ := rep_of (x := .lst [a, b]) rfl (r6 a ha b hb)
          exact ⟨⟨L.E.x 7 (by decide), L.nf 7 (by decide) _ (by decide +kernel)⟩, ⟨L.E.x 7 (by decide), L.nf 7 (by decide) _ (by decide +kernel)⟩, lz rfl, _, p, rfl, h1, ⟨_, rfl⟩, h2, h3, h4, lz rfl, _, q, rfl, g1, ⟨_, rfl⟩, g2, g3, g4, _, _, true, rfl, rfl, hpq, hnx _ rfl⟩
        rintro _ rfl
        refine dseq_mid (fun ρ => ∃ x8 x9 : Sl, noO x9 = true ∧ ρ = ⟨[.un, .v .well, .v t, .v a, .v b, .v (.lst (E8 Cs a b)), .v (.lst (E8 Cs a b)), .v (.lst (E8 Cs a b)), x8, x9, .un], 2 * i + 2⟩) (fun nx hnx => ?_) ?_
        · refine dfor_M (fun _ ρ => ∃ x8 x9 : Sl, noO x9 = true ∧ ρ = ⟨[.un, .v .well, .v t, .v a, .v b, .v (.lst (E8 Cs a b)), .v (.lst (E8 Cs a b)), .v (.lst (E8 Cs a b)), x8, x9, .un], 2 * i + 2⟩) ((E8 Cs a b).zipIdx.map fun p => .tup [.int (p.2 : Nat), p.1]) ?_ ?_ ?_ ?_
          · exact ⟨rfl, x8, x9, h9, rfl⟩
          · rintro m d _ hd ⟨x8, x9, h9, rfl⟩ nx hnx
            obtain ⟨ns, es, hm, rfl⟩ := enum_at hd
            refine ⟨rfl, ?_⟩
            refine ⟨m, ns, es, hm, rfl, by decide, rfl, lc_map (ds := intsD 0 8) (spF m) (lz rfl) (fun d hd ρ1 Q hA hc h1 hq => ?_) (lz' rfl) ?_⟩
            · obtain ⟨k, rfl⟩ := intsD_mem hd
              exact dVar_at h1 (dVar_at (i := 8) ((hA.2 8 (by decide)).trans rfl) ⟨decide (k = (m : Int)), eqD_int, hq⟩)
            · exact ⟨true, q12 m hm, true, ⟨L.E.x m hm, L.E.kS m hm⟩, true, ⟨L.E.x m hm, L.E.kV m hm⟩, hnx _ ⟨_, _, rfl, rfl⟩⟩
          · rintro ρ h
            exact hnx ρ h
          · exact fun Q Q' h q => h _ _ q
        rintro _ ⟨x8', x9', h9', rfl⟩
        refine ⟨noOwn1 (s := x9') rfl h9', lc_map (ds := (E8 Cs a b)) ptF (lz rfl) (fun d hd ρ1 Q hA hc h1 hq => ?_) (lz' rfl) ?_⟩
        · obtain ⟨m, ns, es, hm, rfl, ep⟩ := mem_E8 hd
          rw [ep] at hq
          exact dVar_at h1 ⟨_, ⟨L.E.x m hm, L.E.kP m hm⟩, hq⟩
        · exact ⟨lz rfl, [.bl true], rfl, by decide, by decide, lz rfl, lz rfl, [.bl false], rfl, by decide, by decide, lz rfl, lz rfl, true, q11, hnx _ ⟨_, _, _, h9', rfl⟩⟩
      · rintro ρ ⟨x7, x8, x9, h9, rfl⟩
        exact hnx _ ⟨x7, x8, x9, h9, rfl⟩
      · exact fun Q Q' h q => ⟨q.1, h _ _ q.2⟩
    rintro _ ⟨x7', x8', x9', h9', rfl⟩
    exact ⟨a, b, rfl, ha, hb, hnx _ ⟨_, _, _, _, _, x7', x8', x9', h9', rfl⟩⟩
  · rintro _ ⟨x2, x3, x4, x5, x6, x7, x8, x9, h9, rfl⟩
    exact rfl
  · exact fun Q Q' h q => ⟨q.1, h _ _ q.2⟩
end
end K00
end DL

-- part K00J
set_option maxHeartbeats 4000000
/-! K00: what the top has written -/
namespace DL
namespace K00
open PySem PySem.Spec PyProof.Rows L2
/-- one class of papers -/
structure ClsF (K : PySem.W.Frag) (C : Addr) (nm : Str) (fE fB CP CD : Addr) (den : Bool) : Prop where
  pg : PySem.W.plainGet K C Str.empty = true
  hd : PySem.W.hasDictIn K C = true
  po : PySem.W.plainOver K C = true
  sa : PySem.W.findIn K (.ref C) "__setattr__" = some (some (.builtin "object.__setattr__"))
  ha : PySem.W.findIn K (.ref C) "__class__" = some (some (.builtin "object.__class__"))
  hm : PySem.W.mroIn K C (.type "object") = some true
  nn : ∀ f ∈ ([("word" : Str), "parts", "kind", "start", "goal", "act", "point", "part", "kept", "behind"] : List Str), PySem.W.findIn K (.ref C) f = some none
  at_ : ∃ o cd tk, K.lookup C = some o ∧ o.cls = .type "type" ∧ o.data = .cls cd ∧ o.slots[2]? = some (some (.str nm tk))
  fo : PySem.W.findCls K (.ref C) (.type "type") "__name__" = some (.get (.builtin "getset_descriptor.__get__") (.builtin "type.__name__") (.ref C) (.type "type"))
  eq : PySem.W.findIn K (.ref C) "__eq__" = some (some (.ref fE))
  ne : PySem.W.findIn K (.ref C) "__ne__" = some (some (.builtin "object.__ne__"))
  bo : PySem.W.findIn K (.ref C) "__bool__" = some (some (.ref fB))
  nt : PySem.W.notFirst K C (.type "tuple") = true
  kP : PySem.W.kitOne K (.ref C) (.ref CP) = some true
  kD : PySem.W.kitOne K (.ref C) (.ref CD) = some den
theorem ClsF.cl {K : PySem.W.Frag} {C : Addr} {nm : Str} {fE fB CP CD : Addr} {den : Bool} (B : ClsF K C nm fE fB CP CD den) : Cls K C := ⟨B.pg, B.hd, B.po, B.sa⟩
theorem ClsF.no {K : PySem.W.Frag} {C : Addr} {nm : Str} {fE fB CP CD : Addr} {den : Bool} (B : ClsF K C nm fE fB CP CD den) (f : Str) (hf : f ∈ ([("word" : Str), "parts", "kind", "start", "goal", "act", "point", "part", "kept", "behind"] : List Str)) : NoAttr K C f := B.nn f hf
/-- one class of errors -/
structure ErrF (K : PySem.W.Frag) (C CSo CPt : Addr) (part : Bool) : Prop where
  sa : PySem.W.findIn K (.ref C) "__setattr__" = some (some (.builtin "object.__setattr__"))
  exC : PySem.W.subIn K (.ref C) (.type "BaseException") = some true
  tyC : PySem.W.typeIn K (.ref C) = some (.type "type")
  kC : PySem.W.keepIn K (.ref C) = true
  ga : PySem.W.findIn K (.ref C) "__getattribute__" = some (some (.builtin "BaseException.__getattribute__"))
  gg : PySem.W.findIn K (.ref C) "__getattr__" = some none
  hd : PySem.W.hasDictIn K C = true
  ve : PySem.W.mroIn K C (.type "ValueError") = some true
  ob : PySem.W.mroIn K C (.type "object") = some true
  cl : PySem.W.findIn K (.ref C) "__class__" = some (some (.builtin "object.__class__"))
  nf : ∀ f ∈ ([("part" : Str), "line", "word", "what", "most"] : List Str), PySem.W.findIn K (.ref C) f = some none
  kS : PySem.W.kitOne K (.ref C) (.ref CSo) = some true
  kP : PySem.W.kitOne K (.ref C) (.ref CPt) = some part
  kV : PySem.W.kitOne K (.ref C) (.type "ValueError") = some true
section
variable {C0 C1 C2 C3 : Addr}
abbrev tab4 (C0 C1 C2 C3 : Addr) : List (Str × Addr) := [("Paper", C0), ("Denial", C1), ("Step", C2), ("Call", C3)]
theorem cls_all {p : Str → Addr → Prop} (h0 : p "Paper" C0) (h1 : p "Denial" C1) (h2 : p "Step" C2) (h3 : p "Call" C3) {c : Str} {C : Addr} (h : List.lookup c (tab4 C0 C1 C2 C3) = some C) : p c C := by
  have m := PySem.mem_of_lookup h
  simp only [tab4, List.mem_cons, Prod.mk.injEq, List.not_mem_nil, or_false] at m
  rcases m with ⟨rfl, rfl⟩ | ⟨rfl, rfl⟩ | ⟨rfl, rfl⟩ | ⟨rfl, rfl⟩ <;> assumption
theorem nmOf_eq {c nm : Str} (h : nmOf c = some nm) : c = nm := by
  unfold nmOf at h
  cases e : [("Paper" : Str), "Denial", "Step", "Call"].contains c with
  | false => rw [e] at h; cases h
  | true => rw [e] at h; exact Option.some.inj h
theorem isP_eq {c : Str} {b : Bool} (h : isP c = some b) : b = true := by
  unfold isP at h
  cases e : [("Paper" : Str), "Denial", "Step", "Call"].contains c with
  | false => rw [e] at h; cases h
  | true => rw [e] at h; exact (Option.some.inj h).symm
theorem in_cls {c : Str} (h : c ∈ [("Paper" : Str), "Denial", "Step", "Call"]) : ∃ C, List.lookup c (tab4 C0 C1 C2 C3) = some C := by
  simp only [List.mem_cons, List.not_mem_nil, or_false] at h
  rcases h with rfl | rfl | rfl | rfl <;> exact ⟨_, rfl⟩
theorem isP_cls {c : Str} {b : Bool} (h : isP c = some b) : ∃ C, List.lookup c (tab4 C0 C1 C2 C3) = some C := by
  unfold isP at h
  cases e : [("Paper" : Str), "Denial", "Step", "Call"].contains c with
  | false => rw [e] at h; cases h
  | true => exact in_cls (List.contains_iff_mem.mp e)
theorem isD_cls {c : Str} {b : Bool} (h : isD c = some b) : ∃ C, List.lookup c (tab4 C0 C1 C2 C3) = some C := by
  unfold isD at h
  cases e : [("Denial" : Str)].contains c with
  | true =>
    have m := List.contains_iff_mem.mp e
    refine in_cls ?_
    simp only [List.mem_cons, List.not_mem_nil, or_false] at m ⊢
    simp [m]
  | false =>
    rw [e] at h
    cases e2 : [("Paper" : Str), "Step", "Call"].contains c with
    | false => rw [e2] at h; cases h
    | true =>
      have m := List.contains_iff_mem.mp e2
      refine in_cls ?_
      simp only [List.mem_cons, List.not_mem_nil, or_false] at m ⊢
      rcases m with h | h | h <;> simp [h]
end
theorem all_mk {P : Program} {w : World} {K : PySem.W.Frag} {h : Heap} {mg : Str → Option Value} {fa : Addr} (X : K.In h) (G : h.Ns mainGlobals mg) (hfa : mg "law" = some (.ref fa))
    {CPaper CDenial CSo CPt : Addr}
    {fK : Addr} {odK anK : Option Addr} {slK : Array (Option Value)} {ocK kVK dcK pmK cdK ctK : Value}
    {fP : Addr} {odP anP : Option Addr} {slP : Array (Option Value)} {ocP kVP dcP pmP cdP ctP : Value}
    {fbP : Addr} {odbP anbP : Option Addr} {slbP : Array (Option Value)} {ocbP kVbP dcbP pmbP cdbP ctbP : Value}
    {fEq : Addr} {odEq anEq : Option Addr} {slEq : Array (Option Value)} {ocEq kVEq dcEq pmEq cdEq ctEq : Value}
    {fbD : Addr} {odbD anbD : Option Addr} {slbD : Array (Option Value)} {ocbD kVbD dcbD pmbD cdbD ctbD : Value}
    {fW : Addr} {odW anW : Option Addr} {slW : Array (Option Value)} {ocW kVW dcW pmW cdW ctW : Value}
    {fDr : Addr} {odDr anDr : Option Addr} {slDr : Array (Option Value)} {ocDr kVDr dcDr pmDr cdDr ctDr : Value}
    {fO : Addr} {odO anO : Option Addr} {slO : Array (Option Value)} {ocO kVO dcO pmO cdO ctO : Value}
    {fA : Addr} {odA anA : Option Addr} {slA : Array (Option Value)} {ocA kVA dcA pmA cdA ctA : Value}
    {fl : Addr} {odl anl : Option Addr} {sll : Array (Option Value)} {ocl kVl dcl pml cdl ctl : Value}
    {fR : Addr} {odR anR : Option Addr} {slR : Array (Option Value)} {ocR kVR dcR pmR cdR ctR : Value}
    {fL : Addr} {odL anL : Option Addr} {slL : Array (Option Value)} {ocL kVL dcL pmL cdL ctL : Value}
    {CStep CCall : Addr}
    {fStep ccStep cdaStep : Addr} {odStep anStep cldStep cddStep : Option Addr} {slStep cslStep ccsStep : Array (Option Value)} {ocStep kVStep dcStep pmStep ctStep clStep cclStep : Value} {vsStep : Array Value} {fileStep : Str} {tfStep : Tok} {cdDStep : ClassData}
    {fCall ccCall cdaCall : Addr} {odCall anCall cldCall cddCall : Option Addr} {slCall cslCall ccsCall : Array (Option Value)} {ocCall kVCall dcCall pmCall ctCall clCall cclCall : Value} {vsCall : Array Value} {fileCall : Str} {tfCall : Tok} {cdDCall : ClassData}
    {C0 C1 C2 C3 C4 C5 C6 C7 : Addr}
    {nm0 q0 : Str} {N0 : Addr} {bs0 bm0 sub0 : List Value} {sn0 : List Str} {ab0 : Bool} {col0 : Option Bool} {dd0 : Option Addr} {u0 v0 w0 x0 y0 : Option Value}
    {nm1 q1 : Str} {N1 : Addr} {bs1 bm1 sub1 : List Value} {sn1 : List Str} {ab1 : Bool} {col1 : Option Bool} {dd1 : Option Addr} {u1 v1 w1 x1 y1 : Option Value}
    {nm2 q2 : Str} {N2 : Addr} {bs2 bm2 sub2 : List Value} {sn2 : List Str} {ab2 : Bool} {col2 : Option Bool} {dd2 : Option Addr} {u2 v2 w2 x2 y2 : Option Value}
    {nm3 q3 : Str} {N3 : Addr} {bs3 bm3 sub3 : List Value} {sn3 : List Str} {ab3 : Bool} {col3 : Option Bool} {dd3 : Option Addr} {u3 v3 w3 x3 y3 : Option Value}
    {nm4 q4 : Str} {N4 : Addr} {bs4 bm4 sub4 : List Value} {sn4 : List Str} {ab4 : Bool} {col4 : Option Bool} {dd4 : Option Addr} {u4 v4 w4 x4 y4 : Option Value}
    {nm5 q5 : Str} {N5 : Addr} {bs5 bm5 sub5 : List Value} {sn5 : List Str} {ab5 : Bool} {col5 : Option Bool} {dd5 : Option Addr} {u5 v5 w5 x5 y5 : Option Value}
    {nm6 q6 : Str} {N6 : Addr} {bs6 bm6 sub6 : List Value} {sn6 : List Str} {ab6 : Bool} {col6 : Option Bool} {dd6 : Option Addr} {u6 v6 w6 x6 y6 : Option Value}
    {nm7 q7 : Str} {N7 : Addr} {bs7 bm7 sub7 : List Value} {sn7 : List Str} {ab7 : Bool} {col7 : Option Bool} {dd7 : Option Addr} {u7 v7 w7 x7 y7 : Option Value}
    {fh0 cch0 cdah0 : Addr} {odh0 anh0 cldh0 cddh0 : Option Addr} {slh0 cslh0 ccsh0 : Array (Option Value)} {och0 kVh0 dch0 pmh0 cth0 clh0 cclh0 : Value} {vsh0 : Array Value} {fileh0 : Str} {tfh0 : Tok} {cdDh0 : ClassData}
    {fh5 cch5 cdah5 : Addr} {odh5 anh5 cldh5 cddh5 : Option Addr} {slh5 cslh5 ccsh5 : Array (Option Value)} {och5 kVh5 dch5 pmh5 cth5 clh5 cclh5 : Value} {vsh5 : Array Value} {fileh5 : Str} {tfh5 : Tok} {cdDh5 : ClassData}
    {fh4 cch4 cdah4 : Addr} {odh4 anh4 cldh4 cddh4 : Option Addr} {slh4 cslh4 ccsh4 : Array (Option Value)} {och4 kVh4 dch4 pmh4 cth4 clh4 cclh4 : Value} {vsh4 : Array Value} {fileh4 : Str} {tfh4 : Tok} {cdDh4 : ClassData}
    {fh7 cch7 cdah7 : Addr} {odh7 anh7 cldh7 cddh7 : Option Addr} {slh7 cslh7 ccsh7 : Array (Option Value)} {och7 kVh7 dch7 pmh7 cth7 clh7 cclh7 : Value} {vsh7 : Array Value} {fileh7 : Str} {tfh7 : Tok} {cdDh7 : ClassData}
    (aCPaper : PySem.W.nsIn K mainGlobals "Paper" = some (some (.ref CPaper)))
    (aCDenial : PySem.W.nsIn K mainGlobals "Denial" = some (some (.ref CDenial)))
    (aCSo : PySem.W.nsIn K mainGlobals "SoError" = some (some (.ref CSo)))
    (aCPt : PySem.W.nsIn K mainGlobals "PartError" = some (some (.ref CPt)))
    (aK : PySem.W.nsIn K mainGlobals "kept" = some (some (.ref fK)))
    (lK : K.lookup fK = some ⟨ocK, odK, .func (PySem.W.fnOf "kept" "kept" (defArgs sKept) (defBody sKept) (defScope sKept) .none kVK dcK pmK anK cdK ctK), slK⟩)
    (cK : PySem.W.codeIn K cdK "kept" = true)
    (kK : PySem.W.keepIn K (.ref fK) = true)
    (aP : PySem.W.findIn K (.ref CPaper) "__init__" = some (some (.ref fP)))
    (lP : K.lookup fP = some ⟨ocP, odP, .func (PySem.W.fnOf "__init__" "Paper.__init__" (defArgs sPap) (defBody sPap) (defScope sPap) .none kVP dcP pmP anP cdP ctP), slP⟩)
    (cP : PySem.W.codeIn K cdP "Paper.__init__" = true)
    (kP : PySem.W.keepIn K (.ref fP) = true)
    (abP : PySem.W.findIn K (.ref CPaper) "__bool__" = some (some (.ref fbP)))
    (lbP : K.lookup fbP = some ⟨ocbP, odbP, .func (PySem.W.fnOf "__bool__" "Paper.__bool__" (defArgs sBoolP) (defBody sBoolP) (defScope sBoolP) .none kVbP dcbP pmbP anbP cdbP ctbP), slbP⟩)
    (cbP : PySem.W.codeIn K cdbP "Paper.__bool__" = true)
    (kbP : PySem.W.keepIn K (.ref fbP) = true)
    (aEq : PySem.W.findIn K (.ref CPaper) "__eq__" = some (some (.ref fEq)))
    (lEq : K.lookup fEq = some ⟨ocEq, odEq, .func (PySem.W.fnOf "__eq__" "Paper.__eq__" (defArgs sEq) (defBody sEq) (defScope sEq) .none kVEq dcEq pmEq anEq cdEq ctEq), slEq⟩)
    (cEq : PySem.W.codeIn K cdEq "Paper.__eq__" = true)
    (kEq : PySem.W.keepIn K (.ref fEq) = true)
    (abD : PySem.W.findIn K (.ref CDenial) "__bool__" = some (some (.ref fbD)))
    (lbD : K.lookup fbD = some ⟨ocbD, odbD, .func (PySem.W.fnOf "__bool__" "Denial.__bool__" (defArgs sBoolD) (defBody sBoolD) (defScope sBoolD) .none kVbD dcbD pmbD anbD cdbD ctbD), slbD⟩)
    (cbD : PySem.W.codeIn K cdbD "Denial.__bool__" = true)
    (kbD : PySem.W.keepIn K (.ref fbD) = true)
    (aW : PySem.W.nsIn K mainGlobals "_law_well" = some (some (.ref fW)))
    (lW : K.lookup fW = some ⟨ocW, odW, .func (PySem.W.fnOf "_law_well" "_law_well" (defArgs sWell) (defBody sWell) (defScope sWell) .none kVW dcW pmW anW cdW ctW), slW⟩)
    (cW : PySem.W.codeIn K cdW "_law_well" = true)
    (kW : PySem.W.keepIn K (.ref fW) = true)
    (aDr : PySem.W.nsIn K mainGlobals "_law_draw" = some (some (.ref fDr)))
    (lDr : K.lookup fDr = some ⟨ocDr, odDr, .func (PySem.W.fnOf "_law_draw" "_law_draw" (defArgs sDraw) (defBody sDraw) (defScope sDraw) .none kVDr dcDr pmDr anDr cdDr ctDr), slDr⟩)
    (cDr : PySem.W.codeIn K cdDr "_law_draw" = true)
    (kDr : PySem.W.keepIn K (.ref fDr) = true)
    (aO : PySem.W.nsIn K mainGlobals "_law_one" = some (some (.ref fO)))
    (lO : K.lookup fO = some ⟨ocO, odO, .func (PySem.W.fnOf "_law_one" "_law_one" (defArgs sOne) (defBody sOne) (defScope sOne) .none kVO dcO pmO anO cdO ctO), slO⟩)
    (cO : PySem.W.codeIn K cdO "_law_one" = true)
    (kO : PySem.W.keepIn K (.ref fO) = true)
    (aA : PySem.W.nsIn K mainGlobals "_law_as_kept" = some (some (.ref fA)))
    (lA : K.lookup fA = some ⟨ocA, odA, .func (PySem.W.fnOf "_law_as_kept" "_law_as_kept" (defArgs sAk) (defBody sAk) (defScope sAk) .none kVA dcA pmA anA cdA ctA), slA⟩)
    (cA : PySem.W.codeIn K cdA "_law_as_kept" = true)
    (kA : PySem.W.keepIn K (.ref fA) = true)
    (al : PySem.W.nsIn K mainGlobals "_law_flags_of" = some (some (.ref fl)))
    (ll : K.lookup fl = some ⟨ocl, odl, .func (PySem.W.fnOf "_law_flags_of" "_law_flags_of" (defArgs sFl) (defBody sFl) (defScope sFl) .none kVl dcl pml anl cdl ctl), sll⟩)
    (cl : PySem.W.codeIn K cdl "_law_flags_of" = true)
    (kl : PySem.W.keepIn K (.ref fl) = true)
    (aR : PySem.W.nsIn K mainGlobals "_law_papers_right" = some (some (.ref fR)))
    (lR : K.lookup fR = some ⟨ocR, odR, .func (PySem.W.fnOf "_law_papers_right" "_law_papers_right" (defArgs sPR) (defBody sPR) (defScope sPR) .none kVR dcR pmR anR cdR ctR), slR⟩)
    (cR : PySem.W.codeIn K cdR "_law_papers_right" = true)
    (kR : PySem.W.keepIn K (.ref fR) = true)
    (aL : PySem.W.nsIn K mainGlobals "law" = some (some (.ref fL)))
    (lL : K.lookup fL = some ⟨ocL, odL, .func (PySem.W.fnOf "law" "law" (defArgs sLaw) (defBody sLaw) (defScope sLaw) .none kVL dcL pmL anL cdL ctL), slL⟩)
    (cL : PySem.W.codeIn K cdL "law" = true)
    (kL : PySem.W.keepIn K (.ref fL) = true)
    (aStep : PySem.W.nsIn K mainGlobals "Step" = some (some (.ref CStep)))
    (iStep : PySem.W.findIn K (.ref CStep) "__init__" = some (some (.ref fStep)))
    (nStep : PySem.W.isFn K (.ref fStep) = true)
    (lStep : K.lookup fStep = some ⟨ocStep, odStep, .func (PySem.W.fnX "__init__" "Step.__init__" (defArgs sStep) (defBody sStep) (defScope sStep) [("__class__", ccStep)] .none kVStep dcStep pmStep anStep (.ref cdaStep) ctStep), slStep⟩)
    (coStep : PySem.W.codeIn K (.ref cdaStep) "Step.__init__" = true)
    (lkStep : K.lookup cdaStep = some ⟨cclStep, cddStep, .fields vsStep, ccsStep⟩)
    (vStep : vsStep[2]? = some (.str fileStep tfStep))
    (fiStep : ((P.main.file : Str) == fileStep) = true)
    (cc_Step : K.lookup ccStep = some ⟨clStep, cldStep, .cell (some (.ref CStep)), cslStep⟩)
    (dStep : PySem.W.clsIn K CStep = some cdDStep)
    (smStep : PySem.W.mroIn K CStep (.ref CStep) = some true)
    (siStep : PySem.W.ks_superIn K CStep CStep "__init__" = some (some (.ref fP)))
    (aCall : PySem.W.nsIn K mainGlobals "Call" = some (some (.ref CCall)))
    (iCall : PySem.W.findIn K (.ref CCall) "__init__" = some (some (.ref fCall)))
    (nCall : PySem.W.isFn K (.ref fCall) = true)
    (lCall : K.lookup fCall = some ⟨ocCall, odCall, .func (PySem.W.fnX "__init__" "Call.__init__" (defArgs sCall) (defBody sCall) (defScope sCall) [("__class__", ccCall)] .none kVCall dcCall pmCall anCall (.ref cdaCall) ctCall), slCall⟩)
    (coCall : PySem.W.codeIn K (.ref cdaCall) "Call.__init__" = true)
    (lkCall : K.lookup cdaCall = some ⟨cclCall, cddCall, .fields vsCall, ccsCall⟩)
    (vCall : vsCall[2]? = some (.str fileCall tfCall))
    (fiCall : ((P.main.file : Str) == fileCall) = true)
    (cc_Call : K.lookup ccCall = some ⟨clCall, cldCall, .cell (some (.ref CCall)), cslCall⟩)
    (dCall : PySem.W.clsIn K CCall = some cdDCall)
    (smCall : PySem.W.mroIn K CCall (.ref CCall) = some true)
    (siCall : PySem.W.ks_superIn K CCall CCall "__init__" = some (some (.ref fP)))
    (iDenial : PySem.W.findIn K (.ref CDenial) "__init__" = some (some (.ref fP)))
    (mPaper : PySem.W.makesIn K CPaper = true)
    (pPaper : PySem.W.keepIn K (.ref CPaper) = true)
    (BPaper : ClsF K CPaper "Paper" fEq fbP CPaper CDenial false)
    (mDenial : PySem.W.makesIn K CDenial = true)
    (pDenial : PySem.W.keepIn K (.ref CDenial) = true)
    (BDenial : ClsF K CDenial "Denial" fEq fbD CPaper CDenial true)
    (mStep : PySem.W.makesIn K CStep = true)
    (pStep : PySem.W.keepIn K (.ref CStep) = true)
    (BStep : ClsF K CStep "Step" fEq fbP CPaper CDenial false)
    (mCall : PySem.W.makesIn K CCall = true)
    (pCall : PySem.W.keepIn K (.ref CCall) = true)
    (BCall : ClsF K CCall "Call" fEq fbP CPaper CDenial false)
    (nfPaperPaper : PySem.W.notFirst K CPaper (.ref CPaper) = true)
    (nfDenialPaper : PySem.W.notFirst K CDenial (.ref CPaper) = true)
    (nfDenialDenial : PySem.W.notFirst K CDenial (.ref CDenial) = true)
    (nfDenialStep : PySem.W.notFirst K CDenial (.ref CStep) = true)
    (nfDenialCall : PySem.W.notFirst K CDenial (.ref CCall) = true)
    (nfStepPaper : PySem.W.notFirst K CStep (.ref CPaper) = true)
    (nfStepDenial : PySem.W.notFirst K CStep (.ref CDenial) = true)
    (nfStepStep : PySem.W.notFirst K CStep (.ref CStep) = true)
    (nfStepCall : PySem.W.notFirst K CStep (.ref CCall) = true)
    (nfCallPaper : PySem.W.notFirst K CCall (.ref CPaper) = true)
    (nfCallDenial : PySem.W.notFirst K CCall (.ref CDenial) = true)
    (nfCallStep : PySem.W.notFirst K CCall (.ref CStep) = true)
    (nfCallCall : PySem.W.notFirst K CCall (.ref CCall) = true)
    (neqPD : CPaper ≠ CDenial)
    (sbPD : PySem.W.subIn K (.ref CDenial) (.ref CPaper) = some true)
    (nfE : PySem.W.isFn K (.ref fEq) = true)
    (nfP : PySem.W.isFn K (.ref fbP) = true)
    (nfD : PySem.W.isFn K (.ref fbD) = true)
    (nfI : PySem.W.isFn K (.ref fP) = true)
    (ne_ : fbD ≠ fbP)
    (tP : PySem.W.typeIn K (.ref fP) = some (.type "function"))
    (fP_ : PySem.W.fnIn K fP = true)
    (oc : PySem.W.specialIn K (.builtin "object.__class__") "__get__" = some (some (.builtin "getset_descriptor.__get__")))
    (ot : PySem.W.takesIn K (.builtin "object.__class__") = some true)
    (tuP : PySem.W.kitOne K (.type "tuple") (.ref CPaper) = some false)
    (tuD : PySem.W.kitOne K (.type "tuple") (.ref CDenial) = some false)
    (no : PySem.W.nsIn K cStatics "thirdparty.any" = some none)
    (top : (P.main.scope.names.lookup ("super" : Str)).isSome = false)
    (aE0 : PySem.W.nsIn K mainGlobals "BadProgram" = some (some (.ref C0)))
    (xc0 : K.lookup C0 = some (excClassObj nm0 q0 C0 N0 bs0 bm0 true sn0 sub0 ab0 col0 dd0 u0 v0 w0 x0 y0 "ValueError.__new__"))
    (xr0 : PySem.HandSPX.refsVE bm0 = true)
    (X0 : ErrF K C0 CSo CPt true)
    (aE1 : PySem.W.nsIn K mainGlobals "BadPlace" = some (some (.ref C1)))
    (xc1 : K.lookup C1 = some (excClassObj nm1 q1 C1 N1 bs1 bm1 true sn1 sub1 ab1 col1 dd1 u1 v1 w1 x1 y1 "ValueError.__new__"))
    (xr1 : PySem.HandSPX.refsVE bm1 = true)
    (X1 : ErrF K C1 CSo CPt true)
    (aE2 : PySem.W.nsIn K mainGlobals "BadNumber" = some (some (.ref C2)))
    (xc2 : K.lookup C2 = some (excClassObj nm2 q2 C2 N2 bs2 bm2 true sn2 sub2 ab2 col2 dd2 u2 v2 w2 x2 y2 "ValueError.__new__"))
    (xr2 : PySem.HandSPX.refsVE bm2 = true)
    (X2 : ErrF K C2 CSo CPt true)
    (aE3 : PySem.W.nsIn K mainGlobals "BadValue" = some (some (.ref C3)))
    (xc3 : K.lookup C3 = some (excClassObj nm3 q3 C3 N3 bs3 bm3 true sn3 sub3 ab3 col3 dd3 u3 v3 w3 x3 y3 "ValueError.__new__"))
    (xr3 : PySem.HandSPX.refsVE bm3 = true)
    (X3 : ErrF K C3 CSo CPt true)
    (aE4 : PySem.W.nsIn K mainGlobals "BadText" = some (some (.ref C4)))
    (xc4 : K.lookup C4 = some (excClassObj nm4 q4 C4 N4 bs4 bm4 true sn4 sub4 ab4 col4 dd4 u4 v4 w4 x4 y4 "ValueError.__new__"))
    (xr4 : PySem.HandSPX.refsVE bm4 = true)
    (X4 : ErrF K C4 CSo CPt false)
    (aE5 : PySem.W.nsIn K mainGlobals "BadCommand" = some (some (.ref C5)))
    (xc5 : K.lookup C5 = some (excClassObj nm5 q5 C5 N5 bs5 bm5 true sn5 sub5 ab5 col5 dd5 u5 v5 w5 x5 y5 "ValueError.__new__"))
    (xr5 : PySem.HandSPX.refsVE bm5 = true)
    (X5 : ErrF K C5 CSo CPt false)
    (aE6 : PySem.W.nsIn K mainGlobals "Nothing" = some (some (.ref C6)))
    (xc6 : K.lookup C6 = some (excClassObj nm6 q6 C6 N6 bs6 bm6 true sn6 sub6 ab6 col6 dd6 u6 v6 w6 x6 y6 "ValueError.__new__"))
    (xr6 : PySem.HandSPX.refsVE bm6 = true)
    (X6 : ErrF K C6 CSo CPt false)
    (aE7 : PySem.W.nsIn K mainGlobals "TooMany" = some (some (.ref C7)))
    (xc7 : K.lookup C7 = some (excClassObj nm7 q7 C7 N7 bs7 bm7 true sn7 sub7 ab7 col7 dd7 u7 v7 w7 x7 y7 "ValueError.__new__"))
    (xr7 : PySem.HandSPX.refsVE bm7 = true)
    (X7 : ErrF K C7 CSo CPt false)
    (k0_0 : PySem.W.kitOne K (.ref C0) (.ref C0) = some true)
    (k0_1 : PySem.W.kitOne K (.ref C0) (.ref C1) = some false)
    (k0_2 : PySem.W.kitOne K (.ref C0) (.ref C2) = some false)
    (k0_3 : PySem.W.kitOne K (.ref C0) (.ref C3) = some false)
    (k0_4 : PySem.W.kitOne K (.ref C0) (.ref C4) = some false)
    (k0_5 : PySem.W.kitOne K (.ref C0) (.ref C5) = some false)
    (k0_6 : PySem.W.kitOne K (.ref C0) (.ref C6) = some false)
    (k0_7 : PySem.W.kitOne K (.ref C0) (.ref C7) = some false)
    (k1_0 : PySem.W.kitOne K (.ref C1) (.ref C0) = some false)
    (k1_1 : PySem.W.kitOne K (.ref C1) (.ref C1) = some true)
    (k1_2 : PySem.W.kitOne K (.ref C1) (.ref C2) = some false)
    (k1_3 : PySem.W.kitOne K (.ref C1) (.ref C3) = some false)
    (k1_4 : PySem.W.kitOne K (.ref C1) (.ref C4) = some false)
    (k1_5 : PySem.W.kitOne K (.ref C1) (.ref C5) = some false)
    (k1_6 : PySem.W.kitOne K (.ref C1) (.ref C6) = some false)
    (k1_7 : PySem.W.kitOne K (.ref C1) (.ref C7) = some false)
    (k2_0 : PySem.W.kitOne K (.ref C2) (.ref C0) = some false)
    (k2_1 : PySem.W.kitOne K (.ref C2) (.ref C1) = some false)
    (k2_2 : PySem.W.kitOne K (.ref C2) (.ref C2) = some true)
    (k2_3 : PySem.W.kitOne K (.ref C2) (.ref C3) = some false)
    (k2_4 : PySem.W.kitOne K (.ref C2) (.ref C4) = some false)
    (k2_5 : PySem.W.kitOne K (.ref C2) (.ref C5) = some false)
    (k2_6 : PySem.W.kitOne K (.ref C2) (.ref C6) = some false)
    (k2_7 : PySem.W.kitOne K (.ref C2) (.ref C7) = some false)
    (k3_0 : PySem.W.kitOne K (.ref C3) (.ref C0) = some false)
    (k3_1 : PySem.W.kitOne K (.ref C3) (.ref C1) = some false)
    (k3_2 : PySem.W.kitOne K (.ref C3) (.ref C2) = some false)
    (k3_3 : PySem.W.kitOne K (.ref C3) (.ref C3) = some true)
    (k3_4 : PySem.W.kitOne K (.ref C3) (.ref C4) = some false)
    (k3_5 : PySem.W.kitOne K (.ref C3) (.ref C5) = some false)
    (k3_6 : PySem.W.kitOne K (.ref C3) (.ref C6) = some false)
    (k3_7 : PySem.W.kitOne K (.ref C3) (.ref C7) = some false)
    (k4_0 : PySem.W.kitOne K (.ref C4) (.ref C0) = some false)
    (k4_1 : PySem.W.kitOne K (.ref C4) (.ref C1) = some false)
    (k4_2 : PySem.W.kitOne K (.ref C4) (.ref C2) = some false)
    (k4_3 : PySem.W.kitOne K (.ref C4) (.ref C3) = some false)
    (k4_4 : PySem.W.kitOne K (.ref C4) (.ref C4) = some true)
    (k4_5 : PySem.W.kitOne K (.ref C4) (.ref C5) = some false)
    (k4_6 : PySem.W.kitOne K (.ref C4) (.ref C6) = some false)
    (k4_7 : PySem.W.kitOne K (.ref C4) (.ref C7) = some false)
    (k5_0 : PySem.W.kitOne K (.ref C5) (.ref C0) = some false)
    (k5_1 : PySem.W.kitOne K (.ref C5) (.ref C1) = some false)
    (k5_2 : PySem.W.kitOne K (.ref C5) (.ref C2) = some false)
    (k5_3 : PySem.W.kitOne K (.ref C5) (.ref C3) = some false)
    (k5_4 : PySem.W.kitOne K (.ref C5) (.ref C4) = some false)
    (k5_5 : PySem.W.kitOne K (.ref C5) (.ref C5) = some true)
    (k5_6 : PySem.W.kitOne K (.ref C5) (.ref C6) = some false)
    (k5_7 : PySem.W.kitOne K (.ref C5) (.ref C7) = some false)
    (k6_0 : PySem.W.kitOne K (.ref C6) (.ref C0) = some false)
    (k6_1 : PySem.W.kitOne K (.ref C6) (.ref C1) = some false)
    (k6_2 : PySem.W.kitOne K (.ref C6) (.ref C2) = some false)
    (k6_3 : PySem.W.kitOne K (.ref C6) (.ref C3) = some false)
    (k6_4 : PySem.W.kitOne K (.ref C6) (.ref C4) = some false)
    (k6_5 : PySem.W.kitOne K (.ref C6) (.ref C5) = some false)
    (k6_6 : PySem.W.kitOne K (.ref C6) (.ref C6) = some true)
    (k6_7 : PySem.W.kitOne K (.ref C6) (.ref C7) = some false)
    (k7_0 : PySem.W.kitOne K (.ref C7) (.ref C0) = some false)
    (k7_1 : PySem.W.kitOne K (.ref C7) (.ref C1) = some false)
    (k7_2 : PySem.W.kitOne K (.ref C7) (.ref C2) = some false)
    (k7_3 : PySem.W.kitOne K (.ref C7) (.ref C3) = some false)
    (k7_4 : PySem.W.kitOne K (.ref C7) (.ref C4) = some false)
    (k7_5 : PySem.W.kitOne K (.ref C7) (.ref C5) = some false)
    (k7_6 : PySem.W.kitOne K (.ref C7) (.ref C6) = some false)
    (k7_7 : PySem.W.kitOne K (.ref C7) (.ref C7) = some true)
    (ih0 : PySem.W.findIn K (.ref CPt) "__init__" = some (some (.ref fh0)))
    (nh0 : PySem.W.isFn K (.ref fh0) = true)
    (lh0 : K.lookup fh0 = some ⟨och0, odh0, .func (PySem.W.fnX "__init__" "PartError.__init__" (defArgs sPartI) (defBody sPartI) (defScope sPartI) [("__class__", cch0)] .none kVh0 dch0 pmh0 anh0 (.ref cdah0) cth0), slh0⟩)
    (coh0 : PySem.W.codeIn K (.ref cdah0) "PartError.__init__" = true)
    (lkh0 : K.lookup cdah0 = some ⟨cclh0, cddh0, .fields vsh0, ccsh0⟩)
    (vh0 : vsh0[2]? = some (.str fileh0 tfh0))
    (fih0 : ((P.main.file : Str) == fileh0) = true)
    (cc_h0 : K.lookup cch0 = some ⟨clh0, cldh0, .cell (some (.ref CPt)), cslh0⟩)
    (dh0 : PySem.W.clsIn K CPt = some cdDh0)
    (th0 : PySem.W.typeIn K (.ref fh0) = some (.type "function"))
    (ih5 : PySem.W.findIn K (.ref C5) "__init__" = some (some (.ref fh5)))
    (nh5 : PySem.W.isFn K (.ref fh5) = true)
    (lh5 : K.lookup fh5 = some ⟨och5, odh5, .func (PySem.W.fnX "__init__" "BadCommand.__init__" (defArgs sCommI) (defBody sCommI) (defScope sCommI) [("__class__", cch5)] .none kVh5 dch5 pmh5 anh5 (.ref cdah5) cth5), slh5⟩)
    (coh5 : PySem.W.codeIn K (.ref cdah5) "BadCommand.__init__" = true)
    (lkh5 : K.lookup cdah5 = some ⟨cclh5, cddh5, .fields vsh5, ccsh5⟩)
    (vh5 : vsh5[2]? = some (.str fileh5 tfh5))
    (fih5 : ((P.main.file : Str) == fileh5) = true)
    (cc_h5 : K.lookup cch5 = some ⟨clh5, cldh5, .cell (some (.ref C5)), cslh5⟩)
    (dh5 : PySem.W.clsIn K C5 = some cdDh5)
    (th5 : PySem.W.typeIn K (.ref fh5) = some (.type "function"))
    (ih4 : PySem.W.findIn K (.ref C4) "__init__" = some (some (.ref fh4)))
    (nh4 : PySem.W.isFn K (.ref fh4) = true)
    (lh4 : K.lookup fh4 = some ⟨och4, odh4, .func (PySem.W.fnX "__init__" "BadText.__init__" (defArgs sTextI) (defBody sTextI) (defScope sTextI) [("__class__", cch4)] .none kVh4 dch4 pmh4 anh4 (.ref cdah4) cth4), slh4⟩)
    (coh4 : PySem.W.codeIn K (.ref cdah4) "BadText.__init__" = true)
    (lkh4 : K.lookup cdah4 = some ⟨cclh4, cddh4, .fields vsh4, ccsh4⟩)
    (vh4 : vsh4[2]? = some (.str fileh4 tfh4))
    (fih4 : ((P.main.file : Str) == fileh4) = true)
    (cc_h4 : K.lookup cch4 = some ⟨clh4, cldh4, .cell (some (.ref C4)), cslh4⟩)
    (dh4 : PySem.W.clsIn K C4 = some cdDh4)
    (th4 : PySem.W.typeIn K (.ref fh4) = some (.type "function"))
    (ih7 : PySem.W.findIn K (.ref C7) "__init__" = some (some (.ref fh7)))
    (nh7 : PySem.W.isFn K (.ref fh7) = true)
    (lh7 : K.lookup fh7 = some ⟨och7, odh7, .func (PySem.W.fnX "__init__" "TooMany.__init__" (defArgs sManyI) (defBody sManyI) (defScope sManyI) [("__class__", cch7)] .none kVh7 dch7 pmh7 anh7 (.ref cdah7) cth7), slh7⟩)
    (coh7 : PySem.W.codeIn K (.ref cdah7) "TooMany.__init__" = true)
    (lkh7 : K.lookup cdah7 = some ⟨cclh7, cddh7, .fields vsh7, ccsh7⟩)
    (vh7 : vsh7[2]? = some (.str fileh7 tfh7))
    (fih7 : ((P.main.file : Str) == fileh7) = true)
    (cc_h7 : K.lookup cch7 = some ⟨clh7, cldh7, .cell (some (.ref C7)), cslh7⟩)
    (dh7 : PySem.W.clsIn K C7 = some cdDh7)
    (th7 : PySem.W.typeIn K (.ref fh7) = some (.type "function"))
    (in0 : PySem.W.findIn K (.ref C0) "__init__" = some (some (.ref fh0)))
    (in1 : PySem.W.findIn K (.ref C1) "__init__" = some (some (.ref fh0)))
    (in2 : PySem.W.findIn K (.ref C2) "__init__" = some (some (.ref fh0)))
    (in3 : PySem.W.findIn K (.ref C3) "__init__" = some (some (.ref fh0)))
    (mr0 : PySem.W.mroIn K C0 (.ref CPt) = some true)
    (su0 : PySem.W.ks_superIn K C0 CPt "__init__" = some (some (.builtin "ValueError.__init__")))
    (mr1 : PySem.W.mroIn K C1 (.ref CPt) = some true)
    (su1 : PySem.W.ks_superIn K C1 CPt "__init__" = some (some (.builtin "ValueError.__init__")))
    (mr2 : PySem.W.mroIn K C2 (.ref CPt) = some true)
    (su2 : PySem.W.ks_superIn K C2 CPt "__init__" = some (some (.builtin "ValueError.__init__")))
    (mr3 : PySem.W.mroIn K C3 (.ref CPt) = some true)
    (su3 : PySem.W.ks_superIn K C3 CPt "__init__" = some (some (.builtin "ValueError.__init__")))
    (mr4 : PySem.W.mroIn K C4 (.ref C4) = some true)
    (su4 : PySem.W.ks_superIn K C4 C4 "__init__" = some (some (.builtin "ValueError.__init__")))
    (mr5 : PySem.W.mroIn K C5 (.ref C5) = some true)
    (su5 : PySem.W.ks_superIn K C5 C5 "__init__" = some (some (.builtin "ValueError.__init__")))
    (mr7 : PySem.W.mroIn K C7 (.ref C7) = some true)
    (su7 : PySem.W.ks_superIn K C7 C7 "__init__" = some (some (.builtin "ValueError.__init__")))
    (q6_ : PySem.W.excIn K C6 [.type "ValueError", .type "Exception", .type "BaseException", .type "object"] "ValueError.__new__" = true)
    (z_int : PySem.W.nsIn K mainGlobals "int" = some none)
    (z_abs : PySem.W.nsIn K mainGlobals "abs" = some none)
    (z_len : PySem.W.nsIn K mainGlobals "len" = some none)
    (z_isinstance : PySem.W.nsIn K mainGlobals "isinstance" = some none)
    (z_list : PySem.W.nsIn K mainGlobals "list" = some none)
    (z_tuple : PySem.W.nsIn K mainGlobals "tuple" = some none)
    (z_type : PySem.W.nsIn K mainGlobals "type" = some none)
    (z_bool : PySem.W.nsIn K mainGlobals "bool" = some none)
    (z_range : PySem.W.nsIn K mainGlobals "range" = some none)
    (z_enumerate : PySem.W.nsIn K mainGlobals "enumerate" = some none)
    (z_super : PySem.W.nsIn K mainGlobals "super" = some none)
    (z_repr : PySem.W.nsIn K mainGlobals "repr" = some none)
    (z_ValueError : PySem.W.nsIn K mainGlobals "ValueError" = some none) :
    ∃ fd : FuncData, (∀ (s : Shared) (v : Value), BindsTo s fd ⟨[v], []⟩ [("script", v)]) ∧ ∀ base : Heap, K.In base → base.Ns mainGlobals mg → FnG P w K mg base CX0 20 fa fd ["script"] (spLaw K) := by
  have e := hfa.symm.trans (PySem.W.mg_of X G aL)
  cases e
  have FK := fun_mk (st := sKept) lK cK kK
  have FP := fun_mk (st := sPap) lP cP kP
  have FbP := fun_mk (st := sBoolP) lbP cbP kbP
  have FEq := fun_mk (st := sEq) lEq cEq kEq
  have FbD := fun_mk (st := sBoolD) lbD cbD kbD
  have FW := fun_mk (st := sWell) lW cW kW
  have FDr := fun_mk (st := sDraw) lDr cDr kDr
  have FO := fun_mk (st := sOne) lO cO kO
  have FA := fun_mk (st := sAk) lA cA kA
  have Fl := fun_mk (st := sFl) ll cl kl
  have FR := fun_mk (st := sPR) lR cR kR
  have FL := fun_mk (st := sLaw) lL cL kL
  have bK := FK.binds (ps := ["value"]) fun _ _ _ _ _ _ us hl => match us, hl with | [_], _ => rfl
  have bbP := FbP.binds (ps := ["self"]) fun _ _ _ _ _ _ us hl => match us, hl with | [_], _ => rfl
  have bEq := FEq.binds (ps := ["self", "other"]) fun _ _ _ _ _ _ us hl => match us, hl with | [_, _], _ => rfl
  have bbD := FbD.binds (ps := ["self"]) fun _ _ _ _ _ _ us hl => match us, hl with | [_], _ => rfl
  have bW := FW.binds (ps := ["script"]) fun _ _ _ _ _ _ us hl => match us, hl with | [_], _ => rfl
  have bDr := FDr.binds (ps := ["well", "many"]) fun _ _ _ _ _ _ us hl => match us, hl with | [_, _], _ => rfl
  have bO := FO.binds (ps := ["well", "some"]) fun _ _ _ _ _ _ us hl => match us, hl with | [_, _], _ => rfl
  have bA := FA.binds (ps := ["value"]) fun _ _ _ _ _ _ us hl => match us, hl with | [_], _ => rfl
  have bl := Fl.binds (ps := ["error"]) fun _ _ _ _ _ _ us hl => match us, hl with | [_], _ => rfl
  have bR := FR.binds (ps := ["a", "b"]) fun _ _ _ _ _ _ us hl => match us, hl with | [_, _], _ => rfl
  refine ⟨PySem.W.fnOf "law" "law" (defArgs sLaw) (defBody sLaw) (defScope sLaw) .none kVL dcL pmL anL cdL ctL, fun s v => .of_eq rfl, fun base _ _ => ?_⟩
  have m_int := PySem.W.mg_none_of X G z_int
  have m_abs := PySem.W.mg_none_of X G z_abs
  have m_len := PySem.W.mg_none_of X G z_len
  have m_isinstance := PySem.W.mg_none_of X G z_isinstance
  have m_list := PySem.W.mg_none_of X G z_list
  have m_tuple := PySem.W.mg_none_of X G z_tuple
  have m_type := PySem.W.mg_none_of X G z_type
  have m_bool := PySem.W.mg_none_of X G z_bool
  have m_range := PySem.W.mg_none_of X G z_range
  have m_enumerate := PySem.W.mg_none_of X G z_enumerate
  have m_super := PySem.W.mg_none_of X G z_super
  have m_repr := PySem.W.mg_none_of X G z_repr
  have m_ValueError := PySem.W.mg_none_of X G z_ValueError
  let cls : Str → Option Addr := fun c => List.lookup c ([("Paper", CPaper), ("Denial", CDenial), ("Step", CStep), ("Call", CCall)] : List (Str × Addr))
  have all : ∀ (p : Str → Addr → Prop), p "Paper" CPaper → p "Denial" CDenial → p "Step" CStep → p "Call" CCall → ∀ c C, cls c = some C → p c C := fun p h0 h1 h2 h3 c C h => cls_all h0 h1 h2 h3 h
  have T : AttrT K cls ["word", "parts", "kind", "start", "goal", "act", "point", "part", "kept", "behind"] := ⟨fun c C h => all (fun c C => Cls K C) (BPaper.cl) (BDenial.cl) (BStep.cl) (BCall.cl) c C h, fun f hf => fun c C h => all (fun c C => NoAttr K C f) (BPaper.no f hf) (BDenial.no f hf) (BStep.no f hf) (BCall.no f hf) c C h⟩
  have T2 : ∀ fs : List Str, (∀ f ∈ fs, f ∈ ([("word" : Str), "parts", "kind", "start", "goal", "act", "point", "part", "kept", "behind"] : List Str)) → AttrT K cls fs := fun fs h => ⟨T.cl, fun f hf => T.no f (h f hf)⟩
  have I : InsT K cls := ⟨T.cl, fun c C h => all (fun c C => PySem.W.findIn K (.ref C) "__class__" = some (some (.builtin "object.__class__"))) (BPaper.ha) (BDenial.ha) (BStep.ha) (BCall.ha) c C h, oc, ot, fun c C h => all (fun c C => PySem.W.mroIn K C (.type "object") = some true) (BPaper.hm) (BDenial.hm) (BStep.hm) (BCall.hm) c C h⟩
  have ET : EqU K cls fEq okp subp := ⟨I, fun c C h => all (fun c C => PySem.W.findIn K (.ref C) "__eq__" = some (some (.ref fEq))) (BPaper.eq) (BDenial.eq) (BStep.eq) (BCall.eq) c C h, fun c C h => all (fun c C => PySem.W.findIn K (.ref C) "__ne__" = some (some (.builtin "object.__ne__"))) (BPaper.ne) (BDenial.ne) (BStep.ne) (BCall.ne) c C h,
    fun c C c2 C2 h h2 => all (fun c C => ∀ c2 C2, cls c2 = some C2 → okp c c2 = true → PySem.W.notFirst K C (.ref C2) = true) (fun c2 C2 h2 => all (fun c2 C2 => okp "Paper" c2 = true → PySem.W.notFirst K CPaper (.ref C2) = true) (fun ho => nfPaperPaper) (fun ho => absurd ho (by decide +kernel)) (fun ho => absurd ho (by decide +kernel)) (fun ho => absurd ho (by decide +kernel)) c2 C2 h2) (fun c2 C2 h2 => all (fun c2 C2 => okp "Denial" c2 = true → PySem.W.notFirst K CDenial (.ref C2) = true) (fun ho => nfDenialPaper) (fun ho => nfDenialDenial) (fun ho => nfDenialStep) (fun ho => nfDenialCall) c2 C2 h2) (fun c2 C2 h2 => all (fun c2 C2 => okp "Step" c2 = true → PySem.W.notFirst K CStep (.ref C2) = true) (fun ho => nfStepPaper) (fun ho => nfStepDenial) (fun ho => nfStepStep) (fun ho => nfStepCall) c2 C2 h2) (fun c2 C2 h2 => all (fun c2 C2 => okp "Call" c2 = true → PySem.W.notFirst K CCall (.ref C2) = true) (fun ho => nfCallPaper) (fun ho => nfCallDenial) (fun ho => nfCallStep) (fun ho => nfCallCall) c2 C2 h2) c C h c2 C2 h2, fun c C h => all (fun c C => PySem.W.notFirst K C (.type "tuple") = true) (BPaper.nt) (BDenial.nt) (BStep.nt) (BCall.nt) c C h,
    fun c C c2 C2 h h2 => all (fun c C => ∀ c2 C2, cls c2 = some C2 → subp c c2 = true → C ≠ C2 ∧ PySem.W.subIn K (.ref C2) (.ref C) = some true) (fun c2 C2 h2 => all (fun c2 C2 => subp "Paper" c2 = true → CPaper ≠ C2 ∧ PySem.W.subIn K (.ref C2) (.ref CPaper) = some true) (fun ho => absurd ho (by decide +kernel)) (fun _ => ⟨neqPD, sbPD⟩) (fun ho => absurd ho (by decide +kernel)) (fun ho => absurd ho (by decide +kernel)) c2 C2 h2) (fun c2 C2 h2 => all (fun c2 C2 => subp "Denial" c2 = true → CDenial ≠ C2 ∧ PySem.W.subIn K (.ref C2) (.ref CDenial) = some true) (fun ho => absurd ho (by decide +kernel)) (fun ho => absurd ho (by decide +kernel)) (fun ho => absurd ho (by decide +kernel)) (fun ho => absurd ho (by decide +kernel)) c2 C2 h2) (fun c2 C2 h2 => all (fun c2 C2 => subp "Step" c2 = true → CStep ≠ C2 ∧ PySem.W.subIn K (.ref C2) (.ref CStep) = some true) (fun ho => absurd ho (by decide +kernel)) (fun ho => absurd ho (by decide +kernel)) (fun ho => absurd ho (by decide +kernel)) (fun ho => absurd ho (by decide +kernel)) c2 C2 h2) (fun c2 C2 h2 => all (fun c2 C2 => subp "Call" c2 = true → CCall ≠ C2 ∧ PySem.W.subIn K (.ref C2) (.ref CCall) = some true) (fun ho => absurd ho (by decide +kernel)) (fun ho => absurd ho (by decide +kernel)) (fun ho => absurd ho (by decide +kernel)) (fun ho => absurd ho (by decide +kernel)) c2 C2 h2) c C h c2 C2 h2⟩
  have hn : ∀ c C nm, cls c = some C → nmOf c = some nm → CName K C nm := fun c C nm h hnm => by
    have e : c = nm := nmOf_eq hnm
    subst e
    exact (all (fun c C => CName K C c) (CName.mk BPaper.at_ BPaper.fo no) (CName.mk BDenial.at_ BDenial.fo no) (CName.mk BStep.at_ BStep.fo no) (CName.mk BCall.at_ BCall.fo no) c C h)
  have GK : FnOk P w K mg base CX0 8 fK _ ["value"] (spD K cls (gK 8)) := ok_kept FK bK (PySem.W.mg_of X G aK) m_isinstance m_list m_tuple 8
  have GA : FnOk P w K mg base CX0 8 fA _ ["value"] (spD K cls (gK 8)) := ok_ak FA bA (PySem.W.mg_of X G aA) m_isinstance m_list m_tuple 8
  have FPr : FnR P w K mg base CX0 9 fP (spStar K cls (gPap nmOf 8)) := ok_pap FP GK FK bK (PySem.W.mg_of X G aK) m_type hn (T2 _ (by decide +kernel))
  have SStep : SupD P K mg "Step.__init__" sStep fStep CStep (PySem.W.fnX "__init__" "Step.__init__" (defArgs sStep) (defBody sStep) (defScope sStep) [("__class__", ccStep)] .none kVStep dcStep pmStep anStep (.ref cdaStep) ctStep) :=
    ⟨⟨_, _, _, _, _, _, _, _, _, _, _, _, _, _, _, _, _, _, _, _, rfl, lStep, coStep, lkStep, vStep, fiStep, cc_Step, dStep⟩, m_super, top, no⟩
  have UStep : SupC K cls "Step" CStep fP := ⟨tP, fP_, fun C h => by
    have e : some CStep = some C := (show cls "Step" = some CStep from by rfl).symm.trans h
    cases e
    exact ⟨smStep, siStep⟩⟩
  have GStep := ok_Step (w := w) (base := base) (nmOf := nmOf) (n := 8) SStep UStep (T2 _ (by decide +kernel)) FPr
  have SCall : SupD P K mg "Call.__init__" sCall fCall CCall (PySem.W.fnX "__init__" "Call.__init__" (defArgs sCall) (defBody sCall) (defScope sCall) [("__class__", ccCall)] .none kVCall dcCall pmCall anCall (.ref cdaCall) ctCall) :=
    ⟨⟨_, _, _, _, _, _, _, _, _, _, _, _, _, _, _, _, _, _, _, _, rfl, lCall, coCall, lkCall, vCall, fiCall, cc_Call, dCall⟩, m_super, top, no⟩
  have UCall : SupC K cls "Call" CCall fP := ⟨tP, fP_, fun C h => by
    have e : some CCall = some C := (show cls "Call" = some CCall from by rfl).symm.trans h
    cases e
    exact ⟨smCall, siCall⟩⟩
  have GCall := ok_Call (w := w) (base := base) (nmOf := nmOf) (n := 8) SCall UCall (T2 _ (by decide +kernel)) FPr
  have kP : ∀ {pw}, KOk ⟨K, cls, pw⟩ (isSubD isP) (.ref CPaper) := fun {pw} => kok_own (W := ⟨K, cls, pw⟩) I (fun c C b h hb => by
      have e : b = true := isP_eq hb
      subst e
      exact all (fun c C => PySem.W.kitOne K (.ref C) (.ref CPaper) = some true) BPaper.kP BDenial.kP BStep.kP BCall.kP c C h) (fun c b hb => isP_cls hb) tuP
  have PB : PapB P w K mg base cls := {
    fA := fA
    fdA := _
    FA := FA
    GA := GA
    gA := PySem.W.mg_of X G aA
    bA := bA
    CStep := CStep
    fStep := fStep
    fdStep := _
    MStep := ⟨mStep, iStep, nStep, pStep⟩
    GStep := GStep
    gStep := PySem.W.mg_of X G aStep
    bStep := Binds.all fun us hl => match us, hl with | [_, _, _, _, _], _ => rfl
    kStep := ⟨fun s us ws _ l1 l2 => match us, ws, l1, l2 with | [_], [_, _, _, _], _, _ => .of_eq rfl, fun r1 r2 => r1.append r2.reverse⟩
    cStep := rfl
    CCall := CCall
    fCall := fCall
    fdCall := _
    MCall := ⟨mCall, iCall, nCall, pCall⟩
    GCall := GCall
    gCall := PySem.W.mg_of X G aCall
    bCall := Binds.all fun us hl => match us, hl with | [_, _, _, _, _], _ => rfl
    kCall := ⟨fun s us ws _ l1 l2 => match us, ws, l1, l2 with | [_], [_, _, _, _], _, _ => .of_eq rfl, fun r1 r2 => r1.append r2.reverse⟩
    cCall := rfl
    fP := fP
    FP := FPr
    CPaper := CPaper
    CDenial := CDenial
    MPaper := ⟨mPaper, aP, nfI, pPaper⟩
    MDenial := ⟨mDenial, iDenial, nfI, pDenial⟩
    gPaper := PySem.W.mg_of X G aCPaper
    gDenial := PySem.W.mg_of X G aCDenial
    cPaper := rfl
    cDenial := rfl
    kP := kP
    kD := fun {pw} => kok_own (W := ⟨K, cls, pw⟩) I (fun c C b h hb => all (fun c C => ∀ b, isD c = some b → PySem.W.kitOne K (.ref C) (.ref CDenial) = some b) (fun b hb => by rw [isDPaper] at hb; cases hb; exact BPaper.kD) (fun b hb => by rw [isDDenial] at hb; cases hb; exact BDenial.kD) (fun b hb => by rw [isDStep] at hb; cases hb; exact BStep.kD) (fun b hb => by rw [isDCall] at hb; cases hb; exact BCall.kD) c C h b hb) (fun c b hb => isD_cls hb) tuD
    T := T
    fe := fEq
    ef := nfE
    Fe := ((ok_eq (k := 0) FEq m_isinstance (PySem.W.mg_of X G aCPaper) kP (T2 _ (by decide +kernel))).raw bEq .nil).imp fun vs H Q E h => by rw [List.append_nil]; exact h
    ET := ET
    Gb := fun g => g = fbP ∨ g = fbD
    bv := fun g => decide (g = fbP)
    bf := fun g h => h.elim (fun e => by rw [e]; exact nfP) (fun e => by rw [e]; exact nfD)
    Fb := fun g h => h.elim (fun e => by
      subst e
      rw [decide_eq_true rfl]
      exact ((ok_boolP (k := 0) FbP).raw bbP .nil).imp fun vs H Q E h => by rw [List.append_nil]; exact h) (fun e => by
      subst e
      rw [decide_eq_false ne_]
      exact ((ok_boolD (k := 0) FbD).raw bbD .nil).imp fun vs H Q E h => by rw [List.append_nil]; exact h)
    hb := fun c C b h hb => all (fun c C => ∀ b, bOf c = some b → ∃ g, PySem.W.findIn K (.ref C) "__bool__" = some (some (.ref g)) ∧ (g = fbP ∨ g = fbD) ∧ decide (g = fbP) = b)
      (fun b hb => by unfold bOf at hb; rw [isDPaper] at hb; cases hb; exact ⟨_, BPaper.bo, .inl rfl, decide_eq_true rfl⟩) (fun b hb => by unfold bOf at hb; rw [isDDenial] at hb; cases hb; exact ⟨_, BDenial.bo, .inr rfl, decide_eq_false ne_⟩) (fun b hb => by unfold bOf at hb; rw [isDStep] at hb; cases hb; exact ⟨_, BStep.bo, .inl rfl, decide_eq_true rfl⟩) (fun b hb => by unfold bOf at hb; rw [isDCall] at hb; cases hb; exact ⟨_, BCall.bo, .inl rfl, decide_eq_true rfl⟩) c C h b hb
    m_isinstance := m_isinstance
    m_bool := m_bool
    m_repr := m_repr
    }
  let Cs : Nat → Addr := fun i => match i with | 0 => C0 | 1 => C1 | 2 => C2 | 3 => C3 | 4 => C4 | 5 => C5 | 6 => C6 | _ => C7
  have x0_ : XkC K C0 := ⟨⟨⟨_, _, _, _, _, _, _, _, _, _, _, _, _, _, _, xc0, xr0⟩, X0.sa, X0.exC, X0.tyC, X0.kC⟩, X0.ga, X0.gg, X0.hd, X0.ve, X0.ob, X0.cl⟩
  have x1_ : XkC K C1 := ⟨⟨⟨_, _, _, _, _, _, _, _, _, _, _, _, _, _, _, xc1, xr1⟩, X1.sa, X1.exC, X1.tyC, X1.kC⟩, X1.ga, X1.gg, X1.hd, X1.ve, X1.ob, X1.cl⟩
  have x2_ : XkC K C2 := ⟨⟨⟨_, _, _, _, _, _, _, _, _, _, _, _, _, _, _, xc2, xr2⟩, X2.sa, X2.exC, X2.tyC, X2.kC⟩, X2.ga, X2.gg, X2.hd, X2.ve, X2.ob, X2.cl⟩
  have x3_ : XkC K C3 := ⟨⟨⟨_, _, _, _, _, _, _, _, _, _, _, _, _, _, _, xc3, xr3⟩, X3.sa, X3.exC, X3.tyC, X3.kC⟩, X3.ga, X3.gg, X3.hd, X3.ve, X3.ob, X3.cl⟩
  have x4_ : XkC K C4 := ⟨⟨⟨_, _, _, _, _, _, _, _, _, _, _, _, _, _, _, xc4, xr4⟩, X4.sa, X4.exC, X4.tyC, X4.kC⟩, X4.ga, X4.gg, X4.hd, X4.ve, X4.ob, X4.cl⟩
  have x5_ : XkC K C5 := ⟨⟨⟨_, _, _, _, _, _, _, _, _, _, _, _, _, _, _, xc5, xr5⟩, X5.sa, X5.exC, X5.tyC, X5.kC⟩, X5.ga, X5.gg, X5.hd, X5.ve, X5.ob, X5.cl⟩
  have x6_ : XkC K C6 := ⟨⟨⟨_, _, _, _, _, _, _, _, _, _, _, _, _, _, _, xc6, xr6⟩, X6.sa, X6.exC, X6.tyC, X6.kC⟩, X6.ga, X6.gg, X6.hd, X6.ve, X6.ob, X6.cl⟩
  have x7_ : XkC K C7 := ⟨⟨⟨_, _, _, _, _, _, _, _, _, _, _, _, _, _, _, xc7, xr7⟩, X7.sa, X7.exC, X7.tyC, X7.kC⟩, X7.ga, X7.gg, X7.hd, X7.ve, X7.ob, X7.cl⟩
  have ET8 : ErrT K mg Cs CSo CPt := ⟨PySem.W.mg_of X G aE0, PySem.W.mg_of X G aE1, PySem.W.mg_of X G aE2, PySem.W.mg_of X G aE3, PySem.W.mg_of X G aE4, PySem.W.mg_of X G aE5, PySem.W.mg_of X G aE6, PySem.W.mg_of X G aE7, PySem.W.mg_of X G aCSo, PySem.W.mg_of X G aCPt,
    fun i hi => match i, hi with | 0, _ => x0_ | 1, _ => x1_ | 2, _ => x2_ | 3, _ => x3_ | 4, _ => x4_ | 5, _ => x5_ | 6, _ => x6_ | 7, _ => x7_,
    fun i j hi hj => match i, j, hi, hj with | 0, 0, _, _ => k0_0 | 0, 1, _, _ => k0_1 | 0, 2, _, _ => k0_2 | 0, 3, _, _ => k0_3 | 0, 4, _, _ => k0_4 | 0, 5, _, _ => k0_5 | 0, 6, _, _ => k0_6 | 0, 7, _, _ => k0_7 | 1, 0, _, _ => k1_0 | 1, 1, _, _ => k1_1 | 1, 2, _, _ => k1_2 | 1, 3, _, _ => k1_3 | 1, 4, _, _ => k1_4 | 1, 5, _, _ => k1_5 | 1, 6, _, _ => k1_6 | 1, 7, _, _ => k1_7 | 2, 0, _, _ => k2_0 | 2, 1, _, _ => k2_1 | 2, 2, _, _ => k2_2 | 2, 3, _, _ => k2_3 | 2, 4, _, _ => k2_4 | 2, 5, _, _ => k2_5 | 2, 6, _, _ => k2_6 | 2, 7, _, _ => k2_7 | 3, 0, _, _ => k3_0 | 3, 1, _, _ => k3_1 | 3, 2, _, _ => k3_2 | 3, 3, _, _ => k3_3 | 3, 4, _, _ => k3_4 | 3, 5, _, _ => k3_5 | 3, 6, _, _ => k3_6 | 3, 7, _, _ => k3_7 | 4, 0, _, _ => k4_0 | 4, 1, _, _ => k4_1 | 4, 2, _, _ => k4_2 | 4, 3, _, _ => k4_3 | 4, 4, _, _ => k4_4 | 4, 5, _, _ => k4_5 | 4, 6, _, _ => k4_6 | 4, 7, _, _ => k4_7 | 5, 0, _, _ => k5_0 | 5, 1, _, _ => k5_1 | 5, 2, _, _ => k5_2 | 5, 3, _, _ => k5_3 | 5, 4, _, _ => k5_4 | 5, 5, _, _ => k5_5 | 5, 6, _, _ => k5_6 | 5, 7, _, _ => k5_7 | 6, 0, _, _ => k6_0 | 6, 1, _, _ => k6_1 | 6, 2, _, _ => k6_2 | 6, 3, _, _ => k6_3 | 6, 4, _, _ => k6_4 | 6, 5, _, _ => k6_5 | 6, 6, _, _ => k6_6 | 6, 7, _, _ => k6_7 | 7, 0, _, _ => k7_0 | 7, 1, _, _ => k7_1 | 7, 2, _, _ => k7_2 | 7, 3, _, _ => k7_3 | 7, 4, _, _ => k7_4 | 7, 5, _, _ => k7_5 | 7, 6, _, _ => k7_6 | 7, 7, _, _ => k7_7,
    fun i hi => match i, hi with | 0, _ => X0.kS | 1, _ => X1.kS | 2, _ => X2.kS | 3, _ => X3.kS | 4, _ => X4.kS | 5, _ => X5.kS | 6, _ => X6.kS | 7, _ => X7.kS, fun i hi => match i, hi with | 0, _ => X0.kP | 1, _ => X1.kP | 2, _ => X2.kP | 3, _ => X3.kP | 4, _ => X4.kP | 5, _ => X5.kP | 6, _ => X6.kP | 7, _ => X7.kP, fun i hi => match i, hi with | 0, _ => X0.kV | 1, _ => X1.kV | 2, _ => X2.kV | 3, _ => X3.kV | 4, _ => X4.kV | 5, _ => X5.kV | 6, _ => X6.kV | 7, _ => X7.kV, oc, ot⟩
  have Sh0 : SupD P K mg "PartError.__init__" sPartI fh0 CPt (PySem.W.fnX "__init__" "PartError.__init__" (defArgs sPartI) (defBody sPartI) (defScope sPartI) [("__class__", cch0)] .none kVh0 dch0 pmh0 anh0 (.ref cdah0) cth0) :=
    ⟨⟨_, _, _, _, _, _, _, _, _, _, _, _, _, _, _, _, _, _, _, _, rfl, lh0, coh0, lkh0, vh0, fih0, cc_h0, dh0⟩, m_super, top, no⟩
  have Sh5 : SupD P K mg "BadCommand.__init__" sCommI fh5 C5 (PySem.W.fnX "__init__" "BadCommand.__init__" (defArgs sCommI) (defBody sCommI) (defScope sCommI) [("__class__", cch5)] .none kVh5 dch5 pmh5 anh5 (.ref cdah5) cth5) :=
    ⟨⟨_, _, _, _, _, _, _, _, _, _, _, _, _, _, _, _, _, _, _, _, rfl, lh5, coh5, lkh5, vh5, fih5, cc_h5, dh5⟩, m_super, top, no⟩
  have Sh4 : SupD P K mg "BadText.__init__" sTextI fh4 C4 (PySem.W.fnX "__init__" "BadText.__init__" (defArgs sTextI) (defBody sTextI) (defScope sTextI) [("__class__", cch4)] .none kVh4 dch4 pmh4 anh4 (.ref cdah4) cth4) :=
    ⟨⟨_, _, _, _, _, _, _, _, _, _, _, _, _, _, _, _, _, _, _, _, rfl, lh4, coh4, lkh4, vh4, fih4, cc_h4, dh4⟩, m_super, top, no⟩
  have Sh7 : SupD P K mg "TooMany.__init__" sManyI fh7 C7 (PySem.W.fnX "__init__" "TooMany.__init__" (defArgs sManyI) (defBody sManyI) (defScope sManyI) [("__class__", cch7)] .none kVh7 dch7 pmh7 anh7 (.ref cdah7) cth7) :=
    ⟨⟨_, _, _, _, _, _, _, _, _, _, _, _, _, _, _, _, _, _, _, _, rfl, lh7, coh7, lkh7, vh7, fih7, cc_h7, dh7⟩, m_super, top, no⟩
  refine ok_law FL (cls := cls) (Cs := Cs) (CSo := CSo) (CPt := CPt) {
    B := PB
    E := ET8
    nf := fun i hi => match i, hi with | 0, _ => X0.nf | 1, _ => X1.nf | 2, _ => X2.nf | 3, _ => X3.nf | 4, _ => X4.nf | 5, _ => X5.nf | 6, _ => X6.nf | 7, _ => X7.nf
    fW := fW
    fdW := _
    FW := FW
    GW := ok_well FW m_int
    gW := PySem.W.mg_of X G aW
    bW := bW
    fO := fO
    fdO := _
    FO := FO
    GO := ok_one FO FDr bDr (PySem.W.mg_of X G aDr) m_int m_abs m_len
    gO := PySem.W.mg_of X G aO
    bO := bO
    fl := fl
    fdl := _
    Fl := Fl
    Gl := ok_fl Fl ET8 m_isinstance
    gl := PySem.W.mg_of X G al
    bl := bl
    fR := fR
    fdR := _
    FR := FR
    GR := ok_PR FR PB
    gR := PySem.W.mg_of X G aR
    bR := bR
    h0 := fh0
    hd0 := _
    ok0 := fun C => EcC K CPt C ∧ PySem.W.findIn K (.ref C) "part" = some none
    I0 := ok_PartI (k := 0) Sh0
    bI0 := Binds.all fun us hl => match us, hl with | [_, _], _ => rfl
    kI0 := ⟨fun s us ws _ l1 l2 => match us, ws, l1, l2 with | [_], [_], _, _ => .of_eq rfl, fun r1 r2 => r1.append r2⟩
    iC0 := fun i hi => match i, hi with | 0, _ => in0 | 1, _ => in1 | 2, _ => in2 | 3, _ => in3
    ty0 := th0
    oC0 := fun i hi => match i, hi with | 0, _ => ⟨⟨x0_, mr0, su0⟩, X0.nf "part" (by decide +kernel)⟩ | 1, _ => ⟨⟨x1_, mr1, su1⟩, X1.nf "part" (by decide +kernel)⟩ | 2, _ => ⟨⟨x2_, mr2, su2⟩, X2.nf "part" (by decide +kernel)⟩ | 3, _ => ⟨⟨x3_, mr3, su3⟩, X3.nf "part" (by decide +kernel)⟩
    h4 := fh4
    hd4 := _
    ok4 := fun C => EcC K C4 C ∧ PySem.W.findIn K (.ref C) "line" = some none ∧ PySem.W.findIn K (.ref C) "word" = some none
    I4 := ok_TextI (k := 0) Sh4
    bI4 := Binds.all fun us hl => match us, hl with | [_, _, _], _ => rfl
    kI4 := ⟨fun s us ws _ l1 l2 => match us, ws, l1, l2 with | [_], [_, _], _, _ => .of_eq rfl, fun r1 r2 => r1.append r2.reverse⟩
    iC4 := fun i hi => by subst hi; exact ih4
    ty4 := th4
    oC4 := fun i hi => by subst hi; exact ⟨⟨x4_, mr4, su4⟩, X4.nf "line" (by decide +kernel), X4.nf "word" (by decide +kernel)⟩
    h5 := fh5
    hd5 := _
    ok5 := fun C => EcC K C5 C ∧ PySem.W.findIn K (.ref C) "word" = some none
    I5 := ok_CommI (k := 0) Sh5
    bI5 := Binds.all fun us hl => match us, hl with | [_, _], _ => rfl
    kI5 := ⟨fun s us ws _ l1 l2 => match us, ws, l1, l2 with | [_], [_], _, _ => .of_eq rfl, fun r1 r2 => r1.append r2⟩
    iC5 := fun i hi => by subst hi; exact ih5
    ty5 := th5
    oC5 := fun i hi => by subst hi; exact ⟨⟨x5_, mr5, su5⟩, X5.nf "word" (by decide +kernel)⟩
    h7 := fh7
    hd7 := _
    ok7 := fun C => EcC K C7 C ∧ PySem.W.findIn K (.ref C) "what" = some none ∧ PySem.W.findIn K (.ref C) "most" = some none
    I7 := ok_ManyI (k := 0) Sh7
    bI7 := Binds.all fun us hl => match us, hl with | [_, _, _], _ => rfl
    kI7 := ⟨fun s us ws _ l1 l2 => match us, ws, l1, l2 with | [_], [_, _], _, _ => .of_eq rfl, fun r1 r2 => r1.append r2.reverse⟩
    iC7 := fun i hi => by subst hi; exact ih7
    ty7 := th7
    oC7 := fun i hi => by subst hi; exact ⟨⟨x7_, mr7, su7⟩, X7.nf "what" (by decide +kernel), X7.nf "most" (by decide +kernel)⟩
    q6 := q6_
    k6 := X6.kC
    m_VE := m_ValueError
    m_range := m_range
    m_enum := m_enumerate }
end K00
end DL

-- part K00Z
open PySem PySem.W PyProof.Rows
set_option maxHeartbeats 0
theorem PySem.Challenge.cw_alwaysso_k00_errors_and_papers_kept_holds : PySem.Challenge.rw_alwaysso_k00_errors_and_papers_kept.Holds := by
  w_on; o_law; k_head; (case hw => w_witness2)
  k_fill
  refine DL.walk_ofG (l := PySem.Challenge.rw_alwaysso_k00_errors_and_papers_kept) (n := 63) (k := 20) (x := "script") (sp := fun w => DL.spLaw _) rfl (by decide) rfl ⟨rfl, by decide, by decide⟩ (fun w h Y => PySem.W.kIn_of Y) ?F (fun _ _ a ns hl _ hS => ⟨a, ns, rfl, hS, hl, fun _ => rfl⟩)
  case F =>
    intro w mg fa h KX G hmg
    refine' DL.K00.all_mk KX G hmg ?aCPaper ?aCDenial ?aCSo ?aCPt ?aK ?lK ?cK ?kK ?aP ?lP ?cP ?kP ?abP ?lbP ?cbP ?kbP ?aEq ?lEq ?cEq ?kEq ?abD ?lbD ?cbD ?kbD ?aW ?lW ?cW ?kW ?aDr ?lDr ?cDr ?kDr ?aO ?lO ?cO ?kO ?aA ?lA ?cA ?kA ?al ?ll ?cl ?kl ?aR ?lR ?cR ?kR ?aL ?lL ?cL ?kL ?aStep ?iStep ?nStep ?lStep ?coStep ?lkStep ?vStep ?fiStep ?cc_Step ?dStep ?smStep ?siStep ?aCall ?iCall ?nCall ?lCall ?coCall ?lkCall ?vCall ?fiCall ?cc_Call ?dCall ?smCall ?siCall ?iDenial ?mPaper ?pPaper ?BPaper ?mDenial ?pDenial ?BDenial ?mStep ?pStep ?BStep ?mCall ?pCall ?BCall ?nfPaperPaper ?nfDenialPaper ?nfDenialDenial ?nfDenialStep ?nfDenialCall ?nfStepPaper ?nfStepDenial ?nfStepStep ?nfStepCall ?nfCallPaper ?nfCallDenial ?nfCallStep ?nfCallCall ?neqPD ?sbPD ?nfE ?nfP ?nfD ?nfI ?ne_ ?tP ?fP_ ?oc ?ot ?tuP ?tuD ?no ?top ?aE0 ?xc0 ?xr0 ?X0 ?aE1 ?xc1 ?xr1 ?X1 ?aE2 ?xc2 ?xr2 ?X2 ?aE3 ?xc3 ?xr3 ?X3 ?aE4 ?xc4 ?xr4 ?X4 ?aE5 ?xc5 ?xr5 ?X5 ?aE6 ?xc6 ?xr6 ?X6 ?aE7 ?xc7 ?xr7 ?X7 ?k0_0 ?k0_1 ?k0_2 ?k0_3 ?k0_4 ?k0_5 ?k0_6 ?k0_7 ?k1_0 ?k1_1 ?k1_2 ?k1_3 ?k1_4 ?k1_5 ?k1_6 ?k1_7 ?k2_0 ?k2_1 ?k2_2 ?k2_3 ?k2_4 ?k2_5 ?k2_6 ?k2_7 ?k3_0 ?k3_1 ?k3_2 ?k3_3 ?k3_4 ?k3_5 ?k3_6 ?k3_7 ?k4_0 ?k4_1 ?k4_2 ?k4_3 ?k4_4 ?k4_5 ?k4_6 ?k4_7 ?k5_0 ?k5_1 ?k5_2 ?k5_3 ?k5_4 ?k5_5 ?k5_6 ?k5_7 ?k6_0 ?k6_1 ?k6_2 ?k6_3 ?k6_4 ?k6_5 ?k6_6 ?k6_7 ?k7_0 ?k7_1 ?k7_2 ?k7_3 ?k7_4 ?k7_5 ?k7_6 ?k7_7 ?ih0 ?nh0 ?lh0 ?coh0 ?lkh0 ?vh0 ?fih0 ?cc_h0 ?dh0 ?th0 ?ih5 ?nh5 ?lh5 ?coh5 ?lkh5 ?vh5 ?fih5 ?cc_h5 ?dh5 ?th5 ?ih4 ?nh4 ?lh4 ?coh4 ?lkh4 ?vh4 ?fih4 ?cc_h4 ?dh4 ?th4 ?ih7 ?nh7 ?lh7 ?coh7 ?lkh7 ?vh7 ?fih7 ?cc_h7 ?dh7 ?th7 ?in0 ?in1 ?in2 ?in3 ?mr0 ?su0 ?mr1 ?su1 ?mr2 ?su2 ?mr3 ?su3 ?mr4 ?su4 ?mr5 ?su5 ?mr7 ?su7 ?q6_ ?z_int ?z_abs ?z_len ?z_isinstance ?z_list ?z_tuple ?z_type ?z_bool ?z_range ?z_enumerate ?z_super ?z_repr ?z_ValueError
    (case aCPaper => k_is)
    (case aCDenial => k_is)
    (case aCSo => k_is)
    (case aCPt => k_is)
    (case aK => k_is)
    (case lK => k_is)
    (case cK => k_is)
    (case kK => k_is)
    (case aP => k_is)
    (case lP => k_is)
    (case cP => k_is)
    (case kP => k_is)
    (case abP => k_is)
    (case lbP => k_is)
    (case cbP => k_is)
    (case kbP => k_is)
    (case aEq => k_is)
    (case lEq => k_is)
    (case cEq => k_is)
    (case kEq => k_is)
    (case abD => k_is)
    (case lbD => k_is)
    (case cbD => k_is)
    (case kbD => k_is)
    (case aW => k_is)
    (case lW => k_is)
    (case cW => k_is)
    (case kW => k_is)
    (case aDr => k_is)
    (case lDr => k_is)
    (case cDr => k_is)
    (case kDr => k_is)
    (case aO => k_is)
    (case lO => k_is)
    (case cO => k_is)
    (case kO => k_is)
    (case aA => k_is)
    (case lA => k_is)
    (case cA => k_is)
    (case kA => k_is)
    (case al => k_is)
    (case ll => k_is)
    (case cl => k_is)
    (case kl => k_is)
    (case aR => k_is)
    (case lR => k_is)
    (case cR => k_is)
    (case kR => k_is)
    (case aL => k_is)
    (case lL => k_is)
    (case cL => k_is)
    (case kL => k_is)
    (case aStep => k_is)
    (case iStep => k_is)
    (case nStep => k_is)
    (case lStep => k_is)
    (case coStep => k_is)
    (case lkStep => k_is)
    (case vStep => rfl)
    (case fiStep => decide +kernel)
    (case cc_Step => k_is)
    (case dStep => k_is)
    (case smStep => k_is)
    (case siStep => ks_is)
    (case aCall => k_is)
    (case iCall => k_is)
    (case nCall => k_is)
    (case lCall => k_is)
    (case coCall => k_is)
    (case lkCall => k_is)
    (case vCall => rfl)
    (case fiCall => decide +kernel)
    (case cc_Call => k_is)
    (case dCall => k_is)
    (case smCall => k_is)
    (case siCall => ks_is)
    (case iDenial => k_is)
    (case mPaper => k_is)
    (case pPaper => k_is)
    (case mDenial => k_is)
    (case pDenial => k_is)
    (case mStep => k_is)
    (case pStep => k_is)
    (case mCall => k_is)
    (case pCall => k_is)
    (case nfPaperPaper => k_is)
    (case nfDenialPaper => k_is)
    (case nfDenialDenial => k_is)
    (case nfDenialStep => k_is)
    (case nfDenialCall => k_is)
    (case nfStepPaper => k_is)
    (case nfStepDenial => k_is)
    (case nfStepStep => k_is)
    (case nfStepCall => k_is)
    (case nfCallPaper => k_is)
    (case nfCallDenial => k_is)
    (case nfCallStep => k_is)
    (case nfCallCall => k_is)
    (case neqPD => decide)
    (case sbPD => k_is)
    (case nfE => k_is)
    (case nfP => k_is)
    (case nfD => k_is)
    (case nfI => k_is)
    (case ne_ => decide)
    (case tP => k_is)
    (case fP_ => k_is)
    (case oc => k_is)
    (case ot => k_is)
    (case tuP => kit_is)
    (case tuD => kit_is)
    (case no => k_is)
    (case top => decide +kernel)
    (case aE0 => k_is)
    (case xc0 => k_is)
    (case xr0 => decide +kernel)
    (case aE1 => k_is)
    (case xc1 => k_is)
    (case xr1 => decide +kernel)
    (case aE2 => k_is)
    (case xc2 => k_is)
    (case xr2 => decide +kernel)
    (case aE3 => k_is)
    (case xc3 => k_is)
    (case xr3 => decide +kernel)
    (case aE4 => k_is)
    (case xc4 => k_is)
    (case xr4 => decide +kernel)
    (case aE5 => k_is)
    (case xc5 => k_is)
    (case xr5 => decide +kernel)
    (case aE6 => k_is)
    (case xc6 => k_is)
    (case xr6 => decide +kernel)
    (case aE7 => k_is)
    (case xc7 => k_is)
    (case xr7 => decide +kernel)
    (case k0_0 => kit_is)
    (case k0_1 => kit_is)
    (case k0_2 => kit_is)
    (case k0_3 => kit_is)
    (case k0_4 => kit_is)
    (case k0_5 => kit_is)
    (case k0_6 => kit_is)
    (case k0_7 => kit_is)
    (case k1_0 => kit_is)
    (case k1_1 => kit_is)
    (case k1_2 => kit_is)
    (case k1_3 => kit_is)
    (case k1_4 => kit_is)
    (case k1_5 => kit_is)
    (case k1_6 => kit_is)
    (case k1_7 => kit_is)
    (case k2_0 => kit_is)
    (case k2_1 => kit_is)
    (case k2_2 => kit_is)
    (case k2_3 => kit_is)
    (case k2_4 => kit_is)
    (case k2_5 => kit_is)
    (case k2_6 => kit_is)
    (case k2_7 => kit_is)
    (case k3_0 => kit_is)
    (case k3_1 => kit_is)
    (case k3_2 => kit_is)
    (case k3_3 => kit_is)
    (case k3_4 => kit_is)
    (case k3_5 => kit_is)
    (case k3_6 => kit_is)
    (case k3_7 => kit_is)
    (case k4_0 => kit_is)
    (case k4_1 => kit_is)
    (case k4_2 => kit_is)
    (case k4_3 => kit_is)
    (case k4_4 => kit_is)
    (case k4_5 => kit_is)
    (case k4_6 => kit_is)
    (case k4_7 => kit_is)
    (case k5_0 => kit_is)
    (case k5_1 => kit_is)
    (case k5_2 => kit_is)
    (case k5_3 => kit_is)
    (case k5_4 => kit_is)
    (case k5_5 => kit_is)
    (case k5_6 => kit_is)
    (case k5_7 => kit_is)
    (case k6_0 => kit_is)
    (case k6_1 => kit_is)
    (case k6_2 => kit_is)
    (case k6_3 => kit_is)
    (case k6_4 => kit_is)
    (case k6_5 => kit_is)
    (case k6_6 => kit_is)
    (case k6_7 => kit_is)
    (case k7_0 => kit_is)
    (case k7_1 => kit_is)
    (case k7_2 => kit_is)
    (case k7_3 => kit_is)
    (case k7_4 => kit_is)
    (case k7_5 => kit_is)
    (case k7_6 => kit_is)
    (case k7_7 => kit_is)
    (case ih0 => k_is)
    (case nh0 => k_is)
    (case lh0 => k_is)
    (case coh0 => k_is)
    (case lkh0 => k_is)
    (case vh0 => rfl)
    (case fih0 => decide +kernel)
    (case cc_h0 => k_is)
    (case dh0 => k_is)
    (case th0 => k_is)
    (case ih5 => k_is)
    (case nh5 => k_is)
    (case lh5 => k_is)
    (case coh5 => k_is)
    (case lkh5 => k_is)
    (case vh5 => rfl)
    (case fih5 => decide +kernel)
    (case cc_h5 => k_is)
    (case dh5 => k_is)
    (case th5 => k_is)
    (case ih4 => k_is)
    (case nh4 => k_is)
    (case lh4 => k_is)
    (case coh4 => k_is)
    (case lkh4 => k_is)
    (case vh4 => rfl)
    (case fih4 => decide +kernel)
    (case cc_h4 => k_is)
    (case dh4 => k_is)
    (case th4 => k_is)
    (case ih7 => k_is)
    (case nh7 => k_is)
    (case lh7 => k_is)
    (case coh7 => k_is)
    (case lkh7 => k_is)
    (case vh7 => rfl)
    (case fih7 => decide +kernel)
    (case cc_h7 => k_is)
    (case dh7 => k_is)
    (case th7 => k_is)
    (case in0 => k_is)
    (case in1 => k_is)
    (case in2 => k_is)
    (case in3 => k_is)
    (case mr0 => k_is)
    (case su0 => ks_is)
    (case mr1 => k_is)
    (case su1 => ks_is)
    (case mr2 => k_is)
    (case su2 => ks_is)
    (case mr3 => k_is)
    (case su3 => ks_is)
    (case mr4 => k_is)
    (case su4 => ks_is)
    (case mr5 => k_is)
    (case su5 => ks_is)
    (case mr7 => k_is)
    (case su7 => ks_is)
    (case q6_ => k_exc)
    (case z_int => k_is)
    (case z_abs => k_is)
    (case z_len => k_is)
    (case z_isinstance => k_is)
    (case z_list => k_is)
    (case z_tuple => k_is)
    (case z_type => k_is)
    (case z_bool => k_is)
    (case z_range => k_is)
    (case z_enumerate => k_is)
    (case z_super => k_is)
    (case z_repr => k_is)
    (case z_ValueError => k_is)
    (case BPaper => exact ⟨by k_is, by k_is, by k_is, by k_is, by k_is, by k_is, fun f hf => by (simp only [List.mem_cons, List.not_mem_nil, or_false] at hf; rcases hf with rfl | rfl | rfl | rfl | rfl | rfl | rfl | rfl | rfl | rfl <;> k_is), ⟨_, _, _, by k_is, rfl, rfl, rfl⟩, by k_is, by k_is, by k_is, by k_is, by k_is, by kit_is, by kit_is⟩)
    (case BDenial => exact ⟨by k_is, by k_is, by k_is, by k_is, by k_is, by k_is, fun f hf => by (simp only [List.mem_cons, List.not_mem_nil, or_false] at hf; rcases hf with rfl | rfl | rfl | rfl | rfl | rfl | rfl | rfl | rfl | rfl <;> k_is), ⟨_, _, _, by k_is, rfl, rfl, rfl⟩, by k_is, by k_is, by k_is, by k_is, by k_is, by kit_is, by kit_is⟩)
    (case BStep => exact ⟨by k_is, by k_is, by k_is, by k_is, by k_is, by k_is, fun f hf => by (simp only [List.mem_cons, List.not_mem_nil, or_false] at hf; rcases hf with rfl | rfl | rfl | rfl | rfl | rfl | rfl | rfl | rfl | rfl <;> k_is), ⟨_, _, _, by k_is, rfl, rfl, rfl⟩, by k_is, by k_is, by k_is, by k_is, by k_is, by kit_is, by kit_is⟩)
    (case BCall => exact ⟨by k_is, by k_is, by k_is, by k_is, by k_is, by k_is, fun f hf => by (simp only [List.mem_cons, List.not_mem_nil, or_false] at hf; rcases hf with rfl | rfl | rfl | rfl | rfl | rfl | rfl | rfl | rfl | rfl <;> k_is), ⟨_, _, _, by k_is, rfl, rfl, rfl⟩, by k_is, by k_is, by k_is, by k_is, by k_is, by kit_is, by kit_is⟩)
    (case X0 => exact ⟨by k_is, by k_is, by k_is, by k_is, by k_is, by k_is, by k_is, by k_is, by k_is, by k_is, fun f hf => by (simp only [List.mem_cons, List.not_mem_nil, or_false] at hf; rcases hf with rfl | rfl | rfl | rfl | rfl <;> k_is), by kit_is, by kit_is, by kit_is⟩)
    (case X1 => exact ⟨by k_is, by k_is, by k_is, by k_is, by k_is, by k_is, by k_is, by k_is, by k_is, by k_is, fun f hf => by (simp only [List.mem_cons, List.not_mem_nil, or_false] at hf; rcases hf with rfl | rfl | rfl | rfl | rfl <;> k_is), by kit_is, by kit_is, by kit_is⟩)
    (case X2 => exact ⟨by k_is, by k_is, by k_is, by k_is, by k_is, by k_is, by k_is, by k_is, by k_is, by k_is, fun f hf => by (simp only [List.mem_cons, List.not_mem_nil, or_false] at hf; rcases hf with rfl | rfl | rfl | rfl | rfl <;> k_is), by kit_is, by kit_is, by kit_is⟩)
    (case X3 => exact ⟨by k_is, by k_is, by k_is, by k_is, by k_is, by k_is, by k_is, by k_is, by k_is, by k_is, fun f hf => by (simp only [List.mem_cons, List.not_mem_nil, or_false] at hf; rcases hf with rfl | rfl | rfl | rfl | rfl <;> k_is), by kit_is, by kit_is, by kit_is⟩)
    (case X4 => exact ⟨by k_is, by k_is, by k_is, by k_is, by k_is, by k_is, by k_is, by k_is, by k_is, by k_is, fun f hf => by (simp only [List.mem_cons, List.not_mem_nil, or_false] at hf; rcases hf with rfl | rfl | rfl | rfl | rfl <;> k_is), by kit_is, by kit_is, by kit_is⟩)
    (case X5 => exact ⟨by k_is, by k_is, by k_is, by k_is, by k_is, by k_is, by k_is, by k_is, by k_is, by k_is, fun f hf => by (simp only [List.mem_cons, List.not_mem_nil, or_false] at hf; rcases hf with rfl | rfl | rfl | rfl | rfl <;> k_is), by kit_is, by kit_is, by kit_is⟩)
    (case X6 => exact ⟨by k_is, by k_is, by k_is, by k_is, by k_is, by k_is, by k_is, by k_is, by k_is, by k_is, fun f hf => by (simp only [List.mem_cons, List.not_mem_nil, or_false] at hf; rcases hf with rfl | rfl | rfl | rfl | rfl <;> k_is), by kit_is, by kit_is, by kit_is⟩)
    (case X7 => exact ⟨by k_is, by k_is, by k_is, by k_is, by k_is, by k_is, by k_is, by k_is, by k_is, by k_is, fun f hf => by (simp only [List.mem_cons, List.not_mem_nil, or_false] at hf; rcases hf with rfl | rfl | rfl | rfl | rfl <;> k_is), by kit_is, by kit_is, by kit_is⟩)

